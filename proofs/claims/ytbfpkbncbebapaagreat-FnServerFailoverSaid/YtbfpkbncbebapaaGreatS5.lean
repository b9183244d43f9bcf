/- A part. -/
import Derived.Test.YtbfpkbncbebapaaGreatS3
set_option linter.unusedVariables false
open Option renaming bind->YL
namespace Go.AM
open Go.Proofs
open Tryz
attribute [local irreducible] AWN NS AWO AWR AWC DR dQ gQ
set_option maxRecDepth 100000
set_option maxHeartbeats 40000000
def BW:(Int×List Int×aT)->Option (cf (Int×List Int×aT) (List Int×aT))
 |(v4,v8,v9)=>bif ltB v4 4 then(YL (im v9 3) λr17=>YL (bif r17.1 then(bif dh 8 (v8++[v4]).length then(some (v8++[v4])) else none) else(some v8)) λ(v18:List Int)=>some (.next (WR (v4+1),v18,r17.2))) else(some (.done (v8,v9)))
def At (a0:aT):Option (bk×aT):=
 YL (co a0 9) λr1=>YL (co r1.2 4) λr2=>YL (co r2.2 20) λr3=>YL (iter (BW) FU (0,([]:List Int),r3.2)) λ((v15,v16):List Int×aT)=>some ((⟨WR (1+r1.1),WR (1+r2.1),WR (1+r3.1),v15⟩:bk),v16)
theorem LV {a0:aT} {r:bk×aT} (H:At a0=some r):FnV prog 135 [(200,.var 148 (kM [.f] (bS a0)))] [tP 200] [(200,.var 148 (kM [.f] (bS r.2)))] (.v (.agg (kM [.n 210] (dD r.1)))) [(210,n3 r.1.bj)]:=by
 refine fV func135 ntmps135 ?_
 refine aa H λr1 q1 H=>sA (cw (o:=200) (bU q1)) ?_
 refine aa H λr2 q2 H=>sA (cw (o:=200) (bU q2)) ?_
 refine aa H λr3 q3 H=>sA (cw (o:=200) (bU q3)) ?_
 obtain⟨⟨v15,v16⟩,Hj,H⟩:=ob H
 refine jB ⟨[(2,tP 210),(3,tP 211)],(oM [.n 212] 211 59 (dD (⟨WR (1+r1.1),WR (1+r2.1),WR (1+r3.1),v15⟩:bk))++[(200,.var 148 (kM [.f] (bS v16))),(210,.var 59 (kM [.z] (dD nJ)))]),213⟩ ?_ ?_
 .refine iT Hj (λq=>⟨[(0,tP 200),(2,tP 210),(3,tP 211),(4,tI q.1)],(oM [.n 212] 211 59 (dD (⟨WR (1+r1.1),WR (1+r2.1),WR (1+r3.1),q.2.1⟩:bk))++[(200,.var 148 (kM [.f] (bS q.2.2))),(210,.var 59 (kM [.z] (dD nJ)))]),213⟩) ?_ (by refine ay (dE (o:=211) (j:=3) 3 1 true) ?_;refine ay (wB 212 (([]:List Int).length)) ?_;exact wo)
  rintro⟨v4,v8,v9⟩ o H
  try dsimp only
  refine wI ?_
  refine cC H ?_ ?_<;>intro H
  .refine aa H λr17 q17 H=>sA (cw (o:=200) (ia q17)) ?_
   refine aa H λv18 Hj H=>jA ⟨[(0,tP 200),(2,tP 210),(3,tP 211),(4,tI v4)],(oM [.n 212] 211 59 (dD (⟨WR (1+r1.1),WR (1+r2.1),WR (1+r3.1),v18⟩:bk))++[(200,.var 148 (kM [.f] (bS r17.2))),(210,.var 59 (kM [.z] (dD nJ)))]),213⟩ ?_ ?_
   .refine cC Hj ?_ ?_<;>intro H
    .obtain⟨h,H⟩:=rq H
     refine sA (B4 (enc:=eI) (ys:=v8) (zs:=[v4]) h (by first|exact List.cons_ne_nil _ _|simp) rfl (λ_=>rfl) (by first|rfl|simp) (.w rfl (by first|rfl|exact lm _|simp)) rfl rfl rfl rfl rfl rfl rfl rfl rfl rfl) ?_
     cases H
     refine ay (dS 212) ?_
     exact wo
    exact ai H
   cases H
   refine dy ?_
   exact wo
  cases H
  refine dF (λhq=>?_)
  cases hq
  refine wI ?_
  exact wo
 cases H
 refine bV (wS 212 210) ?_
 exact bO
def nB (a0:List aG) (v1:Int):Int->Option (cf (Int) (cf (Int) (Bool)))
 |v4=>bif ltB v4 v1 then(YL (ix a0 v4) λx5=>YL (ix a0 v1) λx6=>bif(eqB x5.ID.du x6.ID.du&&(eqB x5.ID.bK x6.ID.bK&&true)) then(dn (dn (some false))) else(some (.next (WR (v4+1))))) else(dn (some (.next (WR (v1+1)))))
def nz (a0:List aG):Int->Option (cf (Int) (Bool))
 |v1=>bif ltB v1 (a0.length:Int) then(YL (ix a0 v1) λx2=>YL (ei x2) λr3=>bif !r3 then(dn (some false)) else(iter (nB a0 v1) FU 0)) else(dn (some (leB (a0.length:Int) 4)))
def sI (a0:List aG):Option Bool:=
 iter (nz a0) FU 0
theorem Fx {a0:List aG} {r:Bool} (H:sI a0=some r):Fn prog 208 [aL (a0.map cA)] [.c (.d (.b r))]:=by
 refine fI func208 ntmps208 ?_
 refine iT H (λq=>⟨[(0,.v (.c (.d false (.l (a0.map cA))))),(3,tI q)],[],0⟩) ?_
 rintro v1 o H
 try dsimp only
 refine wI ?_
 refine cC H ?_ ?_<;>intro H
 .refine aa H λx2 hx2 H=>nA (xdT (enc:=cA) hx2) ?_
  refine aa H λr3 q3 H=>nA (ca (hF:=gU q3)) ?_
  refine cC H ?_ ?_<;>intro H
  .obtain⟨r0,Hd,rfl⟩:=dnE H
   refine f6 (λhq=>?_)
   have H:=Hd.trans (congrArg some hq)
   refine wI ?_
   exact ao H
  refine iT H (λq=>⟨[(0,.v (.c (.d false (.l (a0.map cA))))),(3,tI v1),(4,tI q)],[],0⟩) ?_
  rintro v4 o H
  try dsimp only
  refine wI ?_
  refine cC H ?_ ?_<;>intro H
  .refine dI ?_
   refine aa H λx5 hx5 H=>dA (xdT (enc:=cA) hx5) ?_
   refine aa H λx6 hx6 H=>dA (xdT (enc:=cA) hx6) ?_
   refine wI ?_
   refine cC H ?_ ?_<;>intro H
   .obtain⟨r0,Hd,rfl⟩:=dnE H
    refine f6 (λhq=>?_)
    have H:=Hd.trans (congrArg some hq)
    refine wI ?_
    obtain⟨r0,Hd,rfl⟩:=dnE H
    refine f6 (λhq=>?_)
    have H:=Hd.trans (congrArg some hq)
    refine wI ?_
    exact ao H
   cases H
   refine dy ?_
   exact wo
  obtain⟨r0,Hd,rfl⟩:=dnE H
  refine dF (λhq=>?_)
  have H:=Hd.trans (congrArg some hq)
  refine wI ?_
  cases H
  refine dy ?_
  exact wo
 obtain⟨r0,Hd,rfl⟩:=dnE H
 refine dF (λhq=>?_)
 have H:=Hd.trans (congrArg some hq)
 refine wI ?_
 exact ao H
def BQ (r1:Int×aT):(Int×List Int×Int×Int×List Int)->Option (cf (Int×List Int×Int×Int×List Int) (List Int×Int×Int×List Int))
 |(v2,v3,v4,v5,v6)=>bif ltB v2 (WR (2+r1.1)) then(YL (co (⟨v3,v4,v5⟩:aT) 2) λr12=>bif dh 32 (v6++[r12.1]).length then(some (.next (WR (v2+1),r12.2.fb,r12.2.fi,r12.2.fh,(v6++[r12.1])))) else none) else(some (.done (v3,v4,v5,v6)))
def BS (v13:Int):(Int×List Int×Int×Int×List (Int×List Int))->Option (cf (Int×List Int×Int×Int×List (Int×List Int)) (List Int×Int×Int×List (Int×List Int)))
 |(v43,v44,v45,v46,v47)=>bif ltB v43 v13 then(YL (bif eqB v43 (WR (v13-1)) then(YL (im (⟨v44,v45,v46⟩:aT) 5) λr62=>bif !r62.1 then(some (true,r62.2.fb,r62.2.fi,r62.2.fh)) else(YL (im r62.2 4) λr63=>some (r63.1,r63.2.fb,r63.2.fi,r63.2.fh))) else(YL (im (⟨v44,v45,v46⟩:aT) 4) λr64=>some (r64.1,r64.2.fb,r64.2.fi,r64.2.fh))) λ((v58,v59,v60,v61):Bool×List Int×Int×Int)=>YL (bif v58 then(YL (tO v47 v43 v13) λr65=>some r65) else(some v47)) λ(v62:List (Int×List Int))=>some (.next (WR (v43+1),v59,v60,v61,v62))) else(some (.done (v44,v45,v46,v47)))
def BR (r1:Int×aT):(Int×List Int×Int×Int×List (Int×List Int))->Option (cf (Int×List Int×Int×Int×List (Int×List Int)) (List Int×Int×Int×List (Int×List Int)))
 |(v13,v14,v15,v16,v17)=>bif ltB v13 (WR (2+r1.1)) then(YL (iter (BS v13) FU (0,v14,v15,v16,v17)) λ((v55,v56,v57,v58):List Int×Int×Int×List (Int×List Int))=>some (.next (WR (v13+1),v55,v56,v57,v58))) else(some (.done (v14,v15,v16,v17)))
def BU (r1:Int×aT) (v66:Int) (v67:List (Int×List Int)):(Int×List Int)->Option (cf (Int×List Int) (List Int))
 |(v79,v80)=>bif ltB v79 (WR (2+r1.1)) then(YL (ix v67 v66) λx85=>YL (Ao x85.2 v79) λr86=>YL (bif r86 then(bif dh 8 (v80++[v79]).length then(some (v80++[v79])) else none) else(some v80)) λ(v87:List Int)=>some (.next (WR (v79+1),v87))) else(some (.done v80))
def BT (r1:Int×aT):(Int×List (Int×List Int))->Option (cf (Int×List (Int×List Int)) (List (Int×List Int)))
 |(v66,v67)=>bif ltB v66 (WR (2+r1.1)) then(YL (iter (BU r1 v66 v67) FU (0,([]:List Int))) λ(v84:List Int)=>YL (ix v67 v66) λx88=>some (.next (WR (v66+1),(v67.set (v66).toNat (x88.1,v84))))) else(some (.done v67))
def xu (a0:aT):Option (List (Int×List Int)×aT):=
 YL (co a0 4) λr1=>YL (iter (BQ r1) FU (0,r1.2.fb,r1.2.fi,r1.2.fh,([]:List Int))) λ((v8,v9,v10,v11):List Int×Int×Int×List Int)=>YL (iter (BR r1) FU (1,v8,v9,v10,v11.map λa=>(a,[]))) λ((v40,v41,v42,v43):List Int×Int×Int×List (Int×List Int))=>YL (iter (BT r1) FU (0,v43)) λ(v78:List (Int×List Int))=>some (v78,(⟨v40,v41,v42⟩:aT))
def An (a0:aT):Option (aM×aT):=
 YL (xu a0) λr=>some ((⟨r.1.map λe=>(⟨e.1,e.2⟩:eH)⟩:aM),r.2)
theorem Ki {a0:aT} {r:List (Int×List Int)×aT} (H:xu a0=some r) {AQ:Exit->St->Prop} [Clo 85 AQ] (hq:AQ .ret ⟨[(2,.v (.c (.p 220 0)))],[(200,.var 148 [.d false (.l (r.2.fb.map eU8)),.d false (.i .i64 r.2.fi),.d false (.i .i64 r.2.fh)]),(220,.var 26 [.wn 222 r.1.length]),(222,.cxo 222 158 3 r.1 none)],223⟩):
 ∃c,Tryz.f137.body=some c/\AWC prog 85 c ⟨[(0,.v (.c (.p 200 0)))],[(200,.var 148 [.d false (.l (a0.fb.map eU8)),.d false (.i .i64 a0.fi),.d false (.i .i64 a0.fh)])],220⟩ AQ:=by
 refine⟨_,rfl,?_⟩
 refine wkz ?_
 refine aa H λr1 q1 H=>eX rfl (cw (o:=200) (bU q1) rfl rfl rfl rfl rfl rfl trivial rfl rfl rfl rfl) ?_
 refine wkz ?_
 obtain⟨⟨v8,v9,v10,v11⟩,Hj,H⟩:=ob H
 refine ti ⟨[(0,.v (.c (.p 200 0))),(2,.v (.c (.p 220 0))),(3,.v (.c (.p 221 0))),(4,tI (WR (2+r1.1)))],[(200,.var 148 [.d false (.l (v8.map eU8)),.d false (.i .i64 v9),.d false (.i .i64 v10)]),(220,.var 26 [.nil]),(221,.var 26 [.wn 222 v11.length]),(222,.rown 158 2 (v11.map VA) true)],223⟩ ?_ ?_
 .refine wkz ?_
  refine th (λ(q:Int×List Int×Int×Int×List Int)=>⟨[(0,.v (.c (.p 200 0))),(2,.v (.c (.p 220 0))),(3,.v (.c (.p 221 0))),(4,tI (WR (2+r1.1))),(5,tI q.1)],[(200,.var 148 [.d false (.l (q.2.1.map eU8)),.d false (.i .i64 q.2.2.1),.d false (.i .i64 q.2.2.2.1)]),(220,.var 26 [.nil]),(221,.var 26 [.wn 222 q.2.2.2.2.length]),(222,.rown 158 2 (q.2.2.2.2.map VA) true)],223⟩) Hj (by refine ay (dE (o:=221) (j:=0) 158 2 true rfl rfl rfl rfl rfl) ?_;refine ay (t0 (o:=222) (n:=([]:List Int).length) rfl rfl (by repeat (first|exact trivial|refine⟨by first|rfl|simp,?_⟩)) (by repeat (first|exact trivial|refine⟨by first|rfl|simp,?_⟩))) ?_;exact ev ⟨rfl,rfl,rfl,rfl,rfl,rfl,rfl,rfl,rfl,rfl,trivial⟩ ⟨rfl,⟨rfl,rfl⟩,rfl,⟨rfl,rfl⟩,rfl,⟨rfl,rfl⟩,rfl,⟨rfl,rfl⟩,trivial⟩) ?_
  rintro⟨v2,v3,v4,v5,v6⟩ o H
  try dsimp only
  refine wkz ?_
  refine oF rfl (λh=>?_) (λh=>?_)
  .have H:=bt h H
   refine wkz ?_
   refine ua [0,1,2,3,4,5,6,7,8] Try.follows (by kernel_rfl) (by kernel_rfl) rfl ?_
   refine wkz ?_
   refine aa H λr12 q12 H=>B5 rfl (cwx (o:=200) (bU q12) rfl rfl rfl rfl rfl rfl trivial rfl rfl rfl rfl) ?_
   refine lM rfl (bdk rfl rfl rfl rfl) ?_
   refine wkz ?_
   obtain⟨h,H⟩:=rq H
   refine Ha (by kernel_rfl) rfl (by kernel_rfl) bW (hP rfl (B4 (enc:=VA) (ys:=v6) (zs:=[r12.1]) h (by first|exact List.cons_ne_nil _ _|simp) rfl (λ_=>rfl) (by first|rfl|simp) (.w rfl (by first|rfl|exact lm _|simp)) rfl rfl rfl rfl rfl rfl rfl rfl rfl rfl)) bW rfl ?_
   refine wkz ?_
   refine B5 rfl (spx 100015 rfl rfl rfl rfl rfl rfl rfl rfl) ?_
   refine wkz ?_
   cases H
   refine dy ?_
   refine ay (dS 222 rfl rfl rfl) ?_
   exact ev ⟨rfl,rfl,rfl,rfl,rfl,rfl,rfl,rfl,rfl,rfl,trivial⟩ ⟨rfl,⟨rfl,rfl⟩,rfl,⟨rfl,rfl⟩,rfl,⟨rfl,rfl⟩,rfl,⟨rfl,rfl⟩,trivial⟩
  have H:=bf h H
  refine wkz ?_
  cases H
  refine dF (λhq=>?_)
  cases hq
  refine wkz ?_
  exact ev ⟨rfl,rfl,rfl,rfl,rfl,rfl,rfl,rfl,trivial⟩ ⟨rfl,⟨rfl,rfl⟩,rfl,⟨rfl,rfl⟩,rfl,⟨rfl,rfl⟩,rfl,⟨rfl,rfl⟩,trivial⟩
 refine wkz ?_
 refine mf (UQ (o:=222) (nt:=3) (al:=v11) rfl rfl) ?_
 refine mf (t0 (o:=222) (n:=(v11.map λa=>((a,[]):Int×List Int)).length) rfl rfl (by repeat (first|exact trivial|refine⟨by first|rfl|simp,?_⟩)) (by repeat (first|exact trivial|refine⟨by first|rfl|simp,?_⟩))) ?_
 obtain⟨⟨v40,v41,v42,v43⟩,Hj,H⟩:=ob H
 refine ti ⟨[(2,.v (.c (.p 220 0))),(3,.v (.c (.p 221 0))),(4,tI (WR (2+r1.1)))],[(200,.var 148 [.d false (.l (v40.map eU8)),.d false (.i .i64 v41),.d false (.i .i64 v42)]),(220,.var 26 [.nil]),(221,.var 26 [.wn 222 v43.length]),(222,.cxo 222 158 3 v43 none)],223⟩ ?_ ?_
 .refine wkz ?_
  refine th (λ(q:Int×List Int×Int×Int×List (Int×List Int))=>⟨[(0,.v (.c (.p 200 0))),(2,.v (.c (.p 220 0))),(3,.v (.c (.p 221 0))),(4,tI (WR (2+r1.1))),(6,tI q.1)],[(200,.var 148 [.d false (.l (q.2.1.map eU8)),.d false (.i .i64 q.2.2.1),.d false (.i .i64 q.2.2.2.1)]),(220,.var 26 [.nil]),(221,.var 26 [.wn 222 q.2.2.2.2.length]),(222,.cxo 222 158 3 q.2.2.2.2 none)],223⟩) Hj (ev ⟨rfl,rfl,rfl,rfl,rfl,rfl,rfl,rfl,rfl,rfl,trivial⟩ ⟨rfl,⟨rfl,rfl⟩,rfl,⟨rfl,rfl⟩,rfl,⟨rfl,rfl⟩,rfl,⟨rfl,rfl⟩,trivial⟩) ?_
  rintro⟨v13,v14,v15,v16,v17⟩ o H
  try dsimp only
  refine wkz ?_
  refine oF rfl (λh=>?_) (λh=>?_)
  .have H:=bt h H
   refine wkz ?_
   obtain⟨⟨v55,v56,v57,v58⟩,Hj,H⟩:=ob H
   refine ti ⟨[(0,.v (.c (.p 200 0))),(2,.v (.c (.p 220 0))),(3,.v (.c (.p 221 0))),(4,tI (WR (2+r1.1))),(6,tI v13)],[(200,.var 148 [.d false (.l (v55.map eU8)),.d false (.i .i64 v56),.d false (.i .i64 v57)]),(220,.var 26 [.nil]),(221,.var 26 [.wn 222 v58.length]),(222,.cxo 222 158 3 v58 none)],223⟩ ?_ ?_
   .refine wkz ?_
    refine th (λ(q:Int×List Int×Int×Int×List (Int×List Int))=>⟨[(0,.v (.c (.p 200 0))),(2,.v (.c (.p 220 0))),(3,.v (.c (.p 221 0))),(4,tI (WR (2+r1.1))),(6,tI v13),(7,tI q.1)],[(200,.var 148 [.d false (.l (q.2.1.map eU8)),.d false (.i .i64 q.2.2.1),.d false (.i .i64 q.2.2.2.1)]),(220,.var 26 [.nil]),(221,.var 26 [.wn 222 q.2.2.2.2.length]),(222,.cxo 222 158 3 q.2.2.2.2 none)],223⟩) Hj (ev ⟨rfl,rfl,rfl,rfl,rfl,rfl,rfl,rfl,rfl,rfl,rfl,rfl,trivial⟩ ⟨rfl,⟨rfl,rfl⟩,rfl,⟨rfl,rfl⟩,rfl,⟨rfl,rfl⟩,rfl,⟨rfl,rfl⟩,trivial⟩) ?_
    rintro⟨v43,v44,v45,v46,v47⟩ o H
    try dsimp only
    refine wkz ?_
    refine oF rfl (λh=>?_) (λh=>?_)
    .have H:=bt h H
     refine wkz ?_
     obtain⟨⟨v58,v59,v60,v61⟩,Hj,H⟩:=ob H
     refine IH ⟨[(0,.v (.c (.p 200 0))),(2,.v (.c (.p 220 0))),(3,.v (.c (.p 221 0))),(4,tI (WR (2+r1.1))),(6,tI v13),(7,tI v43),(50,tB v58)],[(200,.var 148 [.d false (.l (v59.map eU8)),.d false (.i .i64 v60),.d false (.i .i64 v61)]),(220,.var 26 [.nil]),(221,.var 26 [.wn 222 v47.length]),(222,.cxo 222 158 3 v47 none)],223⟩ ?_ ?_
     .have H:=Hj
      refine wkz ?_
      refine g2 rfl rfl rfl (λh=>?_) (λh=>?_)
      .have H:=bt h H
       refine wkz ?_
       refine aa H λr62 q62 H=>lb rfl rfl (cS rfl) rfl (cw (o:=200) (ia q62) rfl rfl rfl rfl rfl rfl trivial rfl rfl rfl rfl) ?_
       refine wkz ?_
       refine g2 rfl rfl rfl (λh=>?_) (λh=>?_)
       .have H:=bt h H
        refine wkz ?_
        cases H
        exact ev ⟨rfl,rfl,rfl,rfl,rfl,rfl,rfl,rfl,rfl,rfl,rfl,rfl,rfl,rfl,trivial⟩ ⟨rfl,⟨rfl,rfl⟩,rfl,⟨rfl,rfl⟩,rfl,⟨rfl,rfl⟩,rfl,⟨rfl,rfl⟩,trivial⟩
       have H:=bf h H
       refine wkz ?_
       refine aa H λr63 q63 H=>lb rfl rfl (cS rfl) rfl (cw (o:=200) (ia q63) rfl rfl rfl rfl rfl rfl trivial rfl rfl rfl rfl) ?_
       refine wkz ?_
       cases H
       exact ev ⟨rfl,rfl,rfl,rfl,rfl,rfl,rfl,rfl,rfl,rfl,rfl,rfl,rfl,rfl,trivial⟩ ⟨rfl,⟨rfl,rfl⟩,rfl,⟨rfl,rfl⟩,rfl,⟨rfl,rfl⟩,rfl,⟨rfl,rfl⟩,trivial⟩
      have H:=bf h H
      refine wkz ?_
      refine aa H λr64 q64 H=>lb rfl rfl (cS rfl) rfl (cw (o:=200) (ia q64) rfl rfl rfl rfl rfl rfl trivial rfl rfl rfl rfl) ?_
      refine wkz ?_
      cases H
      exact ev ⟨rfl,rfl,rfl,rfl,rfl,rfl,rfl,rfl,rfl,rfl,rfl,rfl,rfl,rfl,trivial⟩ ⟨rfl,⟨rfl,rfl⟩,rfl,⟨rfl,rfl⟩,rfl,⟨rfl,rfl⟩,rfl,⟨rfl,rfl⟩,trivial⟩
     refine wkz ?_
     refine aa H λv62 Hj H=>vz ⟨[(0,.v (.c (.p 200 0))),(2,.v (.c (.p 220 0))),(3,.v (.c (.p 221 0))),(4,tI (WR (2+r1.1))),(6,tI v13),(7,tI v43)],[(200,.var 148 [.d false (.l (v59.map eU8)),.d false (.i .i64 v60),.d false (.i .i64 v61)]),(220,.var 26 [.nil]),(221,.var 26 [.wn 222 v62.length]),(222,.cxo 222 158 3 v62 none)],223⟩ ?_ ?_
     .have H:=Hj
      refine wkz ?_
      refine oF rfl (λh=>?_) (λh=>?_)
      .have H:=bt h H
       refine wkz ?_
       obtain⟨r65,q65,H⟩:=ob H
       obtain⟨cJ,hcJ,hJ⟩:=Kj (fb:=v59.map eU8) (fi:=v60) (fh:=v61) q65 rfl
       refine eX rfl (o_inl (m:=[(200,200),(202,220),(203,221),(222,222)]) (m':=[(200,200),(202,220),(203,221),(222,222)]) (nx':=223) func213 hcJ (by kernel_rfl) ntmps213 rfl hJ rfl rfl rfl rfl rfl rfl rfl rfl rfl rfl rfl) ?_
       refine wkz ?_
       cases H
       refine ay (t0 (o:=222) (n:=v62.length) rfl rfl (by repeat (first|exact trivial|refine⟨by first|rfl|exact(p6 q65).symm|exact p6 q65|simp,?_⟩)) (by repeat (first|exact trivial|refine⟨by first|rfl|exact(p6 q65).symm|exact p6 q65|simp,?_⟩))) ?_
       exact ev ⟨rfl,rfl,rfl,rfl,rfl,rfl,rfl,rfl,rfl,rfl,rfl,rfl,trivial⟩ ⟨rfl,⟨rfl,rfl⟩,rfl,⟨rfl,rfl⟩,rfl,⟨rfl,rfl⟩,rfl,⟨rfl,rfl⟩,trivial⟩
      have H:=bf h H
      refine wkz ?_
      cases H
      exact ev ⟨rfl,rfl,rfl,rfl,rfl,rfl,rfl,rfl,rfl,rfl,rfl,rfl,trivial⟩ ⟨rfl,⟨rfl,rfl⟩,rfl,⟨rfl,rfl⟩,rfl,⟨rfl,rfl⟩,rfl,⟨rfl,rfl⟩,trivial⟩
     refine wkz ?_
     cases H
     refine dy ?_
     exact ev ⟨rfl,rfl,rfl,rfl,rfl,rfl,rfl,rfl,rfl,rfl,rfl,rfl,trivial⟩ ⟨rfl,⟨rfl,rfl⟩,rfl,⟨rfl,rfl⟩,rfl,⟨rfl,rfl⟩,rfl,⟨rfl,rfl⟩,trivial⟩
    have H:=bf h H
    refine wkz ?_
    cases H
    refine dF (λhq=>?_)
    cases hq
    refine wkz ?_
    exact ev ⟨rfl,rfl,rfl,rfl,rfl,rfl,rfl,rfl,rfl,rfl,trivial⟩ ⟨rfl,⟨rfl,rfl⟩,rfl,⟨rfl,rfl⟩,rfl,⟨rfl,rfl⟩,rfl,⟨rfl,rfl⟩,trivial⟩
   refine wkz ?_
   cases H
   refine dy ?_
   exact ev ⟨rfl,rfl,rfl,rfl,rfl,rfl,rfl,rfl,rfl,rfl,trivial⟩ ⟨rfl,⟨rfl,rfl⟩,rfl,⟨rfl,rfl⟩,rfl,⟨rfl,rfl⟩,rfl,⟨rfl,rfl⟩,trivial⟩
  have H:=bf h H
  refine wkz ?_
  cases H
  refine dF (λhq=>?_)
  cases hq
  refine wkz ?_
  exact ev ⟨rfl,rfl,rfl,rfl,rfl,rfl,trivial⟩ ⟨rfl,⟨rfl,rfl⟩,rfl,⟨rfl,rfl⟩,rfl,⟨rfl,rfl⟩,rfl,⟨rfl,rfl⟩,trivial⟩
 refine wkz ?_
 refine aa H λv78 Hj H=>ti ⟨[(2,.v (.c (.p 220 0))),(3,.v (.c (.p 221 0)))],[(200,.var 148 [.d false (.l (v40.map eU8)),.d false (.i .i64 v41),.d false (.i .i64 v42)]),(220,.var 26 [.nil]),(221,.var 26 [.wn 222 v78.length]),(222,.cxo 222 158 3 v78 none)],223⟩ ?_ ?_
 .refine wkz ?_
  refine th (λ(q:Int×List (Int×List Int))=>⟨[(2,.v (.c (.p 220 0))),(3,.v (.c (.p 221 0))),(4,tI (WR (2+r1.1))),(8,tI q.1)],[(200,.var 148 [.d false (.l (v40.map eU8)),.d false (.i .i64 v41),.d false (.i .i64 v42)]),(220,.var 26 [.nil]),(221,.var 26 [.wn 222 q.2.length]),(222,.cxo 222 158 3 q.2 none)],223⟩) Hj (ev ⟨rfl,rfl,rfl,rfl,rfl,rfl,rfl,rfl,trivial⟩ ⟨rfl,⟨rfl,rfl⟩,rfl,⟨rfl,rfl⟩,rfl,⟨rfl,rfl⟩,rfl,⟨rfl,rfl⟩,trivial⟩) ?_
  rintro⟨v66,v67⟩ o H
  try dsimp only
  refine wkz ?_
  refine oF rfl (λh=>?_) (λh=>?_)
  .have H:=bt h H
   refine wkz ?_
   refine aa H λv84 Hj H=>ti ⟨[(2,.v (.c (.p 220 0))),(3,.v (.c (.p 221 0))),(4,tI (WR (2+r1.1))),(8,tI v66),(9,.v (.c (.w 223 v84.length)))],[(200,.var 148 [.d false (.l (v40.map eU8)),.d false (.i .i64 v41),.d false (.i .i64 v42)]),(220,.var 26 [.nil]),(221,.var 26 [.wn 222 v67.length]),(222,.cxo 222 158 3 v67 none),(223,.row 3 1 (v84.map eI) true true)],224⟩ ?_ ?_
   .refine wkz ?_
    refine th (λ(q:Int×List Int)=>⟨[(2,.v (.c (.p 220 0))),(3,.v (.c (.p 221 0))),(4,tI (WR (2+r1.1))),(8,tI v66),(9,.v (.c (.w 223 q.2.length))),(10,tI q.1)],[(200,.var 148 [.d false (.l (v40.map eU8)),.d false (.i .i64 v41),.d false (.i .i64 v42)]),(220,.var 26 [.nil]),(221,.var 26 [.wn 222 v67.length]),(222,.cxo 222 158 3 v67 none),(223,.row 3 1 (q.2.map eI) true true)],224⟩) Hj (ev ⟨rfl,rfl,rfl,rfl,rfl,rfl,rfl,rfl,wn rfl (by first|rfl|simp),rfl,rfl,rfl,trivial⟩ ⟨rfl,⟨rfl,rfl⟩,rfl,⟨rfl,rfl⟩,rfl,⟨rfl,rfl⟩,rfl,⟨rfl,rfl⟩,rfl,⟨rfl,rfl⟩,trivial⟩) ?_
    rintro⟨v79,v80⟩ o H
    try dsimp only
    refine wkz ?_
    refine oF rfl (λh=>?_) (λh=>?_)
    .have H:=bt h H
     refine wkz ?_
     refine aa H λx85 hx85 H=>xW rfl (oY hx85 rfl rfl rfl rfl) ?_
     refine wkz ?_
     refine xW rfl (olx (ixE hx85).2 rfl rfl rfl) ?_
     refine wkz ?_
     refine aa H λr86 q86 H=>xW rfl (ca rfl rfl rfl (Bp q86) trivial rfl rfl rfl rfl) ?_
     refine wkz ?_
     refine aa H λv87 Hj H=>vz ⟨[(2,.v (.c (.p 220 0))),(3,.v (.c (.p 221 0))),(4,tI (WR (2+r1.1))),(8,tI v66),(9,.v (.c (.w 223 v87.length))),(10,tI v79)],[(200,.var 148 [.d false (.l (v40.map eU8)),.d false (.i .i64 v41),.d false (.i .i64 v42)]),(220,.var 26 [.nil]),(221,.var 26 [.wn 222 v67.length]),(222,.cxo 222 158 3 v67 none),(223,.row 3 1 (v87.map eI) true true)],224⟩ ?_ ?_
     .have H:=Hj
      refine wkz ?_
      refine oF rfl (λh=>?_) (λh=>?_)
      .have H:=bt h H
       refine wkz ?_
       obtain⟨h,H⟩:=rq H
       refine eX rfl (apT (enc:=eI) (ys:=v80) (zs:=[v79]) h) ?_
       refine wkz ?_
       cases H
       exact ev ⟨rfl,rfl,rfl,rfl,rfl,rfl,rfl,rfl,wn rfl (by first|rfl|simp),rfl,rfl,rfl,trivial⟩ ⟨rfl,⟨rfl,rfl⟩,rfl,⟨rfl,rfl⟩,rfl,⟨rfl,rfl⟩,rfl,⟨rfl,rfl⟩,rfl,⟨rfl,rfl⟩,trivial⟩
      have H:=bf h H
      refine wkz ?_
      cases H
      exact ev ⟨rfl,rfl,rfl,rfl,rfl,rfl,rfl,rfl,wn rfl (by first|rfl|simp),rfl,rfl,rfl,trivial⟩ ⟨rfl,⟨rfl,rfl⟩,rfl,⟨rfl,rfl⟩,rfl,⟨rfl,rfl⟩,rfl,⟨rfl,rfl⟩,rfl,⟨rfl,rfl⟩,trivial⟩
     refine wkz ?_
     cases H
     refine dy ?_
     exact ev ⟨rfl,rfl,rfl,rfl,rfl,rfl,rfl,rfl,wn rfl (by first|rfl|simp),rfl,rfl,rfl,trivial⟩ ⟨rfl,⟨rfl,rfl⟩,rfl,⟨rfl,rfl⟩,rfl,⟨rfl,rfl⟩,rfl,⟨rfl,rfl⟩,rfl,⟨rfl,rfl⟩,trivial⟩
    have H:=bf h H
    refine wkz ?_
    cases H
    refine dF (λhq=>?_)
    cases hq
    refine wkz ?_
    exact ev ⟨rfl,rfl,rfl,rfl,rfl,rfl,rfl,rfl,wn rfl (by first|rfl|simp),rfl,trivial⟩ ⟨rfl,⟨rfl,rfl⟩,rfl,⟨rfl,rfl⟩,rfl,⟨rfl,rfl⟩,rfl,⟨rfl,rfl⟩,rfl,⟨rfl,rfl⟩,trivial⟩
   refine wkz ?_
   refine aa H λx88 hx88 H=>xW rfl (oY hx88 rfl rfl rfl rfl) ?_
   refine wkz ?_
   refine eX rfl (JK (o:=222) (s:=223) (ys:=v84) rfl rfl rfl rfl rfl (ixE hx88).2 (.inl rfl) rfl rfl rfl rfl rfl rfl rfl) ?_
   refine wkz ?_
   cases H
   refine dy ?_
   refine ay (t0 (o:=222) (n:=(v67.set (v66).toNat (x88.1,v84)).length) rfl rfl (by repeat (first|exact trivial|refine⟨by first|rfl|simp,?_⟩)) (by repeat (first|exact trivial|refine⟨by first|rfl|simp,?_⟩))) ?_
   exact ev ⟨rfl,rfl,rfl,rfl,rfl,rfl,rfl,rfl,trivial⟩ ⟨rfl,⟨rfl,rfl⟩,rfl,⟨rfl,rfl⟩,rfl,⟨rfl,rfl⟩,rfl,⟨rfl,rfl⟩,trivial⟩
  have H:=bf h H
  refine wkz ?_
  cases H
  refine dF (λhq=>?_)
  cases hq
  refine wkz ?_
  exact ev ⟨rfl,rfl,rfl,rfl,trivial⟩ ⟨rfl,⟨rfl,rfl⟩,rfl,⟨rfl,rfl⟩,rfl,⟨rfl,rfl⟩,rfl,⟨rfl,rfl⟩,trivial⟩
 refine wkz ?_
 cases H
 refine clo_w (N:=85) ?_ hq
 exact ev ⟨rfl,rfl,trivial⟩ ⟨rfl,⟨rfl,rfl⟩,rfl,⟨rfl,rfl⟩,rfl,⟨rfl,rfl⟩,trivial⟩
theorem N9 (v:List (Int×List Int)):v.map Qo=(v.map λe=>(⟨e.1,e.2⟩:eH)).map cQ:=by rw[List.map_map];rfl
theorem Es {a0:aT} {r:aM×aT} (H:An a0=some r):FnV prog 137 [(200,.var 148 [.d false (.l (a0.fb.map eU8)),.d false (.i .i64 a0.fi),.d false (.i .i64 a0.fh)])] [.v (.c (.p 200 0))] [(200,.var 148 [.d false (.l (r.2.fb.map eU8)),.d false (.i .i64 r.2.fi),.d false (.i .i64 r.2.fh)])] (.v (.agg [.wn 210 r.1.aR.length])) [(210,.rown 158 2 (r.1.aR.map cQ) true)]:=by
 obtain⟨⟨v,cu⟩,hX,H⟩:=ob H
 cases H
 obtain⟨c,hc,h⟩:=Ki hX (AQ:=vr 85 prog [ResultVar.cell 2 26] [(200,.var 148 [.d false (.l (cu.fb.map eU8)),.d false (.i .i64 cu.fi),.d false (.i .i64 cu.fh)])] (.v (.agg [.wn 210 (v.map λe=>(⟨e.1,e.2⟩:eH)).length])) [(210,.rown 158 2 ((v.map λe=>(⟨e.1,e.2⟩:eH)).map cQ) true)]) (by
  refine bV (L8 (o:=222) rfl rfl rfl rfl rfl) ?_
  rw[N9]
  refine bV (t0 (o:=222) (n:=(v.map λe=>(⟨e.1,e.2⟩:eH)).length) rfl rfl (by repeat (first|exact trivial|refine⟨by first|rfl|simp,?_⟩)) (by repeat (first|exact trivial|refine⟨by first|rfl|simp,?_⟩))) ?_
  refine bV (KI (p:=222) (q:=210) rfl rfl rfl rfl) ?_
  exact bO (.cons (.cell rfl rfl rfl) .nil) rfl (by first|rfl|simp) ⟨rfl,trivial⟩ ⟨rfl,trivial⟩)
 exact Qx func137 hc (by kernel_rfl) ntmps137 rfl rfl rfl (mf (AG (nx':=220) rfl) h)
def qY:(Int×List aG×aT)->Option (cf (Int×List aG×aT) (List aG×aT))
 |(v2,v6,v7)=>bif ltB 0 v2 then(YL (yZ v7) λr15=>YL (co r15.2 20) λr16=>bif dh 32 (v6++[(⟨(⟨1,v2⟩:dx),r15.1,r16.1⟩:aG)]).length then(some (.next (WR (v2-1),(v6++[(⟨(⟨1,v2⟩:dx),r15.1,r16.1⟩:aG)]),r16.2))) else none) else(some (.done (v6,v7)))
def lK (a0:aT):Option (List aG×aT):=
 YL (co a0 3) λr1=>YL (iter (qY) FU (WR (1+r1.1),([]:List aG),r1.2)) λ((v13,v14):List aG×aT)=>some (v13,v14)
theorem sJ {a0:aT} {r:List aG×aT} (H:lK a0=some r):FnW prog 138 (.var 148 (kM [.f] (bS a0))) [tP 200] (.var 148 (kM [.f] (bS r.2))) [.c (.own 56 4 (r.1.map cA) r.1.length)]:=by
 refine fW func138 ntmps138 ?_
 refine aa H λr1 q1 H=>sA (cw (o:=200) (bU q1)) ?_
 obtain⟨⟨v13,v14⟩,Hj,H⟩:=ob H
 refine jB ⟨[(3,.v (.c (.w 210 v13.length)))],[(200,.var 148 (kM [.f] (bS v14))),(210,w56 v13)],211⟩ ?_ ?_
 .refine iT Hj (λq=>⟨[(0,tP 200),(3,.v (.c (.w 210 q.2.1.length))),(4,tI q.1)],[(200,.var 148 (kM [.f] (bS q.2.2))),(210,w56 q.2.1)],211⟩) ?_
  rintro⟨v2,v6,v7⟩ o H
  try dsimp only
  refine wI ?_
  refine cC H ?_ ?_<;>intro H
  .refine aa H λr15 q15 H=>sA (cw (o:=200) (Ko q15)) ?_
   refine aa H λr16 q16 H=>sA (cw (o:=200) (bU q16)) ?_
   obtain⟨h,H⟩:=rq H
   refine sA (apT (enc:=cA) (ys:=v6) (zs:=[(⟨(⟨1,v2⟩:dx),r15.1,r16.1⟩:aG)]) h) ?_
   cases H
   refine dy ?_
   exact wo
  cases H
  refine dF (λhq=>?_)
  cases hq
  refine wI ?_
  exact wo
 cases H
 exact fo
end Go.AM
