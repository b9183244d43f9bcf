/- A part. -/
import Derived.Test.YtigcecmbknoijaaGreatDoorS6
set_option linter.unusedVariables false
open Option renaming some->ς,none->ξ
open Bool renaming true->ζ,false->η
open True renaming intro->θ
open Option renaming bind->ZS
namespace Go.AM
open Go.Proofs
open Tryz
attribute [local irreducible] AWN NS AWO AWR AWC DR DZ cM eN iter
set_option maxRecDepth 100000
set_option maxHeartbeats 40000000
def AT(a0:aj):Option (bi×aj):=
 ZS (mn a0) λr1=>ZS (a9 r1.2 (r1.1.length:Int)) λr2=>ZS (a9 r2.2 10) λr3=>ZS (cond (eqB r3.1 0) (ZS (fg r3.2 [-1,2,3]) λr4=>ZS (ix (r1.1.map λe=>(⟨e.1,e.2⟩:d6)) r2.1) λx=>ς ((r1.1.map λe=>(⟨e.1,e.2⟩:d6)).set r2.1.toNat (⟨r4.1,x.di⟩:d6),r4.2.fb,r4.2.fi,r4.2.fh)) (cond (eqB r3.1 1) (ZS (ix r1.1 r2.1) λx=>ZS (a9 r3.2 8) λr4=>cond (cN 8 (x.2++[WR (r4.1-1)]).length) (ς ((r1.1.set r2.1.toNat (x.1,x.2++[WR (r4.1-1)])).map λe=>(⟨e.1,e.2⟩:d6),r4.2.fb,r4.2.fi,r4.2.fh)) ξ) (cond (eqB r3.1 2) (ZS (ix (r1.1.map λe=>(⟨e.1,e.2⟩:d6)) r2.1) λx=>ς ((r1.1.map λe=>(⟨e.1,e.2⟩:d6)).set r2.1.toNat (⟨x.g9,[]⟩:d6),r3.2.fb,r3.2.fi,r3.2.fh)) (cond (eqB r3.1 3) (ς (([]:List d6),r3.2.fb,r3.2.fi,r3.2.fh)) (ς (r1.1.map λe=>(⟨e.1,e.2⟩:d6),r3.2.fb,r3.2.fi,r3.2.fh)))))) λ((v5,v6,v7,v8):List d6×List Int×Int×Int)=>ς ((⟨v5⟩:bi),(⟨v6,v7,v8⟩:aj))
instance Om{a0:aj}{r:bi×aj}:FCV prog (AT a0=ς r) 71 [(200,.var 115 [.d η (.l (a0.fb.map eU8)),.d η (.i .i64 a0.fi),.d η (.i .i64 a0.fh)])] [.v (.c (.p 200 0))] [(200,.var 115 [.d η (.l (r.2.fb.map eU8)),.d η (.i .i64 r.2.fi),.d η (.i .i64 r.2.fh)])] (.v (.agg [.wn 210 r.1.bI.length])) [(210,.rown 190 2 (r.1.bI.map fw) ζ)]:=⟨λH=>by
 refine Fl func71 rfl (by kernel_rfl) ntmps71 rfl rfl rfl ?_
 refine wkz ?_
 obtain⟨⟨v,cu⟩,hX,H⟩:=ob H
 obtain⟨cD,hcD,hD⟩:=IG hX (AQ:=md 85 prog [ResultVar.cell 2 35] [(200,.var 115 [.d η (.l (cu.fb.map eU8)),.d η (.i .i64 cu.fi),.d η (.i .i64 cu.fh)]),(222,.cxo 222 190 3 v ξ),(201,.var 35 [.nil])] (.v (.agg [.wn 222 v.length])) []) (dv (.cons (.cell rfl rfl rfl) .nil) rfl rfl ⟨rfl,rfl,rfl,θ⟩ trivial)
 refine eC (wM (nx':=220) rfl) ?_
 refine eV rfl (Q0 (m:=[(200,200),(201,210)]) (m':=[(200,200),(201,210),(222,222)]) (nx':=223) func114 hcD (by kernel_rfl) ntmps114 rfl hD rfl rfl rfl rfl rfl rfl rfl rfl rfl rfl rfl) ?_
 refine wkz ?_
 refine aa H λr2 q2 H=>eV rfl (cw (o:=200) (bW.h q2) rfl rfl rfl rfl rfl rfl trivial rfl rfl rfl rfl) ?_
 refine wkz ?_
 refine aa H λr3 q3 H=>eV rfl (cw (o:=200) (bW.h q3) rfl rfl rfl rfl rfl rfl trivial rfl rfl rfl rfl) ?_
 refine wkz ?_
 simp only at H
 obtain⟨⟨v5,v6,v7,v8⟩,Hj,H⟩:=ob H
 refine iX ⟨[(2,.v (.c (.p 210 0))),(3,.v (.c (.p 223 0)))],[(200,.var 115 [.d η (.l (v6.map eU8)),.d η (.i .i64 v7),.d η (.i .i64 v8)]),(210,.var 35 [.nil]),(223,.var 35 [.wn 222 v5.length]),(222,.rown 190 2 (v5.map fw) ζ)],224⟩ ?_ ?_
 .have H:=Hj
  refine fm rfl (λh=>?_) (λh=>?_)
  .have H:=bt h H
   refine fo (ug (o:=222) rfl rfl rfl rfl rfl) ?_
   rw[vY]
   refine jT [0,1,2,3,4,5,6,7,8] Try.follows (by kernel_rfl) (by kernel_rfl) rfl ?_
   refine gA rfl (fp rfl rfl rfl) ?_
   refine gA rfl (op rfl rfl rfl rfl) ?_
   refine gA rfl (mv1 rfl rfl) ?_
   refine gA rfl (mv1 rfl rfl) ?_
   refine pU rfl (bsx (bs rfl rfl rfl rfl rfl rfl rfl rfl) rfl) ?_
   refine aa H λr4 q4 H=>pU rfl (cwx (o:=200) (sQ.h q4) rfl rfl rfl rfl rfl rfl trivial rfl rfl rfl rfl) ?_
   refine wkz ?_
   refine aa H λx hx H=>gA rfl (mb hx rfl rfl (by simp) rfl) ?_
   refine wkz ?_
   refine tx (by kernel_rfl) rfl (by kernel_rfl) (jL 222 rfl (uq (enc:=fw) hx) rfl rfl) (kh rfl (soT (enc:=fw) (a':=(⟨r4.1,x.di⟩:d6)) hx rfl rfl rfl rfl rfl rfl rfl)) cz rfl ?_
   refine wkz ?_
   cases H
   refine aJ (fE 222 rfl rfl rfl) ?_
   refine aJ (gx (o:=222) (n:=((v.map λe=>(⟨e.1,e.2⟩:d6)).set r2.1.toNat (⟨r4.1,x.di⟩:d6)).length) rfl rfl (by repeat (first|exact θ|refine⟨by first|rfl|simp,?_⟩)) (by repeat (first|exact θ|refine⟨by first|rfl|simp,?_⟩))) ?_
   exact cq ⟨rfl,rfl,rfl,rfl,θ⟩ ⟨rfl,⟨rfl,rfl⟩,rfl,⟨rfl,rfl⟩,rfl,⟨rfl,rfl⟩,rfl,⟨rfl,rfl⟩,θ⟩
  have H:=bf h H
  refine wkz ?_
  refine fm rfl (λh=>?_) (λh=>?_)
  .have H:=bt h H
   obtain⟨⟨x1,x2⟩,hx,H⟩:=ob H
   obtain⟨r4,q4,H⟩:=ob H
   obtain⟨h,H⟩:=rq H
   have hxx:=(ixE hx).2
   refine km ⟨[(2,.v (.c (.p 210 0))),(3,.v (.c (.p 223 0)))],[(200,.var 115 [.d η (.l (r4.2.fb.map eU8)),.d η (.i .i64 r4.2.fi),.d η (.i .i64 r4.2.fh)]),(210,.var 35 [.nil]),(223,.var 35 [.wn 222 v.length]),(222,.cxo 222 190 3 (v.set r2.1.toNat (x1,x2++[WR (r4.1-1)])) ξ)],224⟩ ?_ ?_
   .refine uK (o:=222) (i:=r2.1.toNat) (e:=(x1,x2)) rfl hxx rfl rfl rfl rfl rfl rfl (λhnil=>?_) (λk cc=>?_)
    .simp only at hnil
     subst hnil
     refine jT [0,1,2,3,4,5,6,7,8,9,10,11,12,13,14,15,16] Try.follows (by kernel_rfl) (by kernel_rfl) rfl ?_
     refine wkz ?_
     refine gA rfl (mb hx rfl rfl rfl rfl) ?_
     refine wkz ?_
     refine gA rfl (olh hxx rfl rfl rfl) ?_
     refine wkz ?_
     refine pU rfl (cwx (o:=200) (bW.h q4) rfl rfl rfl rfl rfl rfl trivial rfl rfl rfl rfl) ?_
     refine wkz ?_
     refine gA rfl (Pa (zs:=[WR (r4.1-1)]) [224] h (by simp) rfl rfl (.w rfl rfl) rfl rfl rfl rfl) ?_
     refine wkz ?_
     refine gA rfl (mb hx rfl rfl rfl rfl) ?_
     refine wkz ?_
     refine tx (by kernel_rfl) rfl (by kernel_rfl) cz (kh rfl (uu (o:=222) (s:=225) (ys:=[WR (r4.1-1)]) rfl rfl rfl rfl rfl hxx (.inr ⟨_,_,_,rfl⟩) rfl rfl rfl rfl rfl rfl rfl)) cz rfl ?_
     refine wkz ?_
     exact cq ⟨rfl,rfl,rfl,rfl,θ⟩ ⟨rfl,⟨rfl,rfl⟩,rfl,⟨rfl,rfl⟩,rfl,⟨rfl,rfl⟩,rfl,⟨rfl,rfl⟩,θ⟩
    refine jT [0,1,2,3,4,5,6,7,8,9,10,11,12,13,14,15,16] Try.follows (by kernel_rfl) (by kernel_rfl) rfl ?_
    refine wkz ?_
    refine gA rfl (mb hx rfl rfl rfl rfl) ?_
    refine wkz ?_
    refine gA rfl (olh hxx rfl rfl rfl) ?_
    refine wkz ?_
    refine pU rfl (cwx (o:=200) (bW.h q4) rfl rfl rfl rfl rfl rfl trivial rfl rfl rfl rfl) ?_
    refine wkz ?_
    refine pU rfl (apk (q:=224) (xs:=x2) (zs:=[WR (r4.1-1)]) [224,225] h rfl rfl rfl (.w rfl rfl) rfl rfl rfl rfl rfl rfl) ?_
    refine wkz ?_
    refine gA rfl (mb hx rfl rfl rfl rfl) ?_
    refine wkz ?_
    refine og (ds:=[224]) (by kernel_rfl) (by kernel_rfl) rfl (by kernel_rfl) cz (kh rfl (uu (o:=222) (s:=226) (ys:=x2++[WR (r4.1-1)]) rfl rfl rfl rfl rfl hxx (.inr ⟨_,_,_,rfl⟩) rfl rfl rfl rfl rfl rfl rfl)) cz rfl ?_
    refine wkz ?_
    exact cq ⟨rfl,rfl,rfl,rfl,θ⟩ ⟨rfl,⟨rfl,rfl⟩,rfl,⟨rfl,rfl⟩,rfl,⟨rfl,rfl⟩,rfl,⟨rfl,rfl⟩,θ⟩
   cases H
   refine wkz ?_
   refine aJ (ug (o:=222) rfl rfl rfl rfl rfl) ?_
   rw[vY]
   refine aJ (gx (o:=222) (n:=((v.set r2.1.toNat (x1,x2++[WR (r4.1-1)])).map λe=>(⟨e.1,e.2⟩:d6)).length) rfl rfl (by repeat (first|exact θ|refine⟨by first|rfl|simp,?_⟩)) (by repeat (first|exact θ|refine⟨by first|rfl|simp,?_⟩))) ?_
   exact cq ⟨rfl,rfl,rfl,rfl,θ⟩ ⟨rfl,⟨rfl,rfl⟩,rfl,⟨rfl,rfl⟩,rfl,⟨rfl,rfl⟩,rfl,⟨rfl,rfl⟩,θ⟩
  have H:=bf h H
  refine fo (ug (o:=222) rfl rfl rfl rfl rfl) ?_
  rw[vY]
  refine wkz ?_
  refine fm rfl (λh=>?_) (λh=>?_)
  .have H:=bt h H
   refine wkz ?_
   refine aa H λx hx H=>eC (jL 222 rfl (uq (enc:=fw) hx) rfl rfl) ?_
   refine o6 rfl (xwT hx rfl rfl (by simp) rfl) ?_
   refine wkz ?_
   refine eV rfl (soT (enc:=fw) (a':=(⟨x.g9,[]⟩:d6)) hx rfl rfl rfl rfl rfl rfl rfl) ?_
   refine wkz ?_
   cases H
   refine aJ (fE 222 rfl rfl rfl) ?_
   refine aJ (gx (o:=222) (n:=((v.map λe=>(⟨e.1,e.2⟩:d6)).set r2.1.toNat (⟨x.g9,[]⟩:d6)).length) rfl rfl (by repeat (first|exact θ|refine⟨by first|rfl|simp,?_⟩)) (by repeat (first|exact θ|refine⟨by first|rfl|simp,?_⟩))) ?_
   exact cq ⟨rfl,rfl,rfl,rfl,θ⟩ ⟨rfl,⟨rfl,rfl⟩,rfl,⟨rfl,rfl⟩,rfl,⟨rfl,rfl⟩,rfl,⟨rfl,rfl⟩,θ⟩
  have H:=bf h H
  refine wkz ?_
  refine fm rfl (λh=>?_) (λh=>?_)
  .have H:=bt h H
   refine wkz ?_
   cases H
   refine aJ (eo (o:=223) (j:=0) 190 2 ζ rfl rfl rfl rfl rfl) ?_
   refine aJ (vS (p:=224) (q:=222) rfl rfl rfl rfl) ?_
   refine aJ (gx (o:=222) (n:=(([]:List d6)).length) rfl rfl (by repeat (first|exact θ|refine⟨by first|rfl|simp,?_⟩)) (by repeat (first|exact θ|refine⟨by first|rfl|simp,?_⟩))) ?_
   exact cq ⟨rfl,rfl,rfl,rfl,θ⟩ ⟨rfl,⟨rfl,rfl⟩,rfl,⟨rfl,rfl⟩,rfl,⟨rfl,rfl⟩,rfl,⟨rfl,rfl⟩,θ⟩
  have H:=bf h H
  refine wkz ?_
  cases H
  refine aJ (gx (o:=222) (n:=((v.map λe=>(⟨e.1,e.2⟩:d6))).length) rfl rfl (by repeat (first|exact θ|refine⟨by first|rfl|simp,?_⟩)) (by repeat (first|exact θ|refine⟨by first|rfl|simp,?_⟩))) ?_
  exact cq ⟨rfl,rfl,rfl,rfl,θ⟩ ⟨rfl,⟨rfl,rfl⟩,rfl,⟨rfl,rfl⟩,rfl,⟨rfl,rfl⟩,rfl,⟨rfl,rfl⟩,θ⟩
 refine wkz ?_
 cases H
 refine cg (vS (p:=222) (q:=210) rfl rfl rfl rfl) ?_
 exact dv (.cons (.cell rfl rfl rfl) .nil) rfl (by first|rfl|simp) ⟨rfl,θ⟩ ⟨rfl,θ⟩⟩
end Go.AM
