/- A part. -/
import Derived.Test.YtfbpfflnhfcmaaaGreatS5
import Derived.Test.YtfbpfflnhfcmaaaGreatS6
import Derived.Test.YtfbpfflnhfcmaaaGreatS8
import Derived.Test.YtfbpfflnhfcmaaaGreatS9
set_option linter.unusedVariables false
open Option renaming some->ς,none->ξ
open Bool renaming true->ζ,false->η
open True renaming intro->θ
open Option renaming bind->acE
namespace Go.AM
open Go.Proofs
open Tryz
attribute [local irreducible] AWN NS AWO AWR AWC DR DZ du gr iter
set_option maxRecDepth 100000
set_option maxHeartbeats 40000000
def xM(a0:av)(a1:ag):Option (aG×av):=
 acE (bC a0 8) λr1=>acE (bC r1.2 5) λr2=>acE (bC r2.2 3) λr3=>acE (bC r3.2 2) λr4=>acE (cond (eqB (WR (1+r1.1)) 3) (ς (r4.2,(⟨WR (1+r1.1),r2.1,a1.bG,WR ((WR (a1.aY+r3.1))-r4.1),a1.aA.vP,cH,0⟩:aG))) (acE (cond (eqB (WR (1+r1.1)) 8) (acE (bC r4.2 4) λr17=>acE (bC r17.2 2) λr18=>acE (GL 0 (WR ((WR (a1.aK.bB-r17.1))+r18.1))) λr19=>ς (r19,r18.2)) (ς (0,r4.2))) λ((v15,v16):Int×av)=>ς (v16,(⟨WR (1+r1.1),r2.1,a1.ah,WR ((WR (a1.aY+r3.1))-r4.1),v15,cH,0⟩:aG)))) λ((v10,v11):av×aG)=>acE (js a1.bg v11) λr20=>acE (bC v10 8) λr21=>acE (cond (eqB r21.1 0) (acE (Au r21.2) λr38=>ς (r38.2,{r20 with i7:=r38.1})) (acE (cond (eqB r21.1 1) (ς {r20 with bZ:=WR (r20.bZ+1)}) (acE (cond (eqB r21.1 2) (ς (WR (r20.ah+1))) (ς r20.ah)) λ(v42:Int)=>ς {r20 with ah:=v42})) λ(v41:aG)=>ς (r21.2,v41))) λ((v36,v37):av×aG)=>ς (v37,v36)
instance KO{a0:av}{a1:ag}{r:aG×av}:FCW prog (xM a0 a1=ς r) 242 (.var 124 (kM [.f] (be a0))) [tP 200,.v (.agg (kM [.f,.f,.f] (cU a1)))] (.var 124 (kM [.f] (be r.2))) [.agg (qM [] (gL r.1))]:=gW func242 ntmps242 (hC 24 (λ(v:av×aG) sl ob nx=>⟨sl,[(200,.var 124 (kM [.f] (be v.1))),(212,.var 42 (kM [] (gL v.2)))]++ob,nx⟩)) (hC 33 (λ(v:Int×av) sl ob nx=>⟨sl,[(200,.var 124 (kM [.f] (be v.2)))]++(uC 212 4 [.d η (.i .i64 v.1)] ob),nx⟩)) (hz 7) (hC 52 (λ(v:av×aG) sl ob nx=>⟨sl,[(200,.var 124 (kM [.f] (be v.1))),(212,.var 42 (kM [] (gL v.2)))]++fO [210] ob,nx⟩)) (hC 57 (λ(v:aG) sl ob nx=>⟨sl,[(212,.var 42 (kM [] (gL v)))]++fO [210] ob,nx⟩)) (hC 63 (λ(v:Int) sl ob nx=>⟨sl,uC 212 2 [.d η (.i .i64 v)] ob,nx⟩)) (hz 1)
def mu(a0:ag)(a1:aG):Option bN:=
 acE (kf a0.bT.ID (WR (a0.bT.cX+1))) λr1=>acE (rS a0.bT r1) λr2=>bif(eqB r2.1.ID.d4 a0.bT.ID.d4&&(eqB r2.1.ID.bZ a0.bT.ID.bZ&&(eqB r2.1.fA a0.bT.fA&&(eqB r2.1.cX a0.bT.cX&&ζ)))) then(acE (pQ a0) λr3=>ς r3) else(acE (ju a0) λr4=>ς (⟨{r4 with bT:=r2.1,aA:=r2.2,bG:=r2.1.cX},[(⟨2,a1.bh,r2.1.cX,0,0,r2.2,0⟩:aG)]⟩:bN))
instance SY{a0:ag}{a1:aG}{r:bN}:FC prog (mu a0 a1=ς r) 330 [.agg (cp a0),.agg (dM a1)] [.agg (qM [.o,.o,.o,.o] (eh r))]:=gG func330 ntmps330 (hz 1)
def EK(a0:av):Option (aZ×av):=
 acE (oB a0) λr1=>acE (bC r1.2 (r1.1.length:Int)) λr2=>acE (bC r2.2 10) λr3=>acE (cond (eqB r3.1 0) (acE (g4 r3.2 [-1,2,3]) λr4=>acE (ix (r1.1.map λe=>(⟨e.1,e.2⟩:dY)) r2.1) λx=>ς ((r1.1.map λe=>(⟨e.1,e.2⟩:dY)).set r2.1.toNat (⟨r4.1,x.cM⟩:dY),r4.2.fb,r4.2.fi,r4.2.fh)) (cond (eqB r3.1 1) (acE (ix r1.1 r2.1) λx=>acE (bC r3.2 8) λr4=>cond (cW 8 (x.2++[WR (r4.1-1)]).length) (ς ((r1.1.set r2.1.toNat (x.1,x.2++[WR (r4.1-1)])).map λe=>(⟨e.1,e.2⟩:dY),r4.2.fb,r4.2.fi,r4.2.fh)) ξ) (cond (eqB r3.1 2) (acE (ix (r1.1.map λe=>(⟨e.1,e.2⟩:dY)) r2.1) λx=>ς ((r1.1.map λe=>(⟨e.1,e.2⟩:dY)).set r2.1.toNat (⟨x.fF,[]⟩:dY),r3.2.fb,r3.2.fi,r3.2.fh)) (cond (eqB r3.1 3) (ς (([]:List dY),r3.2.fb,r3.2.fi,r3.2.fh)) (ς (r1.1.map λe=>(⟨e.1,e.2⟩:dY),r3.2.fb,r3.2.fi,r3.2.fh)))))) λ((v5,v6,v7,v8):List dY×List Int×Int×Int)=>ς ((⟨v5⟩:aZ),(⟨v6,v7,v8⟩:av))
instance Ti{a0:av}{r:aZ×av}:FCV prog (EK a0=ς r) 185 [(200,.var 124 [.d η (.l (a0.fb.map eU8)),.d η (.i .i64 a0.fi),.d η (.i .i64 a0.fh)])] [.v (.c (.p 200 0))] [(200,.var 124 [.d η (.l (r.2.fb.map eU8)),.d η (.i .i64 r.2.fi),.d η (.i .i64 r.2.fh)])] (.v (.agg [.wn 210 r.1.bp.length])) [(210,.rown 154 2 (r.1.bp.map eL) ζ)]:=⟨λH=>by
 refine JH func185 rfl (by kernel_rfl) ntmps185 rfl rfl rfl ?_
 refine wkz ?_
 obtain⟨⟨v,cu⟩,hX,H⟩:=ob H
 obtain⟨cD,hcD,hD⟩:=MM hX (AQ:=oh 85 prog [ResultVar.cell 2 26] [(200,.var 124 [.d η (.l (cu.fb.map eU8)),.d η (.i .i64 cu.fi),.d η (.i .i64 cu.fh)]),(222,.cxo 222 154 3 v ξ),(201,.var 26 [.nil])] (.v (.agg [.wn 222 v.length])) []) (dy (.cons (.cell rfl rfl rfl) .nil) rfl rfl ⟨rfl,rfl,rfl,θ⟩ trivial)
 refine dW (vl (nx':=220) rfl) ?_
 refine fR rfl (Wr (m:=[(200,200),(201,210)]) (m':=[(200,200),(201,210),(222,222)]) (nx':=223) func133 hcD (by kernel_rfl) ntmps133 rfl hD rfl rfl rfl rfl rfl rfl rfl rfl rfl rfl rfl) ?_
 refine wkz ?_
 refine aa H λr2 q2 H=>fR rfl (cw (o:=200) (cr.h q2) rfl rfl rfl rfl rfl rfl trivial rfl rfl rfl rfl) ?_
 refine wkz ?_
 refine aa H λr3 q3 H=>fR rfl (cw (o:=200) (cr.h q3) rfl rfl rfl rfl rfl rfl trivial rfl rfl rfl rfl) ?_
 refine wkz ?_
 simp only at H
 obtain⟨⟨v5,v6,v7,v8⟩,Hj,H⟩:=ob H
 refine jT ⟨[(2,.v (.c (.p 210 0))),(3,.v (.c (.p 223 0)))],[(200,.var 124 [.d η (.l (v6.map eU8)),.d η (.i .i64 v7),.d η (.i .i64 v8)]),(210,.var 26 [.nil]),(223,.var 26 [.wn 222 v5.length]),(222,.rown 154 2 (v5.map eL) ζ)],224⟩ ?_ ?_
 .have H:=Hj
  refine f8 rfl (λh=>?_) (λh=>?_)
  .have H:=bt h H
   refine f9 (xW (o:=222) rfl rfl rfl rfl rfl) ?_
   rw[zW]
   refine kx [0,1,2,3,4,5,6,7,8] Try.follows (by kernel_rfl) (by kernel_rfl) rfl ?_
   refine ij rfl (fp rfl rfl rfl) ?_
   refine ij rfl (op rfl rfl rfl rfl) ?_
   refine ij rfl (mv1 rfl rfl) ?_
   refine ij rfl (mv1 rfl rfl) ?_
   refine rE rfl (bsx (bs rfl rfl rfl rfl rfl rfl rfl rfl) rfl) ?_
   refine aa H λr4 q4 H=>rE rfl (cwx (o:=200) (wC.h q4) rfl rfl rfl rfl rfl rfl trivial rfl rfl rfl rfl) ?_
   refine wkz ?_
   refine aa H λx hx H=>ij rfl (oG hx rfl rfl (by simp) rfl) ?_
   refine wkz ?_
   refine w8 (by kernel_rfl) rfl (by kernel_rfl) (lv 222 rfl (yd (enc:=eL) hx) rfl rfl) (kz rfl (soT (enc:=eL) (a':=(⟨r4.1,x.cM⟩:dY)) hx rfl rfl rfl rfl rfl rfl rfl)) cA rfl ?_
   refine wkz ?_
   cases H
   refine aP (fZ 222 rfl rfl rfl) ?_
   refine aP (iw (o:=222) (n:=((v.map λe=>(⟨e.1,e.2⟩:dY)).set r2.1.toNat (⟨r4.1,x.cM⟩:dY)).length) rfl rfl (by repeat (first|exact θ|refine⟨by first|rfl|simp,?_⟩)) (by repeat (first|exact θ|refine⟨by first|rfl|simp,?_⟩))) ?_
   exact cQ ⟨rfl,rfl,rfl,rfl,θ⟩ ⟨rfl,⟨rfl,rfl⟩,rfl,⟨rfl,rfl⟩,rfl,⟨rfl,rfl⟩,rfl,⟨rfl,rfl⟩,θ⟩
  have H:=bf h H
  refine wkz ?_
  refine f8 rfl (λh=>?_) (λh=>?_)
  .have H:=bt h H
   obtain⟨⟨x1,x2⟩,hx,H⟩:=ob H
   obtain⟨r4,q4,H⟩:=ob H
   obtain⟨h,H⟩:=rq H
   have hxx:=(ixE hx).2
   refine lZ ⟨[(2,.v (.c (.p 210 0))),(3,.v (.c (.p 223 0)))],[(200,.var 124 [.d η (.l (r4.2.fb.map eU8)),.d η (.i .i64 r4.2.fi),.d η (.i .i64 r4.2.fh)]),(210,.var 26 [.nil]),(223,.var 26 [.wn 222 v.length]),(222,.cxo 222 154 3 (v.set r2.1.toNat (x1,x2++[WR (r4.1-1)])) ξ)],224⟩ ?_ ?_
   .refine yv (o:=222) (i:=r2.1.toNat) (e:=(x1,x2)) rfl hxx rfl rfl rfl rfl rfl rfl (λhnil=>?_) (λk cc=>?_)
    .simp only at hnil
     subst hnil
     refine kx [0,1,2,3,4,5,6,7,8,9,10,11,12,13,14,15,16] Try.follows (by kernel_rfl) (by kernel_rfl) rfl ?_
     refine wkz ?_
     refine ij rfl (oG hx rfl rfl rfl rfl) ?_
     refine wkz ?_
     refine ij rfl (olh hxx rfl rfl rfl) ?_
     refine wkz ?_
     refine rE rfl (cwx (o:=200) (cr.h q4) rfl rfl rfl rfl rfl rfl trivial rfl rfl rfl rfl) ?_
     refine wkz ?_
     refine ij rfl (Ut (zs:=[WR (r4.1-1)]) [224] h (by simp) rfl rfl (.w rfl rfl) rfl rfl rfl rfl) ?_
     refine wkz ?_
     refine ij rfl (oG hx rfl rfl rfl rfl) ?_
     refine wkz ?_
     refine w8 (by kernel_rfl) rfl (by kernel_rfl) cA (kz rfl (ye (o:=222) (s:=225) (ys:=[WR (r4.1-1)]) rfl rfl rfl rfl rfl hxx (.inr ⟨_,_,_,rfl⟩) rfl rfl rfl rfl rfl rfl rfl)) cA rfl ?_
     refine wkz ?_
     exact cQ ⟨rfl,rfl,rfl,rfl,θ⟩ ⟨rfl,⟨rfl,rfl⟩,rfl,⟨rfl,rfl⟩,rfl,⟨rfl,rfl⟩,rfl,⟨rfl,rfl⟩,θ⟩
    refine kx [0,1,2,3,4,5,6,7,8,9,10,11,12,13,14,15,16] Try.follows (by kernel_rfl) (by kernel_rfl) rfl ?_
    refine wkz ?_
    refine ij rfl (oG hx rfl rfl rfl rfl) ?_
    refine wkz ?_
    refine ij rfl (olh hxx rfl rfl rfl) ?_
    refine wkz ?_
    refine rE rfl (cwx (o:=200) (cr.h q4) rfl rfl rfl rfl rfl rfl trivial rfl rfl rfl rfl) ?_
    refine wkz ?_
    refine rE rfl (apk (q:=224) (xs:=x2) (zs:=[WR (r4.1-1)]) [224,225] h rfl rfl rfl (.w rfl rfl) rfl rfl rfl rfl rfl rfl) ?_
    refine wkz ?_
    refine ij rfl (oG hx rfl rfl rfl rfl) ?_
    refine wkz ?_
    refine qv (ds:=[224]) (by kernel_rfl) (by kernel_rfl) rfl (by kernel_rfl) cA (kz rfl (ye (o:=222) (s:=226) (ys:=x2++[WR (r4.1-1)]) rfl rfl rfl rfl rfl hxx (.inr ⟨_,_,_,rfl⟩) rfl rfl rfl rfl rfl rfl rfl)) cA rfl ?_
    refine wkz ?_
    exact cQ ⟨rfl,rfl,rfl,rfl,θ⟩ ⟨rfl,⟨rfl,rfl⟩,rfl,⟨rfl,rfl⟩,rfl,⟨rfl,rfl⟩,rfl,⟨rfl,rfl⟩,θ⟩
   cases H
   refine wkz ?_
   refine aP (xW (o:=222) rfl rfl rfl rfl rfl) ?_
   rw[zW]
   refine aP (iw (o:=222) (n:=((v.set r2.1.toNat (x1,x2++[WR (r4.1-1)])).map λe=>(⟨e.1,e.2⟩:dY)).length) rfl rfl (by repeat (first|exact θ|refine⟨by first|rfl|simp,?_⟩)) (by repeat (first|exact θ|refine⟨by first|rfl|simp,?_⟩))) ?_
   exact cQ ⟨rfl,rfl,rfl,rfl,θ⟩ ⟨rfl,⟨rfl,rfl⟩,rfl,⟨rfl,rfl⟩,rfl,⟨rfl,rfl⟩,rfl,⟨rfl,rfl⟩,θ⟩
  have H:=bf h H
  refine f9 (xW (o:=222) rfl rfl rfl rfl rfl) ?_
  rw[zW]
  refine wkz ?_
  refine f8 rfl (λh=>?_) (λh=>?_)
  .have H:=bt h H
   refine wkz ?_
   refine aa H λx hx H=>dW (lv 222 rfl (yd (enc:=eL) hx) rfl rfl) ?_
   refine oi rfl (xwT hx rfl rfl (by simp) rfl) ?_
   refine wkz ?_
   refine fR rfl (soT (enc:=eL) (a':=(⟨x.fF,[]⟩:dY)) hx rfl rfl rfl rfl rfl rfl rfl) ?_
   refine wkz ?_
   cases H
   refine aP (fZ 222 rfl rfl rfl) ?_
   refine aP (iw (o:=222) (n:=((v.map λe=>(⟨e.1,e.2⟩:dY)).set r2.1.toNat (⟨x.fF,[]⟩:dY)).length) rfl rfl (by repeat (first|exact θ|refine⟨by first|rfl|simp,?_⟩)) (by repeat (first|exact θ|refine⟨by first|rfl|simp,?_⟩))) ?_
   exact cQ ⟨rfl,rfl,rfl,rfl,θ⟩ ⟨rfl,⟨rfl,rfl⟩,rfl,⟨rfl,rfl⟩,rfl,⟨rfl,rfl⟩,rfl,⟨rfl,rfl⟩,θ⟩
  have H:=bf h H
  refine wkz ?_
  refine f8 rfl (λh=>?_) (λh=>?_)
  .have H:=bt h H
   refine wkz ?_
   cases H
   refine aP (eo (o:=223) (j:=0) 154 2 ζ rfl rfl rfl rfl rfl) ?_
   refine aP (zL (p:=224) (q:=222) rfl rfl rfl rfl) ?_
   refine aP (iw (o:=222) (n:=(([]:List dY)).length) rfl rfl (by repeat (first|exact θ|refine⟨by first|rfl|simp,?_⟩)) (by repeat (first|exact θ|refine⟨by first|rfl|simp,?_⟩))) ?_
   exact cQ ⟨rfl,rfl,rfl,rfl,θ⟩ ⟨rfl,⟨rfl,rfl⟩,rfl,⟨rfl,rfl⟩,rfl,⟨rfl,rfl⟩,rfl,⟨rfl,rfl⟩,θ⟩
  have H:=bf h H
  refine wkz ?_
  cases H
  refine aP (iw (o:=222) (n:=((v.map λe=>(⟨e.1,e.2⟩:dY))).length) rfl rfl (by repeat (first|exact θ|refine⟨by first|rfl|simp,?_⟩)) (by repeat (first|exact θ|refine⟨by first|rfl|simp,?_⟩))) ?_
  exact cQ ⟨rfl,rfl,rfl,rfl,θ⟩ ⟨rfl,⟨rfl,rfl⟩,rfl,⟨rfl,rfl⟩,rfl,⟨rfl,rfl⟩,rfl,⟨rfl,rfl⟩,θ⟩
 refine wkz ?_
 cases H
 refine bM (zL (p:=222) (q:=210) rfl rfl rfl rfl) ?_
 exact dy (.cons (.cell rfl rfl rfl) .nil) rfl (by first|rfl|simp) ⟨rfl,θ⟩ ⟨rfl,θ⟩⟩
end Go.AM
