/- A part. -/
import Derived.Test.YtigcecmbknoijaaGreatDoorG
set_option linter.unusedVariables false
open Option renaming some->ς,none->ξ
open Bool renaming true->ζ,false->η
open True renaming intro->θ
namespace Go.AM
open Go.Proofs
open Tryz
attribute [local irreducible] AWN NS AWO AWR AWC DR DZ cM eN iter
set_option maxRecDepth 100000
set_option maxHeartbeats 40000000
def ni(v:List (Int×List Int))(a b:Int):Option (List (Int×List Int)):=
 Option.bind (ix v a) λx=>cond (cN 8 (x.2++[b]).length) (Option.bind (ix (v.set a.toNat (x.1,x.2++[b])) b) λy=>cond (cN 8 (y.2++[a]).length) (ς ((v.set a.toNat (x.1,x.2++[b])).set b.toNat (y.1,y.2++[a]))) ξ) ξ
theorem IH{v r:List (Int×List Int)}{a b fi fh:Int}{n:Nat}{fb:Lad}(H:ni v a b=ς r)(hn:v.length=n):
 ∃c,Tryz.f161.body=ς c/\AWC prog 34 c ⟨[(0,.v (.agg [.wn 222 n])),(1,tI a),(2,tI b)],[(200,.var 115 [.d η (.l fb),.d η (.i .i64 fi),.d η (.i .i64 fh)]),(202,.var 35 [.nil]),(203,.var 35 [.wn 222 n]),(222,.cxo 222 190 3 v ξ)],223⟩
  (md 34 prog [] [(200,.var 115 [.d η (.l fb),.d η (.i .i64 fi),.d η (.i .i64 fh)]),(202,.var 35 [.nil]),(203,.var 35 [.wn 222 n]),(222,.cxo 222 190 3 r ξ)] (.tup []) []):=by
 refine⟨_,rfl,?_⟩
 refine wkz ?_
 obtain⟨⟨x1,x2⟩,hx,H⟩:=ob H
 obtain⟨h,H⟩:=rq H
 have hxx:=(ixE hx).2
 refine km ⟨[(1,tI a),(2,tI b),(3,.v (.c (.p 223 0)))],[(200,.var 115 [.d η (.l fb),.d η (.i .i64 fi),.d η (.i .i64 fh)]),(202,.var 35 [.nil]),(203,.var 35 [.wn 222 n]),(223,.var 35 [.wn 222 n]),(222,.cxo 222 190 3 (v.set a.toNat (x1,x2++[b])) ξ)],224⟩ ?_ ?_
 .refine uK (o:=222) (i:=a.toNat) (e:=(x1,x2)) rfl hxx rfl rfl rfl rfl rfl rfl (λhnil=>?_) (λk cc=>?_)
  .simp only at hnil
   subst hnil
   refine jT [0,1,2,3,4,5,6,7,8,9,10,11,12,13,14] Try.follows (by kernel_rfl) (by kernel_rfl) rfl ?_
   refine wkz ?_
   refine gA rfl (mb hx rfl rfl hn rfl) ?_
   refine wkz ?_
   refine gA rfl (olh hxx rfl rfl rfl) ?_
   refine wkz ?_
   refine gA rfl (Pa (zs:=[b]) [224] h (by simp) rfl rfl (.w rfl rfl) rfl rfl rfl rfl) ?_
   refine wkz ?_
   refine gA rfl (mb hx rfl rfl hn rfl) ?_
   refine wkz ?_
   refine tx (by kernel_rfl) rfl (by kernel_rfl) cz (kh rfl (uu (o:=222) (s:=225) (ys:=[b]) rfl rfl rfl rfl rfl hxx (.inr ⟨_,_,_,rfl⟩) rfl rfl rfl rfl rfl rfl rfl)) cz rfl ?_
   refine wkz ?_
   exact cq ⟨rfl,rfl,rfl,rfl,rfl,rfl,θ⟩ ⟨rfl,⟨rfl,rfl⟩,rfl,⟨rfl,rfl⟩,rfl,⟨rfl,rfl⟩,rfl,⟨rfl,rfl⟩,rfl,⟨rfl,rfl⟩,θ⟩
  refine jT [0,1,2,3,4,5,6,7,8,9,10,11,12,13,14] Try.follows (by kernel_rfl) (by kernel_rfl) rfl ?_
  refine wkz ?_
  refine gA rfl (mb hx rfl rfl hn rfl) ?_
  refine wkz ?_
  refine gA rfl (olh hxx rfl rfl rfl) ?_
  refine wkz ?_
  refine pU rfl (apk (q:=224) (xs:=x2) (zs:=[b]) [224,225] h rfl rfl rfl (.w rfl rfl) rfl rfl rfl rfl rfl rfl) ?_
  refine wkz ?_
  refine gA rfl (mb hx rfl rfl hn rfl) ?_
  refine wkz ?_
  refine og (ds:=[224]) (by kernel_rfl) (by kernel_rfl) rfl (by kernel_rfl) cz (kh rfl (uu (o:=222) (s:=226) (ys:=x2++[b]) rfl rfl rfl rfl rfl hxx (.inr ⟨_,_,_,rfl⟩) rfl rfl rfl rfl rfl rfl rfl)) cz rfl ?_
  refine wkz ?_
  exact cq ⟨rfl,rfl,rfl,rfl,rfl,rfl,θ⟩ ⟨rfl,⟨rfl,rfl⟩,rfl,⟨rfl,rfl⟩,rfl,⟨rfl,rfl⟩,rfl,⟨rfl,rfl⟩,rfl,⟨rfl,rfl⟩,θ⟩
 refine wkz ?_
 obtain⟨⟨y1,y2⟩,hy,H⟩:=ob H
 obtain⟨h',H⟩:=rq H
 have hyy:=(ixE hy).2
 have hn':(v.set a.toNat (x1,x2++[b])).length=n:=by simpa using hn
 refine km ⟨[],[(200,.var 115 [.d η (.l fb),.d η (.i .i64 fi),.d η (.i .i64 fh)]),(202,.var 35 [.nil]),(203,.var 35 [.wn 222 n]),(222,.cxo 222 190 3 ((v.set a.toNat (x1,x2++[b])).set b.toNat (y1,y2++[a])) ξ)],223⟩ ?_ ?_
 .refine uK (o:=222) (i:=b.toNat) (e:=(y1,y2)) rfl hyy rfl rfl rfl rfl rfl rfl (λhnil=>?_) (λk cc=>?_)
  .simp only at hnil
   subst hnil
   refine jT [0,1,2,3,4,5,6,7,8,9,10,11,12,13,14] Try.follows (by kernel_rfl) (by kernel_rfl) rfl ?_
   refine wkz ?_
   refine gA rfl (mb hy rfl rfl hn' rfl) ?_
   refine wkz ?_
   refine gA rfl (olh hyy rfl rfl rfl) ?_
   refine wkz ?_
   refine gA rfl (Pa (zs:=[a]) [224] h' (by simp) rfl rfl (.w rfl rfl) rfl rfl rfl rfl) ?_
   refine wkz ?_
   refine gA rfl (mb hy rfl rfl hn' rfl) ?_
   refine wkz ?_
   refine tx (by kernel_rfl) rfl (by kernel_rfl) cz (kh rfl (uu (o:=222) (s:=225) (ys:=[a]) rfl rfl rfl rfl rfl hyy (.inr ⟨_,_,_,rfl⟩) rfl rfl rfl rfl rfl rfl rfl)) cz rfl ?_
   refine wkz ?_
   exact cq trivial ⟨rfl,⟨rfl,rfl⟩,rfl,⟨rfl,rfl⟩,rfl,⟨rfl,rfl⟩,rfl,⟨rfl,rfl⟩,θ⟩
  refine jT [0,1,2,3,4,5,6,7,8,9,10,11,12,13,14] Try.follows (by kernel_rfl) (by kernel_rfl) rfl ?_
  refine wkz ?_
  refine gA rfl (mb hy rfl rfl hn' rfl) ?_
  refine wkz ?_
  refine gA rfl (olh hyy rfl rfl rfl) ?_
  refine wkz ?_
  refine pU rfl (apk (q:=224) (xs:=y2) (zs:=[a]) [224,225] h' rfl rfl rfl (.w rfl rfl) rfl rfl rfl rfl rfl rfl) ?_
  refine wkz ?_
  refine gA rfl (mb hy rfl rfl hn' rfl) ?_
  refine wkz ?_
  refine og (ds:=[224]) (by kernel_rfl) (by kernel_rfl) rfl (by kernel_rfl) cz (kh rfl (uu (o:=222) (s:=226) (ys:=y2++[a]) rfl rfl rfl rfl rfl hyy (.inr ⟨_,_,_,rfl⟩) rfl rfl rfl rfl rfl rfl rfl)) cz rfl ?_
  refine wkz ?_
  exact cq trivial ⟨rfl,⟨rfl,rfl⟩,rfl,⟨rfl,rfl⟩,rfl,⟨rfl,rfl⟩,rfl,⟨rfl,rfl⟩,θ⟩
 cases H
 refine wkz ?_
 exact BL .nil rfl rfl ⟨rfl,rfl,rfl,rfl,θ⟩ trivial
theorem II{v r:List (Int×List Int)}{a b fi fh:Int}{n:Nat}{fb:Lad}(H:ni v a b=ς r)(hn:v.length=n):
 ∃c,Tryz.f161.body=ς c/\AWC prog 34 c ⟨[(0,.v (.agg [.wn 222 n])),(1,tI a),(2,tI b)],[(200,.var 115 [.d η (.l fb),.d η (.i .i64 fi),.d η (.i .i64 fh)]),(202,.var 35 [.nil]),(203,.var 35 [.wn 222 n]),(222,.cxo 222 190 3 v ξ),(201,.var 35 [.nil])],223⟩
  (md 34 prog [] [(200,.var 115 [.d η (.l fb),.d η (.i .i64 fi),.d η (.i .i64 fh)]),(202,.var 35 [.nil]),(203,.var 35 [.wn 222 n]),(222,.cxo 222 190 3 r ξ),(201,.var 35 [.nil])] (.tup []) []):=by
 refine⟨_,rfl,?_⟩
 refine wkz ?_
 obtain⟨⟨x1,x2⟩,hx,H⟩:=ob H
 obtain⟨h,H⟩:=rq H
 have hxx:=(ixE hx).2
 refine km ⟨[(1,tI a),(2,tI b),(3,.v (.c (.p 223 0)))],[(200,.var 115 [.d η (.l fb),.d η (.i .i64 fi),.d η (.i .i64 fh)]),(202,.var 35 [.nil]),(203,.var 35 [.wn 222 n]),(223,.var 35 [.wn 222 n]),(222,.cxo 222 190 3 (v.set a.toNat (x1,x2++[b])) ξ),(201,.var 35 [.nil])],224⟩ ?_ ?_
 .refine uK (o:=222) (i:=a.toNat) (e:=(x1,x2)) rfl hxx rfl rfl rfl rfl rfl rfl (λhnil=>?_) (λk cc=>?_)
  .simp only at hnil
   subst hnil
   refine jT [0,1,2,3,4,5,6,7,8,9,10,11,12,13,14] Try.follows (by kernel_rfl) (by kernel_rfl) rfl ?_
   refine wkz ?_
   refine gA rfl (mb hx rfl rfl hn rfl) ?_
   refine wkz ?_
   refine gA rfl (olh hxx rfl rfl rfl) ?_
   refine wkz ?_
   refine gA rfl (Pa (zs:=[b]) [224] h (by simp) rfl rfl (.w rfl rfl) rfl rfl rfl rfl) ?_
   refine wkz ?_
   refine gA rfl (mb hx rfl rfl hn rfl) ?_
   refine wkz ?_
   refine tx (by kernel_rfl) rfl (by kernel_rfl) cz (kh rfl (uu (o:=222) (s:=225) (ys:=[b]) rfl rfl rfl rfl rfl hxx (.inr ⟨_,_,_,rfl⟩) rfl rfl rfl rfl rfl rfl rfl)) cz rfl ?_
   refine wkz ?_
   exact cq ⟨rfl,rfl,rfl,rfl,rfl,rfl,θ⟩ ⟨rfl,⟨rfl,rfl⟩,rfl,⟨rfl,rfl⟩,rfl,⟨rfl,rfl⟩,rfl,⟨rfl,rfl⟩,rfl,⟨rfl,rfl⟩,rfl,⟨rfl,rfl⟩,θ⟩
  refine jT [0,1,2,3,4,5,6,7,8,9,10,11,12,13,14] Try.follows (by kernel_rfl) (by kernel_rfl) rfl ?_
  refine wkz ?_
  refine gA rfl (mb hx rfl rfl hn rfl) ?_
  refine wkz ?_
  refine gA rfl (olh hxx rfl rfl rfl) ?_
  refine wkz ?_
  refine pU rfl (apk (q:=224) (xs:=x2) (zs:=[b]) [224,225] h rfl rfl rfl (.w rfl rfl) rfl rfl rfl rfl rfl rfl) ?_
  refine wkz ?_
  refine gA rfl (mb hx rfl rfl hn rfl) ?_
  refine wkz ?_
  refine og (ds:=[224]) (by kernel_rfl) (by kernel_rfl) rfl (by kernel_rfl) cz (kh rfl (uu (o:=222) (s:=226) (ys:=x2++[b]) rfl rfl rfl rfl rfl hxx (.inr ⟨_,_,_,rfl⟩) rfl rfl rfl rfl rfl rfl rfl)) cz rfl ?_
  refine wkz ?_
  exact cq ⟨rfl,rfl,rfl,rfl,rfl,rfl,θ⟩ ⟨rfl,⟨rfl,rfl⟩,rfl,⟨rfl,rfl⟩,rfl,⟨rfl,rfl⟩,rfl,⟨rfl,rfl⟩,rfl,⟨rfl,rfl⟩,rfl,⟨rfl,rfl⟩,θ⟩
 refine wkz ?_
 obtain⟨⟨y1,y2⟩,hy,H⟩:=ob H
 obtain⟨h',H⟩:=rq H
 have hyy:=(ixE hy).2
 have hn':(v.set a.toNat (x1,x2++[b])).length=n:=by simpa using hn
 refine km ⟨[],[(200,.var 115 [.d η (.l fb),.d η (.i .i64 fi),.d η (.i .i64 fh)]),(202,.var 35 [.nil]),(203,.var 35 [.wn 222 n]),(222,.cxo 222 190 3 ((v.set a.toNat (x1,x2++[b])).set b.toNat (y1,y2++[a])) ξ),(201,.var 35 [.nil])],223⟩ ?_ ?_
 .refine uK (o:=222) (i:=b.toNat) (e:=(y1,y2)) rfl hyy rfl rfl rfl rfl rfl rfl (λhnil=>?_) (λk cc=>?_)
  .simp only at hnil
   subst hnil
   refine jT [0,1,2,3,4,5,6,7,8,9,10,11,12,13,14] Try.follows (by kernel_rfl) (by kernel_rfl) rfl ?_
   refine wkz ?_
   refine gA rfl (mb hy rfl rfl hn' rfl) ?_
   refine wkz ?_
   refine gA rfl (olh hyy rfl rfl rfl) ?_
   refine wkz ?_
   refine gA rfl (Pa (zs:=[a]) [224] h' (by simp) rfl rfl (.w rfl rfl) rfl rfl rfl rfl) ?_
   refine wkz ?_
   refine gA rfl (mb hy rfl rfl hn' rfl) ?_
   refine wkz ?_
   refine tx (by kernel_rfl) rfl (by kernel_rfl) cz (kh rfl (uu (o:=222) (s:=225) (ys:=[a]) rfl rfl rfl rfl rfl hyy (.inr ⟨_,_,_,rfl⟩) rfl rfl rfl rfl rfl rfl rfl)) cz rfl ?_
   refine wkz ?_
   exact cq trivial ⟨rfl,⟨rfl,rfl⟩,rfl,⟨rfl,rfl⟩,rfl,⟨rfl,rfl⟩,rfl,⟨rfl,rfl⟩,rfl,⟨rfl,rfl⟩,θ⟩
  refine jT [0,1,2,3,4,5,6,7,8,9,10,11,12,13,14] Try.follows (by kernel_rfl) (by kernel_rfl) rfl ?_
  refine wkz ?_
  refine gA rfl (mb hy rfl rfl hn' rfl) ?_
  refine wkz ?_
  refine gA rfl (olh hyy rfl rfl rfl) ?_
  refine wkz ?_
  refine pU rfl (apk (q:=224) (xs:=y2) (zs:=[a]) [224,225] h' rfl rfl rfl (.w rfl rfl) rfl rfl rfl rfl rfl rfl) ?_
  refine wkz ?_
  refine gA rfl (mb hy rfl rfl hn' rfl) ?_
  refine wkz ?_
  refine og (ds:=[224]) (by kernel_rfl) (by kernel_rfl) rfl (by kernel_rfl) cz (kh rfl (uu (o:=222) (s:=226) (ys:=y2++[a]) rfl rfl rfl rfl rfl hyy (.inr ⟨_,_,_,rfl⟩) rfl rfl rfl rfl rfl rfl rfl)) cz rfl ?_
  refine wkz ?_
  exact cq trivial ⟨rfl,⟨rfl,rfl⟩,rfl,⟨rfl,rfl⟩,rfl,⟨rfl,rfl⟩,rfl,⟨rfl,rfl⟩,rfl,⟨rfl,rfl⟩,θ⟩
 cases H
 refine wkz ?_
 exact BL .nil rfl rfl ⟨rfl,rfl,rfl,rfl,rfl,θ⟩ trivial
def xP(a0:List Int)(a1:Int):Int->Option (cH (Int) (Bool))
 |v1=>cond (ltB v1 (a0.length:Int)) (Option.bind (ix a0 v1) λx2=>cond (eqB x2 a1) (dn (ς ζ)) (ς (.next (WR (v1+1))))) (dn (ς η))
def wy(a0:List Int)(a1:Int):Option Bool:=
 iter (xP a0 a1) FU 0
instance Eo{a0:List Int}{a1:Int}{r:Bool}:FC prog (wy a0 a1=ς r) 162 [aL (a0.map eI),aI a1] [.c (.d (.b r))]:=gG func162 ntmps162 (hl 0 5)
theorem iC{v r:List (Int×List Int)}{a b:Int}(H:ni v a b=ς r):r.length=v.length:=by
 unfold ni at H
 obtain⟨x,hx,H⟩:=ob H
 obtain⟨h,H⟩:=rq H
 obtain⟨y,hy,H⟩:=ob H
 obtain⟨h',H⟩:=rq H
 cases H
 simp
end Go.AM
