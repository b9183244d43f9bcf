/- A part. -/
import Derived.Test.YtgbcdgihmgapeaaGreatG
set_option linter.unusedVariables false
open Option renaming some->ς,none->ξ
open Bool renaming true->ζ,false->η
open True renaming intro->θ
open Option renaming bind->abd
namespace Go.AM
open Go.Proofs
open Tryz
attribute [local irreducible] AWN NS AWO AWR AWC DR DZ cB eZ iter
set_option maxRecDepth 100000
set_option maxHeartbeats 40000000
def tm(a0:List Int):(Int×Int)->Option (ct (Int×Int) (Int))
 |(v1,v2)=>abd (cond (ltB v2 (a0.length:Int)) (ς (ltB v2 4000)) (ς η)) λ(v6:Bool)=>cond v6 (abd (ix a0 v2) λx7=>ς (.next (zo .i64 (WR ((WR ((WR (v1*137))+(WR (x7))))+11)) 1073741823,WR (v2+1)))) (ς (.done v1))
def Gs(a0:List Int):Option aT:=
 abd (iter (tm a0) FU (WR (193017+(a0.length:Int)),0)) λ(v5:Int)=>ς (⟨a0,0,v5⟩:aT)
theorem Td{a0:List Int}{r:aT}(H:Gs a0=ς r):FnN prog 11 [aL (a0.map eU8)] 92 (UR r):=by
 refine Xz func11 (hN:=ntmps11) (h:=?_)
 refine wI ?_
 refine aa H λv5 Hj H=>jB ⟨[(0,.v (.c (.d η (.l (a0.map eU8))))),(3,tI v5)],[],0⟩ ?_ ?_
 .refine iT Hj (λq=>⟨[(0,.v (.c (.d η (.l (a0.map eU8))))),(3,tI q.1),(4,tI q.2)],[],0⟩) ?_
  rintro⟨v1,v2⟩ o H
  refine ad ?_
  refine aa H λv6 Hj H=>jR ⟨[(0,.v (.c (.d η (.l (a0.map eU8))))),(3,tI v1),(4,tI v2),(15,tB v6)],[],0⟩ ?_ ?_
  .exact az Hj
  refine cC H ?_ ?_<;>intro H
  .refine aa H λx7 hx7 H=>nA (xdT (enc:=eU8) hx7) ?_
   exact aN H
  exact aE H
 cases H
 exact QJ
def nV(a0:List bD):(Int×List bD)->Option (ct (Int×List bD) (List bD))
 |(v1,v2)=>cond (ltB v1 (a0.length:Int)) (abd (ix a0 v1) λx5=>cond (cW 1 (([]:List Int)++x5.bb).length) (cond (cW 24 (v2++[(⟨(([]:List Int)++x5.bb)⟩:bD)]).length) (ς (.next (WR (v1+1),(v2++[(⟨(([]:List Int)++x5.bb)⟩:bD)])))) ξ) ξ) (ς (.done v2))
def nB(a0:List bD):Option (List bD):=
 abd (iter (nV a0) FU (0,([]:List bD))) λ(v4:List bD)=>ς v4
instance V1{a0:List bD}{r:List bD}:FC prog (nB a0=ς r) 46 [aL (a0.map de)] [.c (.own 50 1 (r.map de) r.length)]:=gG func46 ntmps46 (hL 0 (λ(v:Int×List bD) sl ob nx=>⟨(3,.v (.c (.w 0 v.2.length)))::(4,tI v.1)::xS [0] sl,[(0,w50 v.2)]++ob,nx⟩)) (hB 0 (λ(v:List bD) sl ob nx=>⟨(3,.v (.c (.w 0 v.length)))::(4,.any)::xS [0] sl,[(0,w50 v)]++ob,nx⟩))
def mK(a0:am):(Int×Int)->Option (ct (Int×Int) (Int))
 |(v1,v2)=>cond (ltB v2 (a0.aH.length:Int)) (abd (ix a0.aH v2) λx5=>ς (.next (WR (v1+x5.dO),WR (v2+1)))) (ς (.done v1))
def mJ(a0:am):Option Int:=
 abd (iter (mK a0) FU (0,0)) λ(v4:Int)=>ς v4
instance OY{a0:am}{r:Int}:FC prog (mJ a0=ς r) 134 [.agg (cS a0)] [.c (.d (.i .i64 r))]:=gG func134 ntmps134 (hm 0 3 4) (he 0 3 4)
def tl(v:List (Int×List Int))(a b:Int):Option (List (Int×List Int)):=
 abd (ix v a) λx=>cond (cW 8 (x.2++[b]).length) (abd (ix (v.set a.toNat (x.1,x.2++[b])) b) λy=>cond (cW 8 (y.2++[a]).length) (ς ((v.set a.toNat (x.1,x.2++[b])).set b.toNat (y.1,y.2++[a]))) ξ) ξ
theorem I1{v r:List (Int×List Int)}{a b fi fh:Int}{n:Nat}{fb:Lad}(H:tl v a b=ς r)(hn:v.length=n):
 ∃c,Tryz.f117.body=ς c/\AWC prog 34 c ⟨[(0,.v (.agg [.wn 222 n])),(1,tI a),(2,tI b)],[(200,.var 92 [.d η (.l fb),.d η (.i .i64 fi),.d η (.i .i64 fh)]),(202,.var 26 [.nil]),(203,.var 26 [.wn 222 n]),(222,.cxo 222 113 3 v ξ)],223⟩
  (mU 34 prog [] [(200,.var 92 [.d η (.l fb),.d η (.i .i64 fi),.d η (.i .i64 fh)]),(202,.var 26 [.nil]),(203,.var 26 [.wn 222 n]),(222,.cxo 222 113 3 r ξ)] (.tup []) []):=by
 refine⟨_,rfl,?_⟩
 refine wkz ?_
 obtain⟨⟨x1,x2⟩,hx,H⟩:=ob H
 obtain⟨h,H⟩:=rq H
 have hxx:=(ixE hx).2
 refine sX ⟨[(1,tI a),(2,tI b),(3,.v (.c (.p 223 0)))],[(200,.var 92 [.d η (.l fb),.d η (.i .i64 fi),.d η (.i .i64 fh)]),(202,.var 26 [.nil]),(203,.var 26 [.wn 222 n]),(223,.var 26 [.wn 222 n]),(222,.cxo 222 113 3 (v.set a.toNat (x1,x2++[b])) ξ)],224⟩ ?_ ?_
 .refine GX (o:=222) (i:=a.toNat) (e:=(x1,x2)) rfl hxx rfl rfl rfl rfl rfl rfl (λhnil=>?_) (λk cc=>?_)
  .simp only at hnil
   subst hnil
   refine wZ [0,1,2,3,4,5,6,7,8,9,10,11,12,13,14] Try.follows (by kernel_rfl) (by kernel_rfl) rfl ?_
   refine wkz ?_
   refine s3 rfl (AD hx rfl rfl hn rfl) ?_
   refine wkz ?_
   refine s3 rfl (olh hxx rfl rfl rfl) ?_
   refine wkz ?_
   refine s3 rfl (apNk (zs:=[b]) [224] h (by simp) rfl rfl (.w rfl rfl) rfl rfl rfl rfl) ?_
   refine wkz ?_
   refine s3 rfl (AD hx rfl rfl hn rfl) ?_
   refine wkz ?_
   refine Fe (by kernel_rfl) rfl (by kernel_rfl) cr (jP rfl (Ih (o:=222) (s:=225) (ys:=[b]) rfl rfl rfl rfl rfl hxx (.inr ⟨_,_,_,rfl⟩) rfl rfl rfl rfl rfl rfl rfl)) cr rfl ?_
   refine wkz ?_
   exact dZ ⟨rfl,rfl,rfl,rfl,rfl,rfl,θ⟩ ⟨rfl,⟨rfl,rfl⟩,rfl,⟨rfl,rfl⟩,rfl,⟨rfl,rfl⟩,rfl,⟨rfl,rfl⟩,rfl,⟨rfl,rfl⟩,θ⟩
  refine wZ [0,1,2,3,4,5,6,7,8,9,10,11,12,13,14] Try.follows (by kernel_rfl) (by kernel_rfl) rfl ?_
  refine wkz ?_
  refine s3 rfl (AD hx rfl rfl hn rfl) ?_
  refine wkz ?_
  refine s3 rfl (olh hxx rfl rfl rfl) ?_
  refine wkz ?_
  refine Qz rfl (apk (q:=224) (xs:=x2) (zs:=[b]) [224,225] h rfl rfl rfl (.w rfl rfl) rfl rfl rfl rfl rfl rfl) ?_
  refine wkz ?_
  refine s3 rfl (AD hx rfl rfl hn rfl) ?_
  refine wkz ?_
  refine oY (ds:=[224]) (by kernel_rfl) (by kernel_rfl) rfl (by kernel_rfl) cr (jP rfl (Ih (o:=222) (s:=226) (ys:=x2++[b]) rfl rfl rfl rfl rfl hxx (.inr ⟨_,_,_,rfl⟩) rfl rfl rfl rfl rfl rfl rfl)) cr rfl ?_
  refine wkz ?_
  exact dZ ⟨rfl,rfl,rfl,rfl,rfl,rfl,θ⟩ ⟨rfl,⟨rfl,rfl⟩,rfl,⟨rfl,rfl⟩,rfl,⟨rfl,rfl⟩,rfl,⟨rfl,rfl⟩,rfl,⟨rfl,rfl⟩,θ⟩
 refine wkz ?_
 obtain⟨⟨y1,y2⟩,hy,H⟩:=ob H
 obtain⟨h',H⟩:=rq H
 have hyy:=(ixE hy).2
 have hn':(v.set a.toNat (x1,x2++[b])).length=n:=by simpa using hn
 refine sX ⟨[],[(200,.var 92 [.d η (.l fb),.d η (.i .i64 fi),.d η (.i .i64 fh)]),(202,.var 26 [.nil]),(203,.var 26 [.wn 222 n]),(222,.cxo 222 113 3 ((v.set a.toNat (x1,x2++[b])).set b.toNat (y1,y2++[a])) ξ)],223⟩ ?_ ?_
 .refine GX (o:=222) (i:=b.toNat) (e:=(y1,y2)) rfl hyy rfl rfl rfl rfl rfl rfl (λhnil=>?_) (λk cc=>?_)
  .simp only at hnil
   subst hnil
   refine wZ [0,1,2,3,4,5,6,7,8,9,10,11,12,13,14] Try.follows (by kernel_rfl) (by kernel_rfl) rfl ?_
   refine wkz ?_
   refine s3 rfl (AD hy rfl rfl hn' rfl) ?_
   refine wkz ?_
   refine s3 rfl (olh hyy rfl rfl rfl) ?_
   refine wkz ?_
   refine s3 rfl (apNk (zs:=[a]) [224] h' (by simp) rfl rfl (.w rfl rfl) rfl rfl rfl rfl) ?_
   refine wkz ?_
   refine s3 rfl (AD hy rfl rfl hn' rfl) ?_
   refine wkz ?_
   refine Fe (by kernel_rfl) rfl (by kernel_rfl) cr (jP rfl (Ih (o:=222) (s:=225) (ys:=[a]) rfl rfl rfl rfl rfl hyy (.inr ⟨_,_,_,rfl⟩) rfl rfl rfl rfl rfl rfl rfl)) cr rfl ?_
   refine wkz ?_
   exact dZ trivial ⟨rfl,⟨rfl,rfl⟩,rfl,⟨rfl,rfl⟩,rfl,⟨rfl,rfl⟩,rfl,⟨rfl,rfl⟩,θ⟩
  refine wZ [0,1,2,3,4,5,6,7,8,9,10,11,12,13,14] Try.follows (by kernel_rfl) (by kernel_rfl) rfl ?_
  refine wkz ?_
  refine s3 rfl (AD hy rfl rfl hn' rfl) ?_
  refine wkz ?_
  refine s3 rfl (olh hyy rfl rfl rfl) ?_
  refine wkz ?_
  refine Qz rfl (apk (q:=224) (xs:=y2) (zs:=[a]) [224,225] h' rfl rfl rfl (.w rfl rfl) rfl rfl rfl rfl rfl rfl) ?_
  refine wkz ?_
  refine s3 rfl (AD hy rfl rfl hn' rfl) ?_
  refine wkz ?_
  refine oY (ds:=[224]) (by kernel_rfl) (by kernel_rfl) rfl (by kernel_rfl) cr (jP rfl (Ih (o:=222) (s:=226) (ys:=y2++[a]) rfl rfl rfl rfl rfl hyy (.inr ⟨_,_,_,rfl⟩) rfl rfl rfl rfl rfl rfl rfl)) cr rfl ?_
  refine wkz ?_
  exact dZ trivial ⟨rfl,⟨rfl,rfl⟩,rfl,⟨rfl,rfl⟩,rfl,⟨rfl,rfl⟩,rfl,⟨rfl,rfl⟩,θ⟩
 cases H
 refine wkz ?_
 exact Hs .nil rfl rfl ⟨rfl,rfl,rfl,rfl,θ⟩ trivial
theorem pA{v r:List (Int×List Int)}{a b:Int}(H:tl v a b=ς r):r.length=v.length:=by
 unfold tl at H
 obtain⟨x,hx,H⟩:=ob H
 obtain⟨h,H⟩:=rq H
 obtain⟨y,hy,H⟩:=ob H
 obtain⟨h',H⟩:=rq H
 cases H
 simp
end Go.AM
