/- A part. -/
import Derived.Test.YtfbpfflnhfcmaaaGreatG
set_option linter.unusedVariables false
open Option renaming some->ς,none->ξ
open Bool renaming true->ζ,false->η
open True renaming intro->θ
open Option renaming bind->afW
namespace Go.AM
open Go.Proofs
open Tryz
attribute [local irreducible] AWN NS AWO AWR AWC DR DZ dm gK iter
set_option maxRecDepth 100000
set_option maxHeartbeats 40000000
variable{r a1:Int}
def xX(a0:List Int):(Int×Int)->Option (cj (Int×Int) (Int))
 |(v1,v2)=>afW (cond (ltB v2 (a0.length:Int)) (ς (ltB v2 4000)) (ς η)) λ(v6:Bool)=>cond v6 (afW (ix a0 v2) λx7=>ς (.next (yo .i64 (WR ((WR ((WR (v1*137))+(WR (x7))))+11)) 1073741823,WR (v2+1)))) (ς (.done v1))
def Iw(a0:List Int):Option bu:=
 afW (iter (xX a0) FU (WR (193017+(a0.length:Int)),0)) λ(v5:Int)=>ς (⟨a0,0,v5⟩:bu)
theorem O3{a0:List Int}{r:bu}(H:Iw a0=ς r):FnN prog 27 [aL (a0.map eU8)] 124 (acy r):=by
 refine fn_inN func27 (hN:=ntmps27) (h:=?_)
 refine wI ?_
 refine aa H λv5 Hj H=>jB ⟨[(0,.v (.c (.d η (.l (a0.map eU8))))),(3,tI v5)],[],0⟩ ?_ ?_
 .refine iT Hj (λq=>⟨[(0,.v (.c (.d η (.l (a0.map eU8))))),(3,tI q.1),(4,tI q.2)],[],0⟩) ?_
  rintro⟨v1,v2⟩ o H
  refine ad ?_
  refine aa H λv6 Hj H=>jR ⟨[(0,.v (.c (.d η (.l (a0.map eU8))))),(3,tI v1),(4,tI v2),(15,tB v6)],[],0⟩ ?_ ?_
  .exact az Hj
  refine cC H ?_ ?_<;>intro H
  .refine aa H λx7 hx7 H=>nA (xdT (enc:=eU8) hx7) ?_
   exact aN H
  exact aE H
 cases H
 exact Yk
def wG(a0:bu):Option (Int×bu):=
 afW (cond (ltB a0.fi (a0.fb.length:Int)) (afW (ix a0.fb a0.fi) λx3=>ς (yo .i64 (WR ((yo .i64 (Jb .i64 (Cf .i64 (WR ((WR (a0.fh*6364136223846793005))+1442695040888963407)) 33) (Cf .i64 (WR ((WR (a0.fh*6364136223846793005))+1442695040888963407)) 47)) 255)+(WR (x3)))) 255,WR (a0.fi+1))) (ς (yo .i64 (Jb .i64 (Cf .i64 (WR ((WR (a0.fh*6364136223846793005))+1442695040888963407)) 33) (Cf .i64 (WR ((WR (a0.fh*6364136223846793005))+1442695040888963407)) 47)) 255,a0.fi))) λ((v1,v2):Int×Int)=>ς (v1,(⟨a0.fb,v2,WR ((WR (a0.fh*6364136223846793005))+1442695040888963407)⟩:bu))
instance sl1Byte_c{a0:bu}{r:Int×bu}:FCW prog (wG a0=ς r) 145 (.var 124 (kM [.f] (cB a0))) [tP 200] (.var 124 (kM [.f] (cB r.2))) [.c (.d (.i .i64 r.1))]:=gW func145 ntmps145 (hC 34 (λ(v:Int×Int) sl ob nx=>⟨(3,tI v.1)::sl,[(200,.var 124 (kM [.f] (cB (⟨a0.fb,v.2,WR ((WR (a0.fh*6364136223846793005))+1442695040888963407)⟩:bu))))]++ob,nx⟩))
def dt(a0:Int)(a1:Int)(a2:Int):Option Bool:=
 afW (cond (leB a1 a0) (ς (leB a0 a2)) (ς η)) λ(v1:Bool)=>ς v1
instance adS{a0:Int}{a2:Int}{r:Bool}:FC prog (dt a0 a1 a2=ς r) 51 [aI a0,aI a1,aI a2] [.c (.d (.b r))]:=gG func51 ntmps51 (hb 10 6)
def CO(a0:List Int)(a1:Int):Int->Option (cj (Int) (Bool))
 |v1=>cond (ltB v1 (a0.length:Int)) (afW (ix a0 v1) λx2=>cond (eqB x2 a1) (dn (ς ζ)) (ς (.next (WR (v1+1))))) (dn (ς η))
def DW(a0:List Int)(a1:Int):Option Bool:=
 iter (CO a0 a1) FU 0
instance Wh{a0:List Int}{r:Bool}:FC prog (DW a0 a1=ς r) 108 [aL (a0.map eI),aI a1] [.c (.d (.b r))]:=gG func108 ntmps108 (hl 0 5)
def kS(a0:be):(Int×List fo)->Option (cj (Int×List fo) (List fo))
 |(v1,v2)=>cond (ltB v1 (a0.bp.length:Int)) (afW (ix a0.bp v1) λx6=>afW (ix a0.bp v1) λx7=>cond (da 8 (([]:List Int)++x7.cY).length) (cond (da 32 (v2++[(⟨x6.fF,(([]:List Int)++x7.cY)⟩:fo)]).length) (ς (.next (WR (v1+1),(v2++[(⟨x6.fF,(([]:List Int)++x7.cY)⟩:fo)])))) ξ) ξ) (ς (.done v2))
def s8(a0:be):Option be:=
 afW (iter (kS a0) FU (0,([]:List fo))) λ(v5:List fo)=>ς (⟨v5⟩:be)
instance sl10Copy_c{a0:be}{r:be}:FCV prog (s8 a0=ς r) 140 [] [.v (.agg [.d η (.l (a0.bp.map gp))])] [] (.v (.agg [.wn 210 r.bp.length])) [(210,Vj r.bp)]:=⟨λH=>by
 refine fV func140 ntmps140 ?_
 refine aa H λv5 Hj H=>jB ⟨[(2,tP 211),(3,tP 212)],[(211,.var 26 [.nil]),(212,.var 26 [.wn 213 v5.length]),(213,Vj v5)],214⟩ ?_ ?_
 .refine iT Hj (λq=>⟨[(1,tP 210),(2,tP 211),(3,tP 212),(4,tI q.1)],[(210,.var 26 [.d η (.l (a0.bp.map gp))]),(211,.var 26 [.nil]),(212,.var 26 [.wn 213 q.2.length]),(213,Vj q.2)],214⟩) ?_ (by refine bz (qS (o:=212) (j:=0) 154 2 ζ) ?_;refine bz (wB 213 (([]:List fo).length)) ?_;exact wo)
  rintro⟨v1,v2⟩ o H
  refine ad ?_
  refine cC H ?_ ?_<;>intro H
  .refine zI (List.range 21) ?_
   refine aa H λx6 hx6 H=>zA (xdT (enc:=gp) hx6) ?_
   refine aa H λx7 hx7 H=>zA (xdT (enc:=gp) hx7) ?_
   obtain⟨h,H⟩:=rq H
   refine wA (JB (enc:=eI) (ys:=([]:List Int)) (zs:=x7.cY) [214] h) ?_
   obtain⟨h,H⟩:=rq H
   refine yw (ds:=[214]) (by kernel_rfl) (by kernel_rfl) rfl (by kernel_rfl) dV (vG rfl (Ux (enc:=gp) (ys:=v2) (zs:=[(⟨x6.fF,(([]:List Int)++x7.cY)⟩:fo)]) h (by first|exact List.cons_ne_nil _ _|simp) rfl (λ_=>rfl) (by first|rfl|simp) (.w rfl (by first|rfl|exact lm _|simp)) rfl rfl rfl rfl rfl rfl rfl rfl rfl rfl)) dV rfl ?_
   refine wI ?_
   refine wA (spx 100015) ?_
   cases H
   refine Ey ?_
   refine bz (qT 213) ?_
   exact wo
  exact aE H
 cases H
 refine dD (wS 213 210) ?_
 exact mC⟩
instance sl10Copy_f{a0:be}{r:be}:FCF prog (s8 a0=ς r) 140 [.agg (gM a0)] [.agg [.d (.l (r.bp.map gp))]]:=⟨λH=>by
 refine fI func140 ntmps140 ?_
 refine aa H λv5 Hj H=>jB ⟨[(2,tP 1),(3,tP 2)],[(1,.var 26 [.nil]),(2,.var 26 [.wn 3 v5.length]),(3,Vj v5)],4⟩ ?_ ?_
 .refine iT Hj (λq=>⟨[(1,tP 0),(2,tP 1),(3,tP 2),(4,tI q.1)],[(0,.var 26 [.d η (.l (a0.bp.map gp))]),(1,.var 26 [.nil]),(2,.var 26 [.wn 3 q.2.length]),(3,Vj q.2)],4⟩) ?_ (by refine bz (qS (o:=2) (j:=0) 154 2 ζ) ?_;refine bz (wB 3 (([]:List fo).length)) ?_;exact wo)
  rintro⟨v1,v2⟩ o H
  refine ad ?_
  refine cC H ?_ ?_<;>intro H
  .refine zI (List.range 21) ?_
   refine aa H λx6 hx6 H=>zA (xdT (enc:=gp) hx6) ?_
   refine aa H λx7 hx7 H=>zA (xdT (enc:=gp) hx7) ?_
   obtain⟨h,H⟩:=rq H
   refine wA (JB (enc:=eI) (ys:=([]:List Int)) (zs:=x7.cY) [4] h) ?_
   obtain⟨h,H⟩:=rq H
   refine yw (ds:=[4]) (by kernel_rfl) (by kernel_rfl) rfl (by kernel_rfl) dV (vG rfl (Ux (enc:=gp) (ys:=v2) (zs:=[(⟨x6.fF,(([]:List Int)++x7.cY)⟩:fo)]) h (by first|exact List.cons_ne_nil _ _|simp) rfl (λ_=>rfl) (by first|rfl|simp) (.w rfl (by first|rfl|exact lm _|simp)) rfl rfl rfl rfl rfl rfl rfl rfl rfl rfl)) dV rfl ?_
   refine wI ?_
   refine wA (spx 100025) ?_
   cases H
   refine Ey ?_
   refine bz (qT 3) ?_
   exact wo
  exact aE H
 cases H
 refine Ng (fN 3) ?_
 exact jL⟩
def CI(a0:mw)(a1:Int):Option aA:=
 ς {IV with dq:=a0,aS:=a1,bm:={ey with bw:=1}}
instance adD{a0:mw}{r:aA}:FC prog (CI a0 a1=ς r) 226 [.agg (GZ a0),aI a1] [.agg (qM [.z,.z] (mB r))]:=gG func226 ntmps226
def yb(a0:bR):Option bR:=
 cond (da 8 (([]:List Int)++a0.bU).length) (ς {a0 with bU:=(([]:List Int)++a0.bU)}) ξ
instance sl30Plan_c{a0:bR}{r:bR}:FC prog (yb a0=ς r) 236 [.agg (mA a0)] [.agg (qM [.o] (pF r))]:=gG func236 ntmps236
def xW(v:List (Int×List Int))(a b:Int):Option (List (Int×List Int)):=
 afW (ix v a) λx=>cond (da 8 (x.2++[b]).length) (afW (ix (v.set a.toNat (x.1,x.2++[b])) b) λy=>cond (da 8 (y.2++[a]).length) (ς ((v.set a.toNat (x.1,x.2++[b])).set b.toNat (y.1,y.2++[a]))) ξ) ξ
theorem O1{v r:List (Int×List Int)}{a b fi fh:Int}{n:Nat}{fb:Lad}(H:xW v a b=ς r)(hn:v.length=n):
 ∃c,Tryz.f229.body=ς c/\AWC prog 34 c ⟨[(0,.v (.agg [.wn 222 n])),(1,tI a),(2,tI b)],[(200,.var 124 [.d η (.l fb),.d η (.i .i64 fi),.d η (.i .i64 fh)]),(202,.var 26 [.nil]),(203,.var 26 [.wn 222 n]),(222,.cxo 222 154 3 v ξ)],223⟩
  (qV 34 prog [] [(200,.var 124 [.d η (.l fb),.d η (.i .i64 fi),.d η (.i .i64 fh)]),(202,.var 26 [.nil]),(203,.var 26 [.wn 222 n]),(222,.cxo 222 154 3 r ξ)] (.tup []) []):=by
 refine⟨_,rfl,?_⟩
 refine wkz ?_
 obtain⟨⟨x1,x2⟩,hx,H⟩:=ob H
 obtain⟨h,H⟩:=rq H
 have hxx:=(ixE hx).2
 refine xq ⟨[(1,tI a),(2,tI b),(3,.v (.c (.p 223 0)))],[(200,.var 124 [.d η (.l fb),.d η (.i .i64 fi),.d η (.i .i64 fh)]),(202,.var 26 [.nil]),(203,.var 26 [.wn 222 n]),(223,.var 26 [.wn 222 n]),(222,.cxo 222 154 3 (v.set a.toNat (x1,x2++[b])) ξ)],224⟩ ?_ ?_
 .refine Na (o:=222) (i:=a.toNat) (e:=(x1,x2)) rfl hxx rfl rfl rfl rfl rfl rfl (λhnil=>?_) (λk cc=>?_)
  .simp only at hnil
   subst hnil
   refine zV [0,1,2,3,4,5,6,7,8,9,10,11,12,13,14] Try.follows (by kernel_rfl) (by kernel_rfl) rfl ?_
   refine wkz ?_
   refine vI rfl (FV hx rfl rfl hn rfl) ?_
   refine wkz ?_
   refine vI rfl (olh hxx rfl rfl rfl) ?_
   refine wkz ?_
   refine vI rfl (apNk (zs:=[b]) [224] h (by simp) rfl rfl (.w rfl rfl) rfl rfl rfl rfl) ?_
   refine wkz ?_
   refine vI rfl (FV hx rfl rfl hn rfl) ?_
   refine wkz ?_
   refine Lq (by kernel_rfl) rfl (by kernel_rfl) dV (vG rfl (Oo (o:=222) (s:=225) (ys:=[b]) rfl rfl rfl rfl rfl hxx (.inr ⟨_,_,_,rfl⟩) rfl rfl rfl rfl rfl rfl rfl)) dV rfl ?_
   refine wkz ?_
   exact eY ⟨rfl,rfl,rfl,rfl,rfl,rfl,θ⟩ ⟨rfl,⟨rfl,rfl⟩,rfl,⟨rfl,rfl⟩,rfl,⟨rfl,rfl⟩,rfl,⟨rfl,rfl⟩,rfl,⟨rfl,rfl⟩,θ⟩
  refine zV [0,1,2,3,4,5,6,7,8,9,10,11,12,13,14] Try.follows (by kernel_rfl) (by kernel_rfl) rfl ?_
  refine wkz ?_
  refine vI rfl (FV hx rfl rfl hn rfl) ?_
  refine wkz ?_
  refine vI rfl (olh hxx rfl rfl rfl) ?_
  refine wkz ?_
  refine Qd rfl (apk (q:=224) (xs:=x2) (zs:=[b]) [224,225] h rfl rfl rfl (.w rfl rfl) rfl rfl rfl rfl rfl rfl) ?_
  refine wkz ?_
  refine vI rfl (FV hx rfl rfl hn rfl) ?_
  refine wkz ?_
  refine yw (ds:=[224]) (by kernel_rfl) (by kernel_rfl) rfl (by kernel_rfl) dV (vG rfl (Oo (o:=222) (s:=226) (ys:=x2++[b]) rfl rfl rfl rfl rfl hxx (.inr ⟨_,_,_,rfl⟩) rfl rfl rfl rfl rfl rfl rfl)) dV rfl ?_
  refine wkz ?_
  exact eY ⟨rfl,rfl,rfl,rfl,rfl,rfl,θ⟩ ⟨rfl,⟨rfl,rfl⟩,rfl,⟨rfl,rfl⟩,rfl,⟨rfl,rfl⟩,rfl,⟨rfl,rfl⟩,rfl,⟨rfl,rfl⟩,θ⟩
 refine wkz ?_
 obtain⟨⟨y1,y2⟩,hy,H⟩:=ob H
 obtain⟨h',H⟩:=rq H
 have hyy:=(ixE hy).2
 have hn':(v.set a.toNat (x1,x2++[b])).length=n:=by simpa using hn
 refine xq ⟨[],[(200,.var 124 [.d η (.l fb),.d η (.i .i64 fi),.d η (.i .i64 fh)]),(202,.var 26 [.nil]),(203,.var 26 [.wn 222 n]),(222,.cxo 222 154 3 ((v.set a.toNat (x1,x2++[b])).set b.toNat (y1,y2++[a])) ξ)],223⟩ ?_ ?_
 .refine Na (o:=222) (i:=b.toNat) (e:=(y1,y2)) rfl hyy rfl rfl rfl rfl rfl rfl (λhnil=>?_) (λk cc=>?_)
  .simp only at hnil
   subst hnil
   refine zV [0,1,2,3,4,5,6,7,8,9,10,11,12,13,14] Try.follows (by kernel_rfl) (by kernel_rfl) rfl ?_
   refine wkz ?_
   refine vI rfl (FV hy rfl rfl hn' rfl) ?_
   refine wkz ?_
   refine vI rfl (olh hyy rfl rfl rfl) ?_
   refine wkz ?_
   refine vI rfl (apNk (zs:=[a]) [224] h' (by simp) rfl rfl (.w rfl rfl) rfl rfl rfl rfl) ?_
   refine wkz ?_
   refine vI rfl (FV hy rfl rfl hn' rfl) ?_
   refine wkz ?_
   refine Lq (by kernel_rfl) rfl (by kernel_rfl) dV (vG rfl (Oo (o:=222) (s:=225) (ys:=[a]) rfl rfl rfl rfl rfl hyy (.inr ⟨_,_,_,rfl⟩) rfl rfl rfl rfl rfl rfl rfl)) dV rfl ?_
   refine wkz ?_
   exact eY trivial ⟨rfl,⟨rfl,rfl⟩,rfl,⟨rfl,rfl⟩,rfl,⟨rfl,rfl⟩,rfl,⟨rfl,rfl⟩,θ⟩
  refine zV [0,1,2,3,4,5,6,7,8,9,10,11,12,13,14] Try.follows (by kernel_rfl) (by kernel_rfl) rfl ?_
  refine wkz ?_
  refine vI rfl (FV hy rfl rfl hn' rfl) ?_
  refine wkz ?_
  refine vI rfl (olh hyy rfl rfl rfl) ?_
  refine wkz ?_
  refine Qd rfl (apk (q:=224) (xs:=y2) (zs:=[a]) [224,225] h' rfl rfl rfl (.w rfl rfl) rfl rfl rfl rfl rfl rfl) ?_
  refine wkz ?_
  refine vI rfl (FV hy rfl rfl hn' rfl) ?_
  refine wkz ?_
  refine yw (ds:=[224]) (by kernel_rfl) (by kernel_rfl) rfl (by kernel_rfl) dV (vG rfl (Oo (o:=222) (s:=226) (ys:=y2++[a]) rfl rfl rfl rfl rfl hyy (.inr ⟨_,_,_,rfl⟩) rfl rfl rfl rfl rfl rfl rfl)) dV rfl ?_
  refine wkz ?_
  exact eY trivial ⟨rfl,⟨rfl,rfl⟩,rfl,⟨rfl,rfl⟩,rfl,⟨rfl,rfl⟩,rfl,⟨rfl,rfl⟩,θ⟩
 cases H
 refine wkz ?_
 exact G9 .nil rfl rfl ⟨rfl,rfl,rfl,rfl,θ⟩ trivial
theorem ug{v r:List (Int×List Int)}{a b:Int}(H:xW v a b=ς r):r.length=v.length:=by
 unfold xW at H
 obtain⟨x,hx,H⟩:=ob H
 obtain⟨h,H⟩:=rq H
 obtain⟨y,hy,H⟩:=ob H
 obtain⟨h',H⟩:=rq H
 cases H
 simp
def sD(a0:List bI):(Int×List bI)->Option (cj (Int×List bI) (List bI))
 |(v1,v2)=>cond (ltB v1 (a0.length:Int)) (afW (ix a0 v1) λx5=>cond (da 1 (([]:List Int)++x5.bh).length) (cond (da 24 (v2++[(⟨(([]:List Int)++x5.bh)⟩:bI)]).length) (ς (.next (WR (v1+1),(v2++[(⟨(([]:List Int)++x5.bh)⟩:bI)])))) ξ) ξ) (ς (.done v2))
def vk(a0:List bI):Option (List bI):=
 afW (iter (sD a0) FU (0,([]:List bI))) λ(v4:List bI)=>ς v4
instance adR{a0:List bI}{r:List bI}:FC prog (vk a0=ς r) 237 [aL (a0.map eT)] [.c (.own 151 1 (r.map eT) r.length)]:=gG func237 ntmps237 (hL 0 (λ(v:Int×List bI) sl ob nx=>⟨(3,.v (.c (.w 0 v.2.length)))::(4,tI v.1)::xS [0] sl,[(0,w151 v.2)]++ob,nx⟩)) (hB 0 (λ(v:List bI) sl ob nx=>⟨(3,.v (.c (.w 0 v.length)))::(4,.any)::xS [0] sl,[(0,w151 v)]++ob,nx⟩))
def uh(a0:List ah):(Int×List ah)->Option (cj (Int×List ah) (List ah))
 |(v1,v2)=>cond (ltB v1 (a0.length:Int)) (afW (ix a0 v1) λx6=>afW (ix a0 v1) λx7=>cond (da 1 (([]:List Int)++x7.bh).length) (cond (da 32 (v2++[(⟨x6.cH,(([]:List Int)++x7.bh)⟩:ah)]).length) (ς (.next (WR (v1+1),(v2++[(⟨x6.cH,(([]:List Int)++x7.bh)⟩:ah)])))) ξ) ξ) (ς (.done v2))
def xY(a0:List ah):Option (List ah):=
 afW (iter (uh a0) FU (0,([]:List ah))) λ(v5:List ah)=>ς v5
instance aeS{a0:List ah}{r:List ah}:FC prog (xY a0=ς r) 304 [aL (a0.map bC)] [.c (.own 100 2 (r.map bC) r.length)]:=⟨λH=>by
 refine fI func304 ntmps304 ?_
 refine aa H λv5 Hj H=>jB ⟨[(3,.v (.c (.w 0 v5.length)))],[(0,Ps v5)],1⟩ ?_ ?_
 .refine iT Hj (λq=>⟨[(0,.v (.c (.d η (.l (a0.map bC))))),(3,.v (.c (.w 0 q.2.length))),(4,tI q.1)],[(0,Ps q.2)],1⟩) ?_
  rintro⟨v1,v2⟩ o H
  refine ad ?_
  refine cC H ?_ ?_<;>intro H
  .refine zI (List.range 17) ?_
   refine aa H λx6 hx6 H=>zA (xdT (enc:=bC) hx6) ?_
   refine aa H λx7 hx7 H=>zA (xdT (enc:=bC) hx7) ?_
   obtain⟨h,H⟩:=rq H
   refine wA (JB (enc:=eU8) (ys:=([]:List Int)) (zs:=x7.bh) [1] h) ?_
   obtain⟨h,H⟩:=rq H
   refine wA (apx (enc:=bC) (ys:=v2) (zs:=[(⟨x6.cH,(([]:List Int)++x7.bh)⟩:ah)]) [0,3] h) ?_
   refine tD (ds:=[1,0]) (by kernel_rfl) (by kernel_rfl) rfl ?_
   refine wI ?_
   cases H
   refine Ey ?_
   refine bz (wS 0 4) ?_
   exact wo
  exact aE H
 cases H
 exact jL⟩
def Iy(a0:List Int):Option bI:=
 cond (da 1 (([]:List Int)++a0).length) (ς (⟨(([]:List Int)++a0)⟩:bI)) ξ
instance sl25Body_c{a0:List Int}{r:bI}:FC prog (Iy a0=ς r) 231 [aL (a0.map eU8)] [.agg [.own 5 1 (r.bh.map eU8) r.bh.length]]:=gG func231 ntmps231
def oF(a0:aA)(a1:aG):Option bi:=
 ς (⟨{a0 with dy:=3},[a1]⟩:bi)
instance sl29Send_c{a0:aA}{a1:aG}{r:bi}:FCV prog (oF a0 a1=ς r) 233 [] [.v (.agg (kM [.f,.f] (mB a0))),.v (.agg (kM [] (ij a1)))] [] (.v (.agg (kM [.f,.f,.w 210] (dr r)))) [(210,w42 r.bY)]:=gV func233 ntmps233
def vl(a0:aA):Option aG:=
 ς {fH with bb:=1,aS:=a0.aS}
instance adT{a0:aA}{r:aG}:FC prog (vl a0=ς r) 234 [.agg (dR a0)] [.agg (qM [] (ij r))]:=gG func234 ntmps234
def DY(a0:aF):Option aF:=
 cond (da 1 (([]:List Int)++a0.bO.bh).length) (ς {a0 with bO:={a0.bO with bh:=(([]:List Int)++a0.bO.bh)}}) ξ
instance sl27Copy_c{a0:aF}{r:aF}:FC prog (DY a0=ς r) 239 [.agg (df a0)] [.agg (qM [.o] (kf r))]:=gG func239 ntmps239
def oE(a0:av):Option av:=
 cond (da 16 (([]:List aU)++a0.aD).length) (ς {a0 with aD:=(([]:List aU)++a0.aD)}) ξ
instance sl16Copy_c{a0:av}{r:av}:FC prog (oE a0=ς r) 143 [.agg (dw a0)] [.agg (qM [.o] (dB r))]:=gG func143 ntmps143
def DN(a0:Int)(a1:Int):Option Int:=
 cond (ltB a1 a0) (ς a1) (ς a0)
instance aao{a0:Int} :FC prog (DN a0 a1=ς r) 104 [aI a0,aI a1] [.c (.d (.i .i64 r))]:=gG func104 ntmps104
def Ic(a0:Int)(a1:Int):Option Int:=
 cond (ltB a0 a1) (ς a1) (ς a0)
instance sMax_c{a0:Int} :FC prog (Ic a0 a1=ς r) 146 [aI a0,aI a1] [.c (.d (.i .i64 r))]:=gG func146 ntmps146
def sW(a0:List Int)(a1:List Int):Option Bool:=
 ς (strB (zH a0) (zH a1))
instance abJ{a0:List Int}{a1:List Int}{r:Bool}:FC prog (sW a0 a1=ς r) 255 [aL (a0.map eU8),aL (a1.map eU8)] [.c (.d (.b r))]:=gG func255 ntmps255
def y8(a0:List ah):(Int×Int)->Option (cj (Int×Int) (Int))
 |(v1,v2)=>cond (ltB v2 (a0.length:Int)) (afW (ix a0 v2) λx5=>ς (.next (WR (v1+(x5.bh.length:Int)),WR (v2+1)))) (ς (.done v1))
def rQ(a0:List ah):Option Int:=
 afW (iter (y8 a0) FU (0,0)) λ(v4:Int)=>ς v4
instance aeU{a0:List ah} :FC prog (rQ a0=ς r) 280 [aL (a0.map bC)] [.c (.d (.i .i64 r))]:=gG func280 ntmps280 (hm 0 3 4) (he 0 3 4)
def qH(a0:av):(Int×Int)->Option (cj (Int×Int) (Int))
 |(v1,v2)=>cond (ltB v2 (a0.aD.length:Int)) (afW (ix a0.aD v2) λx5=>ς (.next (WR (v1+x5.eo),WR (v2+1)))) (ς (.done v1))
def qG(a0:av):Option Int:=
 afW (iter (qH a0) FU (0,0)) λ(v4:Int)=>ς v4
instance V8{a0:av} :FC prog (qG a0=ς r) 198 [.agg (dw a0)] [.c (.d (.i .i64 r))]:=gG func198 ntmps198 (hm 0 3 4) (he 0 3 4)
def wF(a0:av)(a1:Int):Int->Option (cj (Int) (Int))
 |v1=>cond (ltB v1 (a0.aD.length:Int)) (afW (ix a0.aD v1) λx2=>cond (eqB x2.aO a1) (dn (ς v1)) (ς (.next (WR (v1+1))))) (dn (ς (-1)))
def s9(a0:av)(a1:Int):Option Int:=
 iter (wF a0 a1) FU 0
instance sl16Find_c{a0:av} :FC prog (s9 a0 a1=ς r) 281 [.agg (dw a0),aI a1] [.c (.d (.i .i64 r))]:=gG func281 ntmps281 (hl 0 5)
def lH(a0:List Int):(Int×List Int)->Option (cj (Int×List Int) (List Int))
 |(v1,v2)=>cond (ltB v1 (a0.length:Int)) (afW (ix a0 v1) λx5=>cond (da 8 (v2++[WR (x5)]).length) (ς (.next (WR (v1+1),(v2++[WR (x5)])))) ξ) (ς (.done v2))
def tX(a0:List Int):Option (List Int):=
 afW (iter (lH a0) FU (0,[(a0.length:Int)])) λ(v4:List Int)=>ς v4
instance H8{a0:List Int}{r:List Int}:FC prog (tX a0=ς r) 256 [aL (a0.map eU8)] [.c (.own 3 1 (r.map eI) r.length)]:=gG func256 ntmps256 (hL 0 (λ(v:Int×List Int) sl ob nx=>⟨(3,.v (.c (.w 0 v.2.length)))::(4,tI v.1)::xS [0] sl,[(0,w3 v.2)]++ob,nx⟩)) (hB 0 (λ(v:List Int) sl ob nx=>⟨(3,.v (.c (.w 0 v.length)))::(4,.any)::xS [0] sl,[(0,w3 v)]++ob,nx⟩))
def xl(a0:Int):Option eG:=
 ς (⟨[1,3,a0]⟩:eG)
instance W0{a0:Int}{r:eG}:FC prog (xl a0=ς r) 156 [aI a0] [.agg [.own 3 1 (r.Steps.map eI) r.Steps.length]]:=gG func156 ntmps156
def qF:Option eG:=
 ς (⟨[1,2]⟩:eG)
instance PK{r:eG}:FC prog (qF=ς r) 258 [] [.agg [.own 3 1 (r.Steps.map eI) r.Steps.length]]:=gG func258 ntmps258
end Go.AM
