/- A part. -/
import Derived.Test.YtcfhabdgiieejaaGreatG
set_option linter.unusedVariables false
open Option renaming bind->abJ
namespace Go.AM
open Go.Proofs
open Tryz
attribute [local irreducible] AWN NS AWO AWR AWC DR DZ dQ f9 iter
set_option maxRecDepth 100000
set_option maxHeartbeats 40000000
variable {a1 r:Int}
def du (a0:Int) (a1:Int) (a2:Int):Option Bool:=
 abJ (bif leB a1 a0 then(some (leB a0 a2)) else(some false)) λ(v1:Bool)=>some v1
instance rZ {a0:Int} {a2:Int} {r:Bool}:FC prog (du a0 a1 a2=some r) 53 [aI a0,aI a1,aI a2] [.c (.d (.b r))]:=gF func53 ntmps53 (hb 10 6)
def FD (a0:Int) (a1:Int):Option Int:=
 bif ltB a1 a0 then(some a1) else(some a0)
instance JO {a0:Int} :FC prog (FD a0 a1=some r) 110 [aI a0,aI a1] [.c (.d (.i .i64 r))]:=gF func110 ntmps110
def vG (a0:List Int):(Int×Int)->Option (cr (Int×Int) (Int))
 |(v1,v2)=>abJ (bif ltB v2 (a0.length:Int) then(some (ltB v2 4000)) else(some false)) λ(v6:Bool)=>bif v6 then(abJ (ix a0 v2) λx7=>some (.next (z6 .i64 (WR ((WR ((WR (v1*137))+(WR (x7))))+11)) 1073741823,WR (v2+1)))) else(some (.done v1))
def JX (a0:List Int):Option bk:=
 abJ (iter (vG a0) FU (WR (193017+(a0.length:Int)),0)) λ(v5:Int)=>some (⟨a0,0,v5⟩:bk)
theorem VW {a0:List Int} {r:bk} (H:JX a0=some r):FnN prog 29 [aL (a0.map eU8)] 125 (Xj r):=by
 refine ZQ func29 (hN:=ntmps29) (h:=?_)
 refine wI ?_
 refine aa H λv5 Hj H=>jB ⟨[(0,.v (.c (.d false (.l (a0.map eU8))))),(3,tI v5)],[],0⟩ ?_ ?_
 .refine iT Hj (λq=>⟨[(0,.v (.c (.d false (.l (a0.map eU8))))),(3,tI q.1),(4,tI q.2)],[],0⟩) ?_
  rintro⟨v1,v2⟩ o H
  refine ad ?_
  refine aa H λv6 Hj H=>jR ⟨[(0,.v (.c (.d false (.l (a0.map eU8))))),(3,tI v1),(4,tI v2),(15,tB v6)],[],0⟩ ?_ ?_
  .exact az Hj
  refine cC H ?_ ?_<;>intro H
  .refine aa H λx7 hx7 H=>nA (xdT (enc:=eU8) hx7) ?_
   exact aN H
  exact aE H
 cases H
 exact TX
def BG (a0:List Int) (a1:Int):Option Int:=
 bif ltB a1 (WR (3+(WR (Int.tdiv (a0.length:Int) 12)))) then(some a1) else(some (WR (3+(WR (Int.tdiv (a0.length:Int) 12)))))
instance RT {a0:List Int} :FC prog (BG a0 a1=some r) 31 [aL (a0.map eU8),aI a1] [.c (.d (.i .i64 r))]:=gF func31 ntmps31
def uq (a0:bk):Option (Int×bk):=
 abJ (bif ltB a0.fi (a0.fb.length:Int) then(abJ (ix a0.fb a0.fi) λx3=>some (z6 .i64 (WR ((z6 .i64 (Iy .i64 (Eb .i64 (WR ((WR (a0.fh*6364136223846793005))+1442695040888963407)) 33) (Eb .i64 (WR ((WR (a0.fh*6364136223846793005))+1442695040888963407)) 47)) 255)+(WR (x3)))) 255,WR (a0.fi+1))) else(some (z6 .i64 (Iy .i64 (Eb .i64 (WR ((WR (a0.fh*6364136223846793005))+1442695040888963407)) 33) (Eb .i64 (WR ((WR (a0.fh*6364136223846793005))+1442695040888963407)) 47)) 255,a0.fi))) λ((v1,v2):Int×Int)=>some (v1,(⟨a0.fb,v2,WR ((WR (a0.fh*6364136223846793005))+1442695040888963407)⟩:bk))
theorem vF {a0:bk} {r:Int×bk} (H:uq a0=some r):FnW prog 154 (.var 125 (kM [.f] (cj a0))) [tP 200] (.var 125 (kM [.f] (cj r.2))) [.c (.d (.i .i64 r.1))]:=by
 refine fW func154 ntmps154 ?_
 refine dI ?_
 refine dA (ishL (b:=33) rfl rfl rfl rfl) ?_
 refine dA (ishL (b:=47) rfl rfl rfl rfl) ?_
 refine wI ?_
 refine dI ?_
 refine wI ?_
 obtain⟨⟨v1,v2⟩,Hj,H⟩:=ob H
 refine jA ⟨[(3,tI v1)],[(200,.var 125 (kM [.f] (cj (⟨a0.fb,v2,WR ((WR (a0.fh*6364136223846793005))+1442695040888963407)⟩:bk))))],210⟩ ?_ ?_
 .refine cC Hj ?_ ?_<;>intro H
  .refine dI ?_
   refine aa H λx3 hx3 H=>dA (xdT (enc:=eU8) hx3) ?_
   refine wI ?_
   exact ai H
  exact ai H
 cases H
 exact f8
def Ay (a0:List Int) (a1:Int):Int->Option (cr (Int) (Bool))
 |v1=>bif ltB v1 (a0.length:Int) then(abJ (ix a0 v1) λx2=>bif eqB x2 a1 then(dn (some true)) else(some (.next (WR (v1+1))))) else(dn (some false))
def BE (a0:List Int) (a1:Int):Option Bool:=
 iter (Ay a0 a1) FU 0
instance RR {a0:List Int} {r:Bool}:FC prog (BE a0 a1=some r) 117 [aL (a0.map eI),aI a1] [.c (.d (.b r))]:=gF func117 ntmps117 (hl 0 5)
def jP (a0:aS):(Int×List fc)->Option (cr (Int×List fc) (List fc))
 |(v1,v2)=>bif ltB v1 (a0.bb.length:Int) then(abJ (ix a0.bb v1) λx6=>abJ (ix a0.bb v1) λx7=>bif da 8 (([]:List Int)++x7.cQ).length then(bif da 32 (v2++[(⟨x6.fZ,(([]:List Int)++x7.cQ)⟩:fc)]).length then(some (.next (WR (v1+1),(v2++[(⟨x6.fZ,(([]:List Int)++x7.cQ)⟩:fc)])))) else none) else none) else(some (.done v2))
def qH (a0:aS):Option aS:=
 abJ (iter (jP a0) FU (0,([]:List fc))) λ(v5:List fc)=>some (⟨v5⟩:aS)
instance NV {a0:aS} {r:aS}:FCV prog (qH a0=some r) 149 [] [.v (.agg [.d false (.l (a0.bb.map eO))])] [] (.v (.agg [.wn 210 r.bb.length])) [(210,Q4 r.bb)]:=⟨λH=>by
 refine fV func149 ntmps149 ?_
 refine aa H λv5 Hj H=>jB ⟨[(2,tP 211),(3,tP 212)],[(211,.var 26 [.nil]),(212,.var 26 [.wn 213 v5.length]),(213,Q4 v5)],214⟩ ?_ ?_
 .refine iT Hj (λq=>⟨[(1,tP 210),(2,tP 211),(3,tP 212),(4,tI q.1)],[(210,.var 26 [.d false (.l (a0.bb.map eO))]),(211,.var 26 [.nil]),(212,.var 26 [.wn 213 q.2.length]),(213,Q4 q.2)],214⟩) ?_ (by refine am (dE (o:=212) (j:=0) 155 2 true) ?_;refine am (wB 213 (([]:List fc).length)) ?_;exact wo)
  rintro⟨v1,v2⟩ o H
  refine ad ?_
  refine cC H ?_ ?_<;>intro H
  .refine zI (List.range 21) ?_
   refine aa H λx6 hx6 H=>zA (xdT (enc:=eO) hx6) ?_
   refine aa H λx7 hx7 H=>zA (xdT (enc:=eO) hx7) ?_
   obtain⟨h,H⟩:=rq H
   refine wA (Hh (enc:=eI) (ys:=([]:List Int)) (zs:=x7.cQ) [214] h) ?_
   obtain⟨h,H⟩:=rq H
   refine vZ (ds:=[214]) (by kernel_rfl) (by kernel_rfl) rfl (by kernel_rfl) bC (fg rfl (AJ (enc:=eO) (ys:=v2) (zs:=[(⟨x6.fZ,(([]:List Int)++x7.cQ)⟩:fc)]) h (by first|exact List.cons_ne_nil _ _|simp) rfl (λ_=>rfl) (by first|rfl|simp) (.w rfl (by first|rfl|exact lm _|simp)) rfl rfl rfl rfl rfl rfl rfl rfl rfl rfl)) bC rfl ?_
   refine wI ?_
   refine wA (spx 100185) ?_
   cases H
   refine sV ?_
   refine am (d8 213) ?_
   exact wo
  exact aE H
 cases H
 refine bA (wS 213 210) ?_
 exact bj⟩
theorem NW {a0:aS} {r:aS} (H:qH a0=some r):Fn prog 149 [.agg (ge a0)] [.agg [.d (.l (r.bb.map eO))]]:=by
 refine fI func149 ntmps149 ?_
 refine aa H λv5 Hj H=>jB ⟨[(2,tP 1),(3,tP 2)],[(1,.var 26 [.nil]),(2,.var 26 [.wn 3 v5.length]),(3,Q4 v5)],4⟩ ?_ ?_
 .refine iT Hj (λq=>⟨[(1,tP 0),(2,tP 1),(3,tP 2),(4,tI q.1)],[(0,.var 26 [.d false (.l (a0.bb.map eO))]),(1,.var 26 [.nil]),(2,.var 26 [.wn 3 q.2.length]),(3,Q4 q.2)],4⟩) ?_ (by refine am (dE (o:=2) (j:=0) 155 2 true) ?_;refine am (wB 3 (([]:List fc).length)) ?_;exact wo)
  rintro⟨v1,v2⟩ o H
  refine ad ?_
  refine cC H ?_ ?_<;>intro H
  .refine zI (List.range 21) ?_
   refine aa H λx6 hx6 H=>zA (xdT (enc:=eO) hx6) ?_
   refine aa H λx7 hx7 H=>zA (xdT (enc:=eO) hx7) ?_
   obtain⟨h,H⟩:=rq H
   refine wA (Hh (enc:=eI) (ys:=([]:List Int)) (zs:=x7.cQ) [4] h) ?_
   obtain⟨h,H⟩:=rq H
   refine vZ (ds:=[4]) (by kernel_rfl) (by kernel_rfl) rfl (by kernel_rfl) bC (fg rfl (AJ (enc:=eO) (ys:=v2) (zs:=[(⟨x6.fZ,(([]:List Int)++x7.cQ)⟩:fc)]) h (by first|exact List.cons_ne_nil _ _|simp) rfl (λ_=>rfl) (by first|rfl|simp) (.w rfl (by first|rfl|exact lm _|simp)) rfl rfl rfl rfl rfl rfl rfl rfl rfl rfl)) bC rfl ?_
   refine wI ?_
   refine wA (spx 100195) ?_
   cases H
   refine sV ?_
   refine am (d8 3) ?_
   exact wo
  exact aE H
 cases H
 refine vb (fx 3) ?_
 exact dM
def Au (a0:lp) (a1:Int):Option aG:=
 some {yJ with dr:=a0,bh:=a1,bW:={c8 with bE:=1}}
instance JP {a0:lp} {r:aG}:FC prog (Au a0 a1=some r) 239 [.agg (Et a0),aI a1] [.agg (qM [.z,.z] (gD r))]:=gF func239 ntmps239
def vK (a0:bR):Option bR:=
 bif da 8 (([]:List Int)++a0.bU).length then(some {a0 with bU:=(([]:List Int)++a0.bU)}) else none
instance sl30Plan_c {a0:bR} {r:bR}:FC prog (vK a0=some r) 249 [.agg (lr a0)] [.agg (qM [.o] (eH r))]:=gF func249 ntmps249
def vE (v:List (Int×List Int)) (a b:Int):Option (List (Int×List Int)):=
 abJ (ix v a) λx=>bif da 8 (x.2++[b]).length then(abJ (ix (v.set a.toNat (x.1,x.2++[b])) b) λy=>bif da 8 (y.2++[a]).length then some ((v.set a.toNat (x.1,x.2++[b])).set b.toNat (y.1,y.2++[a])) else none) else none
theorem Ma {v r:List (Int×List Int)} {a b fi fh:Int} {n:Nat} {fb:Lad} (H:vE v a b=some r) (hn:v.length=n):
 ∃c,Tryz.f242.body=some c/\AWC prog 34 c ⟨[(0,.v (.agg [.wn 222 n])),(1,tI a),(2,tI b)],[(200,.var 125 [.d false (.l fb),.d false (.i .i64 fi),.d false (.i .i64 fh)]),(202,.var 26 [.nil]),(203,.var 26 [.wn 222 n]),(222,.cxo 222 155 3 v none)],223⟩
  (xt 34 prog [] [(200,.var 125 [.d false (.l fb),.d false (.i .i64 fi),.d false (.i .i64 fh)]),(202,.var 26 [.nil]),(203,.var 26 [.wn 222 n]),(222,.cxo 222 155 3 r none)] (.tup []) []):=by
 refine⟨_,rfl,?_⟩
 refine wkz ?_
 obtain⟨⟨x1,x2⟩,hx,H⟩:=ob H
 obtain⟨h,H⟩:=rq H
 have hxx:=(ixE hx).2
 refine va ⟨[(1,tI a),(2,tI b),(3,.v (.c (.p 223 0)))],[(200,.var 125 [.d false (.l fb),.d false (.i .i64 fi),.d false (.i .i64 fh)]),(202,.var 26 [.nil]),(203,.var 26 [.wn 222 n]),(223,.var 26 [.wn 222 n]),(222,.cxo 222 155 3 (v.set a.toNat (x1,x2++[b])) none)],224⟩ ?_ ?_
 .refine Kw (o:=222) (i:=a.toNat) (e:=(x1,x2)) rfl hxx rfl rfl rfl rfl rfl rfl (λhnil=>?_) (λk cc=>?_)
  .simp only at hnil
   subst hnil
   refine qR [0,1,2,3,4,5,6,7,8,9,10,11,12,13,14] Try.follows (by kernel_rfl) (by kernel_rfl) rfl ?_
   refine wkz ?_
   refine jD rfl (qL hx rfl rfl hn rfl) ?_
   refine wkz ?_
   refine jD rfl (olh hxx rfl rfl rfl) ?_
   refine wkz ?_
   refine jD rfl (apNk (zs:=[b]) [224] h (by simp) rfl rfl (.w rfl rfl) rfl rfl rfl rfl) ?_
   refine wkz ?_
   refine jD rfl (qL hx rfl rfl hn rfl) ?_
   refine wkz ?_
   refine B8 (by kernel_rfl) rfl (by kernel_rfl) bC (fg rfl (Lz (o:=222) (s:=225) (ys:=[b]) rfl rfl rfl rfl rfl hxx (.inr ⟨_,_,_,rfl⟩) rfl rfl rfl rfl rfl rfl rfl)) bC rfl ?_
   refine wkz ?_
   exact eQ ⟨rfl,rfl,rfl,rfl,rfl,rfl,trivial⟩ ⟨rfl,⟨rfl,rfl⟩,rfl,⟨rfl,rfl⟩,rfl,⟨rfl,rfl⟩,rfl,⟨rfl,rfl⟩,rfl,⟨rfl,rfl⟩,trivial⟩
  refine qR [0,1,2,3,4,5,6,7,8,9,10,11,12,13,14] Try.follows (by kernel_rfl) (by kernel_rfl) rfl ?_
  refine wkz ?_
  refine jD rfl (qL hx rfl rfl hn rfl) ?_
  refine wkz ?_
  refine jD rfl (olh hxx rfl rfl rfl) ?_
  refine wkz ?_
  refine B9 rfl (apk (q:=224) (xs:=x2) (zs:=[b]) [224,225] h rfl rfl rfl (.w rfl rfl) rfl rfl rfl rfl rfl rfl) ?_
  refine wkz ?_
  refine jD rfl (qL hx rfl rfl hn rfl) ?_
  refine wkz ?_
  refine vZ (ds:=[224]) (by kernel_rfl) (by kernel_rfl) rfl (by kernel_rfl) bC (fg rfl (Lz (o:=222) (s:=226) (ys:=x2++[b]) rfl rfl rfl rfl rfl hxx (.inr ⟨_,_,_,rfl⟩) rfl rfl rfl rfl rfl rfl rfl)) bC rfl ?_
  refine wkz ?_
  exact eQ ⟨rfl,rfl,rfl,rfl,rfl,rfl,trivial⟩ ⟨rfl,⟨rfl,rfl⟩,rfl,⟨rfl,rfl⟩,rfl,⟨rfl,rfl⟩,rfl,⟨rfl,rfl⟩,rfl,⟨rfl,rfl⟩,trivial⟩
 refine wkz ?_
 obtain⟨⟨y1,y2⟩,hy,H⟩:=ob H
 obtain⟨h',H⟩:=rq H
 have hyy:=(ixE hy).2
 have hn':(v.set a.toNat (x1,x2++[b])).length=n:=by simpa using hn
 refine va ⟨[],[(200,.var 125 [.d false (.l fb),.d false (.i .i64 fi),.d false (.i .i64 fh)]),(202,.var 26 [.nil]),(203,.var 26 [.wn 222 n]),(222,.cxo 222 155 3 ((v.set a.toNat (x1,x2++[b])).set b.toNat (y1,y2++[a])) none)],223⟩ ?_ ?_
 .refine Kw (o:=222) (i:=b.toNat) (e:=(y1,y2)) rfl hyy rfl rfl rfl rfl rfl rfl (λhnil=>?_) (λk cc=>?_)
  .simp only at hnil
   subst hnil
   refine qR [0,1,2,3,4,5,6,7,8,9,10,11,12,13,14] Try.follows (by kernel_rfl) (by kernel_rfl) rfl ?_
   refine wkz ?_
   refine jD rfl (qL hy rfl rfl hn' rfl) ?_
   refine wkz ?_
   refine jD rfl (olh hyy rfl rfl rfl) ?_
   refine wkz ?_
   refine jD rfl (apNk (zs:=[a]) [224] h' (by simp) rfl rfl (.w rfl rfl) rfl rfl rfl rfl) ?_
   refine wkz ?_
   refine jD rfl (qL hy rfl rfl hn' rfl) ?_
   refine wkz ?_
   refine B8 (by kernel_rfl) rfl (by kernel_rfl) bC (fg rfl (Lz (o:=222) (s:=225) (ys:=[a]) rfl rfl rfl rfl rfl hyy (.inr ⟨_,_,_,rfl⟩) rfl rfl rfl rfl rfl rfl rfl)) bC rfl ?_
   refine wkz ?_
   exact eQ trivial ⟨rfl,⟨rfl,rfl⟩,rfl,⟨rfl,rfl⟩,rfl,⟨rfl,rfl⟩,rfl,⟨rfl,rfl⟩,trivial⟩
  refine qR [0,1,2,3,4,5,6,7,8,9,10,11,12,13,14] Try.follows (by kernel_rfl) (by kernel_rfl) rfl ?_
  refine wkz ?_
  refine jD rfl (qL hy rfl rfl hn' rfl) ?_
  refine wkz ?_
  refine jD rfl (olh hyy rfl rfl rfl) ?_
  refine wkz ?_
  refine B9 rfl (apk (q:=224) (xs:=y2) (zs:=[a]) [224,225] h' rfl rfl rfl (.w rfl rfl) rfl rfl rfl rfl rfl rfl) ?_
  refine wkz ?_
  refine jD rfl (qL hy rfl rfl hn' rfl) ?_
  refine wkz ?_
  refine vZ (ds:=[224]) (by kernel_rfl) (by kernel_rfl) rfl (by kernel_rfl) bC (fg rfl (Lz (o:=222) (s:=226) (ys:=y2++[a]) rfl rfl rfl rfl rfl hyy (.inr ⟨_,_,_,rfl⟩) rfl rfl rfl rfl rfl rfl rfl)) bC rfl ?_
  refine wkz ?_
  exact eQ trivial ⟨rfl,⟨rfl,rfl⟩,rfl,⟨rfl,rfl⟩,rfl,⟨rfl,rfl⟩,rfl,⟨rfl,rfl⟩,trivial⟩
 cases H
 refine wkz ?_
 exact nT .nil rfl rfl ⟨rfl,rfl,rfl,rfl,trivial⟩ trivial
theorem rY {v r:List (Int×List Int)} {a b:Int} (H:vE v a b=some r):r.length=v.length:=by
 unfold vE at H
 obtain⟨x,hx,H⟩:=ob H
 obtain⟨h,H⟩:=rq H
 obtain⟨y,hy,H⟩:=ob H
 obtain⟨h',H⟩:=rq H
 cases H
 simp
def qa (a0:List bJ):(Int×List bJ)->Option (cr (Int×List bJ) (List bJ))
 |(v1,v2)=>bif ltB v1 (a0.length:Int) then(abJ (ix a0 v1) λx5=>bif da 1 (([]:List Int)++x5.a9).length then(bif da 24 (v2++[(⟨(([]:List Int)++x5.a9)⟩:bJ)]).length then(some (.next (WR (v1+1),(v2++[(⟨(([]:List Int)++x5.a9)⟩:bJ)])))) else none) else none) else(some (.done v2))
def th (a0:List bJ):Option (List bJ):=
 abJ (iter (qa a0) FU (0,([]:List bJ))) λ(v4:List bJ)=>some v4
instance Yt {a0:List bJ} {r:List bJ}:FC prog (th a0=some r) 250 [aL (a0.map dN)] [.c (.own 152 1 (r.map dN) r.length)]:=⟨λH=>by
 refine fI func250 ntmps250 ?_
 refine aa H λv4 Hj H=>jB ⟨[(3,.v (.c (.w 0 v4.length)))],[(0,Sd v4)],1⟩ ?_ ?_
 .refine iT Hj (λq=>⟨[(0,.v (.c (.d false (.l (a0.map dN))))),(3,.v (.c (.w 0 q.2.length))),(4,tI q.1)],[(0,Sd q.2)],1⟩) ?_
  rintro⟨v1,v2⟩ o H
  refine ad ?_
  refine cC H ?_ ?_<;>intro H
  .refine aa H λx5 hx5 H=>nA (xdT (enc:=dN) hx5) ?_
   obtain⟨h,H⟩:=rq H
   refine jx rfl (apT (enc:=eU8) (ys:=([]:List Int)) (zs:=x5.a9) h) ?_
   refine aW (sB (enc:=eU8) (o:=1)) ?_
   refine bL (bv (o:=1)) ?_
   refine aW (bH (k:=20)) ?_
   obtain⟨h,H⟩:=rq H
   refine sA (apT (enc:=dN) (ys:=v2) (zs:=[(⟨(([]:List Int)++x5.a9)⟩:bJ)]) h) ?_
   exact aN H
  exact aE H
 cases H
 exact dM⟩
def sa (a0:List ae):(Int×List ae)->Option (cr (Int×List ae) (List ae))
 |(v1,v2)=>bif ltB v1 (a0.length:Int) then(abJ (ix a0 v1) λx6=>abJ (ix a0 v1) λx7=>bif da 1 (([]:List Int)++x7.a9).length then(bif da 32 (v2++[(⟨x6.cW,(([]:List Int)++x7.a9)⟩:ae)]).length then(some (.next (WR (v1+1),(v2++[(⟨x6.cW,(([]:List Int)++x7.a9)⟩:ae)])))) else none) else none) else(some (.done v2))
def vH (a0:List ae):Option (List ae):=
 abJ (iter (sa a0) FU (0,([]:List ae))) λ(v5:List ae)=>some v5
instance Zh {a0:List ae} {r:List ae}:FC prog (vH a0=some r) 319 [aL (a0.map aM)] [.c (.own 100 2 (r.map aM) r.length)]:=⟨λH=>by
 refine fI func319 ntmps319 ?_
 refine aa H λv5 Hj H=>jB ⟨[(3,.v (.c (.w 0 v5.length)))],[(0,J9 v5)],1⟩ ?_ ?_
 .refine iT Hj (λq=>⟨[(0,.v (.c (.d false (.l (a0.map aM))))),(3,.v (.c (.w 0 q.2.length))),(4,tI q.1)],[(0,J9 q.2)],1⟩) ?_
  rintro⟨v1,v2⟩ o H
  refine ad ?_
  refine cC H ?_ ?_<;>intro H
  .refine zI (List.range 17) ?_
   refine aa H λx6 hx6 H=>zA (xdT (enc:=aM) hx6) ?_
   refine aa H λx7 hx7 H=>zA (xdT (enc:=aM) hx7) ?_
   obtain⟨h,H⟩:=rq H
   refine wA (Hh (enc:=eU8) (ys:=([]:List Int)) (zs:=x7.a9) [1] h) ?_
   obtain⟨h,H⟩:=rq H
   refine wA (apx (enc:=aM) (ys:=v2) (zs:=[(⟨x6.cW,(([]:List Int)++x7.a9)⟩:ae)]) [0,3] h) ?_
   refine mU (ds:=[1,0]) (by kernel_rfl) (by kernel_rfl) rfl ?_
   refine wI ?_
   cases H
   refine sV ?_
   refine am (wS 0 4) ?_
   exact wo
  exact aE H
 cases H
 exact dM⟩
def F4 (a0:List Int):Option bJ:=
 bif da 1 (([]:List Int)++a0).length then(some (⟨(([]:List Int)++a0)⟩:bJ)) else none
instance N4 {a0:List Int} {r:bJ}:FC prog (F4 a0=some r) 244 [aL (a0.map eU8)] [.agg [.own 5 1 (r.a9.map eU8) r.a9.length]]:=gF func244 ntmps244
def mS (a0:aG) (a1:aF):Option aX:=
 some (⟨{a0 with fo:=3},[a1]⟩:aX)
instance N6 {a0:aG} {a1:aF} {r:aX}:FCV prog (mS a0 a1=some r) 246 [] [.v (.agg (kM [.f,.f] (gD a0))),.v (.agg (kM [] (d6 a1)))] [] (.v (.agg (kM [.f,.f,.w 210] (dm r)))) [(210,w42 r.dy)]:=⟨λH=>by
 refine fV func246 ntmps246 ?_
 cases H
 refine bA (wS 213 210) ?_
 refine bA ((wB 210 [a1].length)) ?_
 exact bj⟩
def ti (a0:aG):Option aF:=
 some {d9 with a8:=1,bh:=a0.bh}
instance Yu {a0:aG} {r:aF}:FC prog (ti a0=some r) 247 [.agg (cF a0)] [.agg (qM [] (d6 r))]:=gF func247 ntmps247
def BI (a0:av):Option av:=
 bif da 1 (([]:List Int)++a0.bz.a9).length then(some {a0 with bz:={a0.bz with a9:=(([]:List Int)++a0.bz.a9)}}) else none
instance sl27Copy_c {a0:av} {r:av}:FC prog (BI a0=some r) 252 [.agg (cN a0)] [.agg (qM [.o] (jf r))]:=gF func252 ntmps252
def mR (a0:aj):Option aj:=
 bif da 16 (([]:List aD)++a0.an).length then(some {a0 with an:=(([]:List aD)++a0.an)}) else none
instance F1 {a0:aj} {r:aj}:FC prog (mR a0=some r) 152 [.agg (cM a0)] [.agg (qM [.o] (ct r))]:=gF func152 ntmps152
def FB (a0:Int) (a1:Int):Option Int:=
 bif ltB a0 a1 then(some a1) else(some a0)
instance VE {a0:Int} :FC prog (FB a0 a1=some r) 155 [aI a0,aI a1] [.c (.d (.i .i64 r))]:=gF func155 ntmps155
def qB (a0:List Int) (a1:List Int):Option Bool:=
 some (strB (xm a0) (xm a1))
instance WI {a0:List Int} {a1:List Int} {r:Bool}:FC prog (qB a0 a1=some r) 268 [aL (a0.map eU8),aL (a1.map eU8)] [.c (.d (.b r))]:=gF func268 ntmps268
def wN (a0:List ae):(Int×Int)->Option (cr (Int×Int) (Int))
 |(v1,v2)=>bif ltB v2 (a0.length:Int) then(abJ (ix a0 v2) λx5=>some (.next (WR (v1+(x5.a9.length:Int)),WR (v2+1)))) else(some (.done v1))
def pJ (a0:List ae):Option Int:=
 abJ (iter (wN a0) FU (0,0)) λ(v4:Int)=>some v4
instance Zj {a0:List ae} :FC prog (pJ a0=some r) 296 [aL (a0.map aM)] [.c (.d (.i .i64 r))]:=gF func296 ntmps296 (hm 0 3 4) (he 0 3 4)
def o3 (a0:aj):(Int×Int)->Option (cr (Int×Int) (Int))
 |(v1,v2)=>bif ltB v2 (a0.an.length:Int) then(abJ (ix a0.an v2) λx5=>some (.next (WR (v1+x5.dW),WR (v2+1)))) else(some (.done v1))
def oZ (a0:aj):Option Int:=
 abJ (iter (o3 a0) FU (0,0)) λ(v4:Int)=>some v4
instance RH {a0:aj} :FC prog (oZ a0=some r) 211 [.agg (cM a0)] [.c (.d (.i .i64 r))]:=gF func211 ntmps211 (hm 0 3 4) (he 0 3 4)
def uo (a0:aj) (a1:Int):Int->Option (cr (Int) (Int))
 |v1=>bif ltB v1 (a0.an.length:Int) then(abJ (ix a0.an v1) λx2=>bif eqB x2.aJ a1 then(dn (some v1)) else(some (.next (WR (v1+1))))) else(dn (some (-1)))
def qI (a0:aj) (a1:Int):Option Int:=
 iter (uo a0 a1) FU 0
instance N0 {a0:aj} :FC prog (qI a0 a1=some r) 297 [.agg (cM a0),aI a1] [.c (.d (.i .i64 r))]:=gF func297 ntmps297 (hl 0 5)
def ky (a0:List Int):(Int×List Int)->Option (cr (Int×List Int) (List Int))
 |(v1,v2)=>bif ltB v1 (a0.length:Int) then(abJ (ix a0 v1) λx5=>bif da 8 (v2++[WR (x5)]).length then(some (.next (WR (v1+1),(v2++[WR (x5)])))) else none) else(some (.done v2))
def rO (a0:List Int):Option (List Int):=
 abJ (iter (ky a0) FU (0,[(a0.length:Int)])) λ(v4:List Int)=>some v4
instance Fy {a0:List Int} {r:List Int}:FC prog (rO a0=some r) 269 [aL (a0.map eU8)] [.c (.own 3 1 (r.map eI) r.length)]:=gF func269 ntmps269 (hL 0 (λ(v:Int×List Int) sl ob nx=>⟨(3,.v (.c (.w 0 v.2.length)))::(4,tI v.1)::xS [0] sl,[(0,w3 v.2)]++ob,nx⟩)) (hB 0 (λ(v:List Int) sl ob nx=>⟨(3,.v (.c (.w 0 v.length)))::(4,.any)::xS [0] sl,[(0,w3 v)]++ob,nx⟩))
def uX (a0:Int):Option fA:=
 some (⟨[1,3,a0]⟩:fA)
instance Sz {a0:Int} {r:fA}:FC prog (uX a0=some r) 165 [aI a0] [.agg [.own 3 1 (r.Steps.map eI) r.Steps.length]]:=gF func165 ntmps165
def oY:Option fA:=
 some (⟨[1,2]⟩:fA)
instance MJ {r:fA}:FC prog (oY=some r) 271 [] [.agg [.own 3 1 (r.Steps.map eI) r.Steps.length]]:=gF func271 ntmps271
def DL (a0:List aD) (a1:Int) (a2:Int):Option (List aD):=
 bif da 16 (([]:List aD)++a0).length then(abJ (ix a0 a1) λx1=>bif ltB a2 x1.dW then(abJ (ix a0 a1) λx2=>abJ (ix (([]:List aD)++a0) a1) λx3=>some ((([]:List aD)++a0).set (a1).toNat (⟨x3.aJ,WR (x2.dW-a2)⟩:aD))) else(bif eF (([]:List aD)++a0) 0 a1 then(bif eF a0 (WR (a1+1)) a0.length then(bif da 16 ((([]:List aD)++a0).take (a1).toNat++(a0.drop (WR (a1+1)).toNat)).length then(some ((([]:List aD)++a0).take (a1).toNat++(a0.drop (WR (a1+1)).toNat))) else none) else none) else none)) else none
instance RS {a0:List aD} {a2:Int} {r:List aD}:FC prog (DL a0 a1 a2=some r) 382 [aL (a0.map bZ),aI a1,aI a2] [.c (.own 166 2 (r.map bZ) r.length)]:=⟨λH=>by
 refine fI func382 ntmps382 ?_
 obtain⟨h,H⟩:=rq H
 refine jx rfl (apT (enc:=bZ) (ys:=([]:List aD)) (zs:=a0) h) ?_
 refine aW (sB (enc:=bZ) (o:=0)) ?_
 refine aa H λx1 hx1 H=>nA (xdT (enc:=bZ) hx1) ?_
 refine cC H ?_ ?_<;>intro H
 .refine aa H λx2 hx2 H=>nA (xdT (enc:=bZ) hx2) ?_
  refine aa H λx3 hx3 H=>nA (xwT hx3) ?_
  refine sA (soT (enc:=bZ) (a':=(⟨x3.aJ,WR (x2.dW-a2)⟩:aD)) hx3) ?_
  exact ao H
 refine zI (List.range 9) ?_
 obtain⟨hs16,H⟩:=rq H
 refine zA (cwfT (enc:=bZ) hs16 (by first|rfl|simp) rfl rfl rfl rfl) ?_
 obtain⟨h,H⟩:=rq H
 refine zA (Tl (enc:=bZ) h (λ_=>rfl) rfl rfl rfl) ?_
 obtain⟨h,H⟩:=rq H
 refine wA (apxPF (enc:=bZ) (h:=a1) (ys:=(([]:List aD)++a0)) (zs:=a0.drop (WR (a1+1)).toNat) [0] hs16 h rfl (λ_=>rfl) (λ_=>rfl) rfl .d rfl rfl rfl rfl rfl rfl) ?_
 refine mU (ds:=[0]) (by kernel_rfl) (by kernel_rfl) rfl ?_
 refine wI ?_
 cases H
 exact dM⟩
def kz (a0:aS) (a1:Int):(Int×List Int)->Option (cr (Int×List Int) (List Int))
 |(v1,v2)=>bif ltB v1 (a0.bb.length:Int) then(abJ (ix a0.bb v1) λx6=>abJ (bif eqB x6.fZ a1 then(bif da 8 (v2++[v1]).length then(some (v2++[v1])) else none) else(some v2)) λ(v7:List Int)=>some (.next (WR (v1+1),v7))) else(some (.done v2))
def rP (a0:aS) (a1:Int):Option (List Int):=
 abJ (iter (kz a0 a1) FU (0,([]:List Int))) λ(v5:List Int)=>some v5
instance Vz {a0:aS} {r:List Int}:FC prog (rP a0 a1=some r) 397 [.agg (ge a0),aI a1] [.c (.own 3 1 (r.map eI) r.length)]:=gF func397 ntmps397 (hL 0 (λ(v:Int×List Int) sl ob nx=>⟨(5,.v (.c (.w 1 v.2.length)))::(6,tI v.1)::xS [1] sl,[(1,w3 v.2)]++ob,nx⟩)) (hB 0 (λ(v:List Int) sl ob nx=>⟨(5,.v (.c (.w 1 v.length)))::(6,.any)::xS [1] sl,[(1,w3 v)]++ob,nx⟩)) (hC 22 (λ(v:List Int) sl ob nx=>⟨(5,.v (.c (.w 1 v.length)))::xS [1] sl,[(1,w3 v)]++ob,nx⟩))
end Go.AM
