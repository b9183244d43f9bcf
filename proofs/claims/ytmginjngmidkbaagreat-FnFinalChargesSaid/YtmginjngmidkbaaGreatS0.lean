/- A part. -/
import Derived.Test.YtmginjngmidkbaaGreatG
set_option linter.unusedVariables false
open Option renaming bind->abU
namespace Go.AM
open Go.Proofs
open Tryz
attribute [local irreducible] AWN NS AWO AWR AWC DR DZ dS gp iter
set_option maxRecDepth 100000
set_option maxHeartbeats 40000000
variable {r a1:Int}
def vI (a0:List Int):(Int×Int)->Option (ct (Int×Int) (Int))
 |(v1,v2)=>abU (bif ltB v2 (a0.length:Int) then(some (ltB v2 4000)) else(some false)) λ(v6:Bool)=>bif v6 then(abU (ix a0 v2) λx7=>some (.next (zY .i64 (WR ((WR ((WR (v1*137))+(WR (x7))))+11)) 1073741823,WR (v2+1)))) else(some (.done v1))
def Ki (a0:List Int):Option bj:=
 abU (iter (vI a0) FU (WR (193017+(a0.length:Int)),0)) λ(v5:Int)=>some (⟨a0,0,v5⟩:bj)
theorem VS {a0:List Int} {r:bj} (H:Ki a0=some r):FnN prog 32 [aL (a0.map eU8)] 135 (Xe r):=by
 refine ZG func32 (hN:=ntmps32) (h:=?_)
 refine wI ?_
 refine aa H λv5 Hj H=>jB ⟨[(0,.v (.c (.d false (.l (a0.map eU8))))),(3,tI v5)],[],0⟩ ?_ ?_
 .refine iT Hj (λq=>⟨[(0,.v (.c (.d false (.l (a0.map eU8))))),(3,tI q.1),(4,tI q.2)],[],0⟩) ?_
  rintro⟨v1,v2⟩ o H
  refine ad ?_
  refine aa H λv6 Hj H=>jR ⟨[(0,.v (.c (.d false (.l (a0.map eU8))))),(3,tI v1),(4,tI v2),(15,tB v6)],[],0⟩ ?_ ?_
  .exact az Hj
  refine cC H ?_ ?_<;>intro H
  .refine aa H λx7 hx7 H=>nA (xdT (enc:=eU8) hx7) ?_
   exact aN H
  exact aE H
 cases H
 exact T6
def ur (a0:bj):Option (Int×bj):=
 abU (bif ltB a0.fi (a0.fb.length:Int) then(abU (ix a0.fb a0.fi) λx3=>some (zY .i64 (WR ((zY .i64 (IU .i64 (En .i64 (WR ((WR (a0.fh*6364136223846793005))+1442695040888963407)) 33) (En .i64 (WR ((WR (a0.fh*6364136223846793005))+1442695040888963407)) 47)) 255)+(WR (x3)))) 255,WR (a0.fi+1))) else(some (zY .i64 (IU .i64 (En .i64 (WR ((WR (a0.fh*6364136223846793005))+1442695040888963407)) 33) (En .i64 (WR ((WR (a0.fh*6364136223846793005))+1442695040888963407)) 47)) 255,a0.fi))) λ((v1,v2):Int×Int)=>some (v1,(⟨a0.fb,v2,WR ((WR (a0.fh*6364136223846793005))+1442695040888963407)⟩:bj))
theorem vH {a0:bj} {r:Int×bj} (H:ur a0=some r):FnW prog 188 (.var 135 (kM [.f] (co a0))) [tP 200] (.var 135 (kM [.f] (co r.2))) [.c (.d (.i .i64 r.1))]:=by
 refine fW func188 ntmps188 ?_
 refine dI ?_
 refine dA (ishL (b:=33) rfl rfl rfl rfl) ?_
 refine dA (ishL (b:=47) rfl rfl rfl rfl) ?_
 refine wI ?_
 refine dI ?_
 refine wI ?_
 obtain⟨⟨v1,v2⟩,Hj,H⟩:=ob H
 refine jA ⟨[(3,tI v1)],[(200,.var 135 (kM [.f] (co (⟨a0.fb,v2,WR ((WR (a0.fh*6364136223846793005))+1442695040888963407)⟩:bj))))],210⟩ ?_ ?_
 .refine cC Hj ?_ ?_<;>intro H
  .refine dI ?_
   refine aa H λx3 hx3 H=>dA (xdT (enc:=eU8) hx3) ?_
   refine wI ?_
   exact ai H
  exact ai H
 cases H
 exact f9
def du (a0:Int) (a1:Int) (a2:Int):Option Bool:=
 abU (bif leB a1 a0 then(some (leB a0 a2)) else(some false)) λ(v1:Bool)=>some v1
instance nC {a0:Int} {a2:Int} {r:Bool}:FC prog (du a0 a1 a2=some r) 73 [aI a0,aI a1,aI a2] [.c (.d (.b r))]:=gF func73 ntmps73 (hb 10 6)
def Au (a0:List Int) (a1:Int):Int->Option (ct (Int) (Bool))
 |v1=>bif ltB v1 (a0.length:Int) then(abU (ix a0 v1) λx2=>bif eqB x2 a1 then(dn (some true)) else(some (.next (WR (v1+1))))) else(dn (some false))
def BJ (a0:List Int) (a1:Int):Option Bool:=
 iter (Au a0 a1) FU 0
instance Sa {a0:List Int} {r:Bool}:FC prog (BJ a0 a1=some r) 202 [aL (a0.map eI),aI a1] [.c (.d (.b r))]:=gF func202 ntmps202 (hl 0 5)
def kf (a0:aS):(Int×List fy)->Option (ct (Int×List fy) (List fy))
 |(v1,v2)=>bif ltB v1 (a0.a8.length:Int) then(abU (ix a0.a8 v1) λx6=>abU (ix a0.a8 v1) λx7=>bif da 8 (([]:List Int)++x7.cF).length then(bif da 32 (v2++[(⟨x6.f6,(([]:List Int)++x7.cF)⟩:fy)]).length then(some (.next (WR (v1+1),(v2++[(⟨x6.f6,(([]:List Int)++x7.cF)⟩:fy)])))) else none) else none) else(some (.done v2))
def qI (a0:aS):Option aS:=
 abU (iter (kf a0) FU (0,([]:List fy))) λ(v5:List fy)=>some (⟨v5⟩:aS)
theorem Od {a0:aS} {r:aS} (H:qI a0=some r):FnV prog 183 [] [.v (.agg [.d false (.l (a0.a8.map dK))])] [] (.v (.agg [.wn 210 r.a8.length])) [(210,Ri r.a8)]:=by
 refine fV func183 ntmps183 ?_
 refine aa H λv5 Hj H=>jB ⟨[(2,tP 211),(3,tP 212)],[(211,.var 26 [.nil]),(212,.var 26 [.wn 213 v5.length]),(213,Ri v5)],214⟩ ?_ ?_
 .refine iT Hj (λq=>⟨[(1,tP 210),(2,tP 211),(3,tP 212),(4,tI q.1)],[(210,.var 26 [.d false (.l (a0.a8.map dK))]),(211,.var 26 [.nil]),(212,.var 26 [.wn 213 q.2.length]),(213,Ri q.2)],214⟩) ?_ (by refine an (dH (o:=212) (j:=0) 147 2 true) ?_;refine an (wB 213 (([]:List fy).length)) ?_;exact wo)
  rintro⟨v1,v2⟩ o H
  refine ad ?_
  refine cC H ?_ ?_<;>intro H
  .refine zI (List.range 21) ?_
   refine aa H λx6 hx6 H=>zA (xdT (enc:=dK) hx6) ?_
   refine aa H λx7 hx7 H=>zA (xdT (enc:=dK) hx7) ?_
   obtain⟨h,H⟩:=rq H
   refine wA (Hs (enc:=eI) (ys:=([]:List Int)) (zs:=x7.cF) [214] h) ?_
   obtain⟨h,H⟩:=rq H
   refine wb (ds:=[214]) (by kernel_rfl) (by kernel_rfl) rfl (by kernel_rfl) bK (fQ rfl (AJ (enc:=dK) (ys:=v2) (zs:=[(⟨x6.f6,(([]:List Int)++x7.cF)⟩:fy)]) h (by first|exact List.cons_ne_nil _ _|simp) rfl (λ_=>rfl) (by first|rfl|simp) (.w rfl (by first|rfl|exact lm _|simp)) rfl rfl rfl rfl rfl rfl rfl rfl rfl rfl)) bK rfl ?_
   refine wI ?_
   refine wA (spx 100015) ?_
   cases H
   refine tD ?_
   refine an (ec 213) ?_
   exact wo
  exact aE H
 cases H
 refine bF (wS 213 210) ?_
 exact cg
theorem Oe {a0:aS} {r:aS} (H:qI a0=some r):Fn prog 183 [.agg (gu a0)] [.agg [.d (.l (r.a8.map dK))]]:=by
 refine fI func183 ntmps183 ?_
 refine aa H λv5 Hj H=>jB ⟨[(2,tP 1),(3,tP 2)],[(1,.var 26 [.nil]),(2,.var 26 [.wn 3 v5.length]),(3,Ri v5)],4⟩ ?_ ?_
 .refine iT Hj (λq=>⟨[(1,tP 0),(2,tP 1),(3,tP 2),(4,tI q.1)],[(0,.var 26 [.d false (.l (a0.a8.map dK))]),(1,.var 26 [.nil]),(2,.var 26 [.wn 3 q.2.length]),(3,Ri q.2)],4⟩) ?_ (by refine an (dH (o:=2) (j:=0) 147 2 true) ?_;refine an (wB 3 (([]:List fy).length)) ?_;exact wo)
  rintro⟨v1,v2⟩ o H
  refine ad ?_
  refine cC H ?_ ?_<;>intro H
  .refine zI (List.range 21) ?_
   refine aa H λx6 hx6 H=>zA (xdT (enc:=dK) hx6) ?_
   refine aa H λx7 hx7 H=>zA (xdT (enc:=dK) hx7) ?_
   obtain⟨h,H⟩:=rq H
   refine wA (Hs (enc:=eI) (ys:=([]:List Int)) (zs:=x7.cF) [4] h) ?_
   obtain⟨h,H⟩:=rq H
   refine wb (ds:=[4]) (by kernel_rfl) (by kernel_rfl) rfl (by kernel_rfl) bK (fQ rfl (AJ (enc:=dK) (ys:=v2) (zs:=[(⟨x6.f6,(([]:List Int)++x7.cF)⟩:fy)]) h (by first|exact List.cons_ne_nil _ _|simp) rfl (λ_=>rfl) (by first|rfl|simp) (.w rfl (by first|rfl|exact lm _|simp)) rfl rfl rfl rfl rfl rfl rfl rfl rfl rfl)) bK rfl ?_
   refine wI ?_
   refine wA (spx 100025) ?_
   cases H
   refine tD ?_
   refine an (ec 3) ?_
   exact wo
  exact aE H
 cases H
 refine dR (fG 3) ?_
 exact bX
def wE (a0:lC) (a1:Int):Option aJ:=
 some {vP with dq:=a0,bg:=a1,bY:={de with bB:=1}}
instance J8 {a0:lC} {r:aJ}:FC prog (wE a0 a1=some r) 246 [.agg (EE a0),aI a1] [.agg (qM [.z,.z] (dF r))]:=gF func246 ntmps246
def vM (a0:bP):Option bP:=
 bif da 8 (([]:List Int)++a0.bJ).length then(some {a0 with bJ:=(([]:List Int)++a0.bJ)}) else none
instance sl30Plan_c {a0:bP} {r:bP}:FC prog (vM a0=some r) 256 [.agg (lE a0)] [.agg (qM [.o] (eN r))]:=⟨λH=>by
 refine fI func256 ntmps256 ?_
 obtain⟨h,H⟩:=rq H
 refine eZ rfl (apT (enc:=eI) (ys:=([]:List Int)) (zs:=a0.bJ) h) ?_
 refine aW (gA (enc:=eI) (o:=3)) ?_
 cases H
 exact bX⟩
def vG (v:List (Int×List Int)) (a b:Int):Option (List (Int×List Int)):=
 abU (ix v a) λx=>bif da 8 (x.2++[b]).length then(abU (ix (v.set a.toNat (x.1,x.2++[b])) b) λy=>bif da 8 (y.2++[a]).length then some ((v.set a.toNat (x.1,x.2++[b])).set b.toNat (y.1,y.2++[a])) else none) else none
theorem Mt {v r:List (Int×List Int)} {a b fi fh:Int} {n:Nat} {fb:Lad} (H:vG v a b=some r) (hn:v.length=n):
 ∃c,Tryz.f249.body=some c/\AWC prog 34 c ⟨[(0,.v (.agg [.wn 222 n])),(1,tI a),(2,tI b)],[(200,.var 135 [.d false (.l fb),.d false (.i .i64 fi),.d false (.i .i64 fh)]),(202,.var 26 [.nil]),(203,.var 26 [.wn 222 n]),(222,.cxo 222 147 3 v none)],223⟩
  (xu 34 prog [] [(200,.var 135 [.d false (.l fb),.d false (.i .i64 fi),.d false (.i .i64 fh)]),(202,.var 26 [.nil]),(203,.var 26 [.wn 222 n]),(222,.cxo 222 147 3 r none)] (.tup []) []):=by
 refine⟨_,rfl,?_⟩
 refine wkz ?_
 obtain⟨⟨x1,x2⟩,hx,H⟩:=ob H
 obtain⟨h,H⟩:=rq H
 have hxx:=(ixE hx).2
 refine uZ ⟨[(1,tI a),(2,tI b),(3,.v (.c (.p 223 0)))],[(200,.var 135 [.d false (.l fb),.d false (.i .i64 fi),.d false (.i .i64 fh)]),(202,.var 26 [.nil]),(203,.var 26 [.wn 222 n]),(223,.var 26 [.wn 222 n]),(222,.cxo 222 147 3 (v.set a.toNat (x1,x2++[b])) none)],224⟩ ?_ ?_
 .refine KS (o:=222) (i:=a.toNat) (e:=(x1,x2)) rfl hxx rfl rfl rfl rfl rfl rfl (λhnil=>?_) (λk cc=>?_)
  .simp only at hnil
   subst hnil
   refine qS [0,1,2,3,4,5,6,7,8,9,10,11,12,13,14] Try.follows (by kernel_rfl) (by kernel_rfl) rfl ?_
   refine wkz ?_
   refine jP rfl (qN hx rfl rfl hn rfl) ?_
   refine wkz ?_
   refine jP rfl (olh hxx rfl rfl rfl) ?_
   refine wkz ?_
   refine jP rfl (apNk (zs:=[b]) [224] h (by simp) rfl rfl (.w rfl rfl) rfl rfl rfl rfl) ?_
   refine wkz ?_
   refine jP rfl (qN hx rfl rfl hn rfl) ?_
   refine wkz ?_
   refine Cb (by kernel_rfl) rfl (by kernel_rfl) bK (fQ rfl (LX (o:=222) (s:=225) (ys:=[b]) rfl rfl rfl rfl rfl hxx (.inr ⟨_,_,_,rfl⟩) rfl rfl rfl rfl rfl rfl rfl)) bK rfl ?_
   refine wkz ?_
   exact eV ⟨rfl,rfl,rfl,rfl,rfl,rfl,trivial⟩ ⟨rfl,⟨rfl,rfl⟩,rfl,⟨rfl,rfl⟩,rfl,⟨rfl,rfl⟩,rfl,⟨rfl,rfl⟩,rfl,⟨rfl,rfl⟩,trivial⟩
  refine qS [0,1,2,3,4,5,6,7,8,9,10,11,12,13,14] Try.follows (by kernel_rfl) (by kernel_rfl) rfl ?_
  refine wkz ?_
  refine jP rfl (qN hx rfl rfl hn rfl) ?_
  refine wkz ?_
  refine jP rfl (olh hxx rfl rfl rfl) ?_
  refine wkz ?_
  refine Cc rfl (apk (q:=224) (xs:=x2) (zs:=[b]) [224,225] h rfl rfl rfl (.w rfl rfl) rfl rfl rfl rfl rfl rfl) ?_
  refine wkz ?_
  refine jP rfl (qN hx rfl rfl hn rfl) ?_
  refine wkz ?_
  refine wb (ds:=[224]) (by kernel_rfl) (by kernel_rfl) rfl (by kernel_rfl) bK (fQ rfl (LX (o:=222) (s:=226) (ys:=x2++[b]) rfl rfl rfl rfl rfl hxx (.inr ⟨_,_,_,rfl⟩) rfl rfl rfl rfl rfl rfl rfl)) bK rfl ?_
  refine wkz ?_
  exact eV ⟨rfl,rfl,rfl,rfl,rfl,rfl,trivial⟩ ⟨rfl,⟨rfl,rfl⟩,rfl,⟨rfl,rfl⟩,rfl,⟨rfl,rfl⟩,rfl,⟨rfl,rfl⟩,rfl,⟨rfl,rfl⟩,trivial⟩
 refine wkz ?_
 obtain⟨⟨y1,y2⟩,hy,H⟩:=ob H
 obtain⟨h',H⟩:=rq H
 have hyy:=(ixE hy).2
 have hn':(v.set a.toNat (x1,x2++[b])).length=n:=by simpa using hn
 refine uZ ⟨[],[(200,.var 135 [.d false (.l fb),.d false (.i .i64 fi),.d false (.i .i64 fh)]),(202,.var 26 [.nil]),(203,.var 26 [.wn 222 n]),(222,.cxo 222 147 3 ((v.set a.toNat (x1,x2++[b])).set b.toNat (y1,y2++[a])) none)],223⟩ ?_ ?_
 .refine KS (o:=222) (i:=b.toNat) (e:=(y1,y2)) rfl hyy rfl rfl rfl rfl rfl rfl (λhnil=>?_) (λk cc=>?_)
  .simp only at hnil
   subst hnil
   refine qS [0,1,2,3,4,5,6,7,8,9,10,11,12,13,14] Try.follows (by kernel_rfl) (by kernel_rfl) rfl ?_
   refine wkz ?_
   refine jP rfl (qN hy rfl rfl hn' rfl) ?_
   refine wkz ?_
   refine jP rfl (olh hyy rfl rfl rfl) ?_
   refine wkz ?_
   refine jP rfl (apNk (zs:=[a]) [224] h' (by simp) rfl rfl (.w rfl rfl) rfl rfl rfl rfl) ?_
   refine wkz ?_
   refine jP rfl (qN hy rfl rfl hn' rfl) ?_
   refine wkz ?_
   refine Cb (by kernel_rfl) rfl (by kernel_rfl) bK (fQ rfl (LX (o:=222) (s:=225) (ys:=[a]) rfl rfl rfl rfl rfl hyy (.inr ⟨_,_,_,rfl⟩) rfl rfl rfl rfl rfl rfl rfl)) bK rfl ?_
   refine wkz ?_
   exact eV trivial ⟨rfl,⟨rfl,rfl⟩,rfl,⟨rfl,rfl⟩,rfl,⟨rfl,rfl⟩,rfl,⟨rfl,rfl⟩,trivial⟩
  refine qS [0,1,2,3,4,5,6,7,8,9,10,11,12,13,14] Try.follows (by kernel_rfl) (by kernel_rfl) rfl ?_
  refine wkz ?_
  refine jP rfl (qN hy rfl rfl hn' rfl) ?_
  refine wkz ?_
  refine jP rfl (olh hyy rfl rfl rfl) ?_
  refine wkz ?_
  refine Cc rfl (apk (q:=224) (xs:=y2) (zs:=[a]) [224,225] h' rfl rfl rfl (.w rfl rfl) rfl rfl rfl rfl rfl rfl) ?_
  refine wkz ?_
  refine jP rfl (qN hy rfl rfl hn' rfl) ?_
  refine wkz ?_
  refine wb (ds:=[224]) (by kernel_rfl) (by kernel_rfl) rfl (by kernel_rfl) bK (fQ rfl (LX (o:=222) (s:=226) (ys:=y2++[a]) rfl rfl rfl rfl rfl hyy (.inr ⟨_,_,_,rfl⟩) rfl rfl rfl rfl rfl rfl rfl)) bK rfl ?_
  refine wkz ?_
  exact eV trivial ⟨rfl,⟨rfl,rfl⟩,rfl,⟨rfl,rfl⟩,rfl,⟨rfl,rfl⟩,rfl,⟨rfl,rfl⟩,trivial⟩
 cases H
 refine wkz ?_
 exact mO .nil rfl rfl ⟨rfl,rfl,rfl,rfl,trivial⟩ trivial
theorem rW {v r:List (Int×List Int)} {a b:Int} (H:vG v a b=some r):r.length=v.length:=by
 unfold vG at H
 obtain⟨x,hx,H⟩:=ob H
 obtain⟨h,H⟩:=rq H
 obtain⟨y,hy,H⟩:=ob H
 obtain⟨h',H⟩:=rq H
 cases H
 simp
def qi (a0:List bV):(Int×List bV)->Option (ct (Int×List bV) (List bV))
 |(v1,v2)=>bif ltB v1 (a0.length:Int) then(abU (ix a0 v1) λx5=>bif da 1 (([]:List Int)++x5.bb).length then(bif da 24 (v2++[(⟨(([]:List Int)++x5.bb)⟩:bV)]).length then(some (.next (WR (v1+1),(v2++[(⟨(([]:List Int)++x5.bb)⟩:bV)])))) else none) else none) else(some (.done v2))
def tf (a0:List bV):Option (List bV):=
 abU (iter (qi a0) FU (0,([]:List bV))) λ(v4:List bV)=>some v4
instance Yn {a0:List bV} {r:List bV}:FC prog (tf a0=some r) 257 [aL (a0.map ee)] [.c (.own 119 1 (r.map ee) r.length)]:=⟨λH=>by
 refine fI func257 ntmps257 ?_
 refine aa H λv4 Hj H=>jB ⟨[(3,.v (.c (.w 0 v4.length)))],[(0,Sq v4)],1⟩ ?_ ?_
 .refine iT Hj (λq=>⟨[(0,.v (.c (.d false (.l (a0.map ee))))),(3,.v (.c (.w 0 q.2.length))),(4,tI q.1)],[(0,Sq q.2)],1⟩) ?_
  rintro⟨v1,v2⟩ o H
  refine ad ?_
  refine cC H ?_ ?_<;>intro H
  .refine aa H λx5 hx5 H=>nA (xdT (enc:=ee) hx5) ?_
   obtain⟨h,H⟩:=rq H
   refine eZ rfl (apT (enc:=eU8) (ys:=([]:List Int)) (zs:=x5.bb) h) ?_
   refine aW (gA (enc:=eU8) (o:=1)) ?_
   refine bG (aV (o:=1)) ?_
   refine aW (bN (k:=20)) ?_
   obtain⟨h,H⟩:=rq H
   refine sA (apT (enc:=ee) (ys:=v2) (zs:=[(⟨(([]:List Int)++x5.bb)⟩:bV)]) h) ?_
   exact aN H
  exact aE H
 cases H
 exact bX⟩
def rX (a0:List ae):(Int×List ae)->Option (ct (Int×List ae) (List ae))
 |(v1,v2)=>bif ltB v1 (a0.length:Int) then(abU (ix a0 v1) λx6=>abU (ix a0 v1) λx7=>bif da 1 (([]:List Int)++x7.bb).length then(bif da 32 (v2++[(⟨x6.c8,(([]:List Int)++x7.bb)⟩:ae)]).length then(some (.next (WR (v1+1),(v2++[(⟨x6.c8,(([]:List Int)++x7.bb)⟩:ae)])))) else none) else none) else(some (.done v2))
def vJ (a0:List ae):Option (List ae):=
 abU (iter (rX a0) FU (0,([]:List ae))) λ(v5:List ae)=>some v5
instance Zb {a0:List ae} {r:List ae}:FC prog (vJ a0=some r) 312 [aL (a0.map aM)] [.c (.own 131 2 (r.map aM) r.length)]:=⟨λH=>by
 refine fI func312 ntmps312 ?_
 refine aa H λv5 Hj H=>jB ⟨[(3,.v (.c (.w 0 v5.length)))],[(0,Kw v5)],1⟩ ?_ ?_
 .refine iT Hj (λq=>⟨[(0,.v (.c (.d false (.l (a0.map aM))))),(3,.v (.c (.w 0 q.2.length))),(4,tI q.1)],[(0,Kw q.2)],1⟩) ?_
  rintro⟨v1,v2⟩ o H
  refine ad ?_
  refine cC H ?_ ?_<;>intro H
  .refine zI (List.range 17) ?_
   refine aa H λx6 hx6 H=>zA (xdT (enc:=aM) hx6) ?_
   refine aa H λx7 hx7 H=>zA (xdT (enc:=aM) hx7) ?_
   obtain⟨h,H⟩:=rq H
   refine wA (Hs (enc:=eU8) (ys:=([]:List Int)) (zs:=x7.bb) [1] h) ?_
   obtain⟨h,H⟩:=rq H
   refine wA (apx (enc:=aM) (ys:=v2) (zs:=[(⟨x6.c8,(([]:List Int)++x7.bb)⟩:ae)]) [0,3] h) ?_
   refine nn (ds:=[1,0]) (by kernel_rfl) (by kernel_rfl) rfl ?_
   refine wI ?_
   cases H
   refine tD ?_
   refine an (wS 0 4) ?_
   exact wo
  exact aE H
 cases H
 exact bX⟩
def Gj (a0:List Int):Option bV:=
 bif da 1 (([]:List Int)++a0).length then(some (⟨(([]:List Int)++a0)⟩:bV)) else none
instance Ol {a0:List Int} {r:bV}:FC prog (Gj a0=some r) 251 [aL (a0.map eU8)] [.agg [.own 5 1 (r.bb.map eU8) r.bb.length]]:=⟨λH=>by
 refine fI func251 ntmps251 ?_
 obtain⟨h,H⟩:=rq H
 refine eZ rfl (apT (enc:=eU8) (ys:=([]:List Int)) (zs:=a0) h) ?_
 refine aW (gA (enc:=eU8) (o:=1)) ?_
 cases H
 exact bX⟩
def nj (a0:aJ) (a1:aH):Option aY:=
 some (⟨{a0 with fA:=3},[a1]⟩:aY)
theorem ti {a0:aJ} {a1:aH} {r:aY} (H:nj a0 a1=some r):FnV prog 253 [] [.v (.agg (kM [.f,.f] (dF a0))),.v (.agg (kM [] (dt a1)))] [] (.v (.agg (kM [.f,.f,.w 210] (cd r)))) [(210,w43 r.dE)]:=by
 refine fV func253 ntmps253 ?_
 cases H
 refine bF (wS 213 210) ?_
 refine bF ((wB 210 [a1].length)) ?_
 exact cg
def tg (a0:aJ):Option aH:=
 some {dQ with bh:=1,bg:=a0.bg}
instance BP {a0:aJ} {r:aH}:FC prog (tg a0=some r) 254 [.agg (c9 a0)] [.agg (qM [] (dt r))]:=gF func254 ntmps254
def BN (a0:ax):Option ax:=
 bif da 1 (([]:List Int)++a0.bC.bb).length then(some {a0 with bC:={a0.bC with bb:=(([]:List Int)++a0.bC.bb)}}) else none
instance sl27Copy_c {a0:ax} {r:ax}:FC prog (BN a0=some r) 259 [.agg (db a0)] [.agg (qM [.o] (iy r))]:=⟨λH=>by
 refine fI func259 ntmps259 ?_
 obtain⟨h,H⟩:=rq H
 refine eZ rfl (apT (enc:=eU8) (ys:=([]:List Int)) (zs:=a0.bC.bb) h) ?_
 refine aW (gA (enc:=eU8) (o:=3)) ?_
 cases H
 exact bX⟩
def ni (a0:am):Option am:=
 bif da 16 (([]:List aD)++a0.aj).length then(some {a0 with aj:=(([]:List aD)++a0.aj)}) else none
instance Gg {a0:am} {r:am}:FC prog (ni a0=some r) 186 [.agg (cT a0)] [.agg (qM [.o] (cq r))]:=⟨λH=>by
 refine fI func186 ntmps186 ?_
 obtain⟨h,H⟩:=rq H
 refine eZ rfl (apT (enc:=bu) (ys:=([]:List aD)) (zs:=a0.aj) h) ?_
 refine aW (gA (enc:=bu) (o:=3)) ?_
 cases H
 exact bX⟩
def FT (a0:Int) (a1:Int):Option Int:=
 bif ltB a1 a0 then(some a1) else(some a0)
instance J7 {a0:Int} :FC prog (FT a0 a1=some r) 131 [aI a0,aI a1] [.c (.d (.i .i64 r))]:=gF func131 ntmps131
def FQ (a0:Int) (a1:Int):Option Int:=
 bif ltB a0 a1 then(some a1) else(some a0)
instance VF {a0:Int} :FC prog (FQ a0 a1=some r) 189 [aI a0,aI a1] [.c (.d (.i .i64 r))]:=gF func189 ntmps189
def qD (a0:List Int) (a1:List Int):Option Bool:=
 some (strB (xo a0) (xo a1))
instance WD {a0:List Int} {a1:List Int} {r:Bool}:FC prog (qD a0 a1=some r) 288 [aL (a0.map eU8),aL (a1.map eU8)] [.c (.d (.b r))]:=gF func288 ntmps288
def wP (a0:List ae):(Int×Int)->Option (ct (Int×Int) (Int))
 |(v1,v2)=>bif ltB v2 (a0.length:Int) then(abU (ix a0 v2) λx5=>some (.next (WR (v1+(x5.bb.length:Int)),WR (v2+1)))) else(some (.done v1))
def pV (a0:List ae):Option Int:=
 abU (iter (wP a0) FU (0,0)) λ(v4:Int)=>some v4
instance Zc {a0:List ae} :FC prog (pV a0=some r) 334 [aL (a0.map aM)] [.c (.d (.i .i64 r))]:=gF func334 ntmps334 (hm 0 3 4) (he 0 3 4)
def pf (a0:am):(Int×Int)->Option (ct (Int×Int) (Int))
 |(v1,v2)=>bif ltB v2 (a0.aj.length:Int) then(abU (ix a0.aj v2) λx5=>some (.next (WR (v1+x5.dW),WR (v2+1)))) else(some (.done v1))
def pc (a0:am):Option Int:=
 abU (iter (pf a0) FU (0,0)) λ(v4:Int)=>some v4
instance R3 {a0:am} :FC prog (pc a0=some r) 286 [.agg (cT a0)] [.c (.d (.i .i64 r))]:=gF func286 ntmps286 (hm 0 3 4) (he 0 3 4)
def uq (a0:am) (a1:Int):Int->Option (ct (Int) (Int))
 |v1=>bif ltB v1 (a0.aj.length:Int) then(abU (ix a0.aj v1) λx2=>bif eqB x2.aC a1 then(dn (some v1)) else(some (.next (WR (v1+1))))) else(dn (some (-1)))
def qJ (a0:am) (a1:Int):Option Int:=
 iter (uq a0 a1) FU 0
instance Oh {a0:am} :FC prog (qJ a0 a1=some r) 335 [.agg (cT a0),aI a1] [.c (.d (.i .i64 r))]:=gF func335 ntmps335 (hl 0 5)
def kL (a0:List Int):(Int×List Int)->Option (ct (Int×List Int) (List Int))
 |(v1,v2)=>bif ltB v1 (a0.length:Int) then(abU (ix a0 v1) λx5=>bif da 8 (v2++[WR (x5)]).length then(some (.next (WR (v1+1),(v2++[WR (x5)])))) else none) else(some (.done v2))
def rK (a0:List Int):Option (List Int):=
 abU (iter (kL a0) FU (0,[(a0.length:Int)])) λ(v4:List Int)=>some v4
instance FK {a0:List Int} {r:List Int}:FC prog (rK a0=some r) 289 [aL (a0.map eU8)] [.c (.own 3 1 (r.map eI) r.length)]:=⟨λH=>by
 refine fI func289 ntmps289 ?_
 refine aa H λv4 Hj H=>jB ⟨[(3,.v (.c (.w 0 v4.length)))],[(0,w3 v4)],1⟩ ?_ ?_
 .refine iT Hj (λq=>⟨[(0,.v (.c (.d false (.l (a0.map eU8))))),(3,.v (.c (.w 0 q.2.length))),(4,tI q.1)],[(0,w3 q.2)],1⟩) ?_
  rintro⟨v1,v2⟩ o H
  refine ad ?_
  refine cC H ?_ ?_<;>intro H
  .refine aa H λx5 hx5 H=>nA (xdT (enc:=eU8) hx5) ?_
   obtain⟨h,H⟩:=rq H
   refine sA (apT (enc:=eI) (ys:=v2) (zs:=[WR (x5)]) h) ?_
   exact aN H
  exact aE H
 cases H
 exact bX⟩
def uU (a0:Int):Option fJ:=
 some (⟨[1,3,a0]⟩:fJ)
instance SM {a0:Int} {r:fJ}:FC prog (uU a0=some r) 210 [aI a0] [.agg [.own 3 1 (r.Steps.map eI) r.Steps.length]]:=gF func210 ntmps210
def pb:Option fJ:=
 some (⟨[1,2]⟩:fJ)
instance M6 {r:fJ}:FC prog (pb=some r) 291 [] [.agg [.own 3 1 (r.Steps.map eI) r.Steps.length]]:=gF func291 ntmps291
def D0 (a0:List aD) (a1:Int) (a2:Int):Option (List aD):=
 bif da 16 (([]:List aD)++a0).length then(abU (ix a0 a1) λx1=>bif ltB a2 x1.dW then(abU (ix a0 a1) λx2=>abU (ix (([]:List aD)++a0) a1) λx3=>some ((([]:List aD)++a0).set (a1).toNat (⟨x3.aC,WR (x2.dW-a2)⟩:aD))) else(bif eS (([]:List aD)++a0) 0 a1 then(bif eS a0 (WR (a1+1)) a0.length then(bif da 16 ((([]:List aD)++a0).take (a1).toNat++(a0.drop (WR (a1+1)).toNat)).length then(some ((([]:List aD)++a0).take (a1).toNat++(a0.drop (WR (a1+1)).toNat))) else none) else none) else none)) else none
instance Sb {a0:List aD} {a2:Int} {r:List aD}:FC prog (D0 a0 a1 a2=some r) 363 [aL (a0.map bu),aI a1,aI a2] [.c (.own 115 2 (r.map bu) r.length)]:=⟨λH=>by
 refine fI func363 ntmps363 ?_
 obtain⟨h,H⟩:=rq H
 refine eZ rfl (apT (enc:=bu) (ys:=([]:List aD)) (zs:=a0) h) ?_
 refine aW (gA (enc:=bu) (o:=0)) ?_
 refine aa H λx1 hx1 H=>nA (xdT (enc:=bu) hx1) ?_
 refine cC H ?_ ?_<;>intro H
 .refine aa H λx2 hx2 H=>nA (xdT (enc:=bu) hx2) ?_
  refine aa H λx3 hx3 H=>nA (xwT hx3) ?_
  refine sA (soT (enc:=bu) (a':=(⟨x3.aC,WR (x2.dW-a2)⟩:aD)) hx3) ?_
  exact ao H
 refine zI (List.range 9) ?_
 obtain⟨hs2,H⟩:=rq H
 refine zA (cwfT (enc:=bu) hs2 (by first|rfl|simp) rfl rfl rfl rfl) ?_
 obtain⟨h,H⟩:=rq H
 refine zA (QM (enc:=bu) h (λ_=>rfl) rfl rfl rfl) ?_
 obtain⟨h,H⟩:=rq H
 refine wA (apxPF (enc:=bu) (h:=a1) (ys:=(([]:List aD)++a0)) (zs:=a0.drop (WR (a1+1)).toNat) [0] hs2 h rfl (λ_=>rfl) (λ_=>rfl) rfl .d rfl rfl rfl rfl rfl rfl) ?_
 refine nn (ds:=[0]) (by kernel_rfl) (by kernel_rfl) rfl ?_
 refine wI ?_
 cases H
 exact bX⟩
def kN (a0:aS) (a1:Int):(Int×List Int)->Option (ct (Int×List Int) (List Int))
 |(v1,v2)=>bif ltB v1 (a0.a8.length:Int) then(abU (ix a0.a8 v1) λx6=>abU (bif eqB x6.f6 a1 then(bif da 8 (v2++[v1]).length then(some (v2++[v1])) else none) else(some v2)) λ(v7:List Int)=>some (.next (WR (v1+1),v7))) else(some (.done v2))
def rL (a0:aS) (a1:Int):Option (List Int):=
 abU (iter (kN a0 a1) FU (0,([]:List Int))) λ(v5:List Int)=>some v5
instance FL {a0:aS} {r:List Int}:FC prog (rL a0 a1=some r) 376 [.agg (gu a0),aI a1] [.c (.own 3 1 (r.map eI) r.length)]:=⟨λH=>by
 refine fI func376 ntmps376 ?_
 refine aa H λv5 Hj H=>jB ⟨[(5,.v (.c (.w 1 v5.length)))],[(1,w3 v5)],2⟩ ?_ ?_
 .refine iT Hj (λq=>⟨[(1,tI a1),(2,tP 0),(5,.v (.c (.w 1 q.2.length))),(6,tI q.1)],[(0,.var 26 [.d false (.l (a0.a8.map dK))]),(1,w3 q.2)],2⟩) ?_
  rintro⟨v1,v2⟩ o H
  refine ad ?_
  refine cC H ?_ ?_<;>intro H
  .refine aa H λx6 hx6 H=>nA (xdT (enc:=dK) hx6) ?_
   refine aa H λv7 Hj H=>jA ⟨[(1,tI a1),(2,tP 0),(5,.v (.c (.w 1 v7.length))),(6,tI v1)],[(0,.var 26 [.d false (.l (a0.a8.map dK))]),(1,w3 v7)],2⟩ ?_ ?_
   .refine cC Hj ?_ ?_<;>intro H
    .obtain⟨h,H⟩:=rq H
     refine sA (apT (enc:=eI) (ys:=v2) (zs:=[v1]) h) ?_
     exact ai H
    exact ai H
   exact aN H
  exact aE H
 cases H
 exact bX⟩
end Go.AM
