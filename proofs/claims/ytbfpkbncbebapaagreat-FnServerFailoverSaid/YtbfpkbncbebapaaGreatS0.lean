/- A part. -/
import Derived.Test.YtbfpkbncbebapaaGreatG
set_option linter.unusedVariables false
open Option renaming bind->YL
namespace Go.AM
open Go.Proofs
open Tryz
attribute [local irreducible] AWN NS AWO AWR AWC DR dQ gQ
set_option maxRecDepth 100000
set_option maxHeartbeats 40000000
def tR (a0:List Int):(Int×Int)->Option (cf (Int×Int) (Int))
 |(v1,v2)=>YL (bif ltB v2 (a0.length:Int) then(some (ltB v2 4000)) else(some false)) λ(v6:Bool)=>bif v6 then(YL (ix a0 v2) λx7=>some (.next (vi .i64 (WR ((WR ((WR (v1*137))+(WR (x7))))+11)) 1073741823,WR (v2+1)))) else(some (.done v1))
def H9 (a0:List Int):Option aT:=
 YL (iter (tR a0) FU (WR (193017+(a0.length:Int)),0)) λ(v5:Int)=>some (⟨a0,0,v5⟩:aT)
theorem Sg {a0:List Int} {r:aT} (H:H9 a0=some r):FnN prog 45 [aL (a0.map eU8)] 148 (TG r):=by
 refine VD func45 (hN:=ntmps45) (h:=?_)
 refine wI ?_
 refine aa H λv5 Hj H=>jB ⟨[(0,.v (.c (.d false (.l (a0.map eU8))))),(3,tI v5)],[],0⟩ ?_ ?_
 .refine iT Hj (λq=>⟨[(0,.v (.c (.d false (.l (a0.map eU8))))),(3,tI q.1),(4,tI q.2)],[],0⟩) ?_
  rintro⟨v1,v2⟩ o H
  try dsimp only
  refine wI ?_
  refine aa H λv6 Hj H=>jR ⟨[(0,.v (.c (.d false (.l (a0.map eU8))))),(3,tI v1),(4,tI v2),(15,tB v6)],[],0⟩ ?_ ?_
  .refine gC Hj ?_ ?_<;>intro H
   .exact ai H
   exact ai H
  refine cC H ?_ ?_<;>intro H
  .refine aa H λx7 hx7 H=>nA (xdT (enc:=eU8) hx7) ?_
   cases H
   refine dy ?_
   exact wo
  cases H
  refine dF (λhq=>?_)
  cases hq
  refine wI ?_
  exact wo
 cases H
 exact Qv
def sx (a0:aT):Option (Int×aT):=
 YL (bif ltB a0.fi (a0.fb.length:Int) then(YL (ix a0.fb a0.fi) λx3=>some (vi .i64 (WR ((vi .i64 (II .i64 (yq .i64 (WR ((WR (a0.fh*6364136223846793005))+1442695040888963407)) 33) (yq .i64 (WR ((WR (a0.fh*6364136223846793005))+1442695040888963407)) 47)) 255)+(WR (x3)))) 255,WR (a0.fi+1))) else(some (vi .i64 (II .i64 (yq .i64 (WR ((WR (a0.fh*6364136223846793005))+1442695040888963407)) 33) (yq .i64 (WR ((WR (a0.fh*6364136223846793005))+1442695040888963407)) 47)) 255,a0.fi))) λ((v1,v2):Int×Int)=>some (v1,(⟨a0.fb,v2,WR ((WR (a0.fh*6364136223846793005))+1442695040888963407)⟩:aT))
theorem tQ {a0:aT} {r:Int×aT} (H:sx a0=some r):FnW prog 144 (.var 148 (kM [.f] (bS a0))) [tP 200] (.var 148 (kM [.f] (bS r.2))) [.c (.d (.i .i64 r.1))]:=by
 refine fW func144 ntmps144 ?_
 refine dI ?_
 refine dA (ishL (b:=33) rfl rfl rfl rfl) ?_
 refine dA (ishL (b:=47) rfl rfl rfl rfl) ?_
 refine wI ?_
 refine dI ?_
 refine wI ?_
 obtain⟨⟨v1,v2⟩,Hj,H⟩:=ob H
 refine jA ⟨[(3,tI v1)],[(200,.var 148 (kM [.f] (bS (⟨a0.fb,v2,WR ((WR (a0.fh*6364136223846793005))+1442695040888963407)⟩:aT))))],210⟩ ?_ ?_
 .refine cC Hj ?_ ?_<;>intro H
  .refine dI ?_
   refine aa H λx3 hx3 H=>dA (xdT (enc:=eU8) hx3) ?_
   refine wI ?_
   exact ai H
  exact ai H
 cases H
 exact fo
def cO (a0:Int) (a1:Int) (a2:Int):Option Bool:=
 YL (bif leB a1 a0 then(some (leB a0 a2)) else(some false)) λ(v1:Bool)=>some v1
theorem bT {a0:Int} {a1:Int} {a2:Int} {r:Bool} (H:cO a0 a1 a2=some r):Fn prog 55 [aI a0,aI a1,aI a2] [.c (.d (.b r))]:=by
 refine fI func55 ntmps55 ?_
 refine aa H λv1 Hj H=>jR ⟨[(6,tB v1)],[],0⟩ ?_ ?_
 .refine gC Hj ?_ ?_<;>intro H
  .exact ai H
  exact ai H
 exact ao H
def yT (a0:List Int) (a1:Int):Int->Option (cf (Int) (Bool))
 |v1=>bif ltB v1 (a0.length:Int) then(YL (ix a0 v1) λx2=>bif eqB x2 a1 then(dn (some true)) else(some (.next (WR (v1+1))))) else(dn (some false))
def Ao (a0:List Int) (a1:Int):Option Bool:=
 iter (yT a0 a1) FU 0
theorem Bp {a0:List Int} {a1:Int} {r:Bool} (H:Ao a0 a1=some r):Fn prog 202 [aL (a0.map eI),aI a1] [.c (.d (.b r))]:=by
 refine fI func202 ntmps202 ?_
 refine iT H (λq=>⟨[(0,.v (.c (.d false (.l (a0.map eI))))),(1,tI a1),(5,tI q)],[],0⟩) ?_
 rintro v1 o H
 try dsimp only
 refine wI ?_
 refine cC H ?_ ?_<;>intro H
 .refine aa H λx2 hx2 H=>nA (xdT (enc:=eI) hx2) ?_
  refine cC H ?_ ?_<;>intro H
  .obtain⟨r0,Hd,rfl⟩:=dnE H
   refine f6 (λhq=>?_)
   have H:=Hd.trans (congrArg some hq)
   refine wI ?_
   exact ao H
  cases H
  refine dy ?_
  exact wo
 obtain⟨r0,Hd,rfl⟩:=dnE H
 refine dF (λhq=>?_)
 have H:=Hd.trans (congrArg some hq)
 refine wI ?_
 exact ao H
def i8 (a0:aM):(Int×List eH)->Option (cf (Int×List eH) (List eH))
 |(v1,v2)=>bif ltB v1 (a0.aR.length:Int) then(YL (ix a0.aR v1) λx6=>YL (ix a0.aR v1) λx7=>bif dh 8 (([]:List Int)++x7.bX).length then(bif dh 32 (v2++[(⟨x6.fB,(([]:List Int)++x7.bX)⟩:eH)]).length then(some (.next (WR (v1+1),(v2++[(⟨x6.fB,(([]:List Int)++x7.bX)⟩:eH)])))) else none) else none) else(some (.done v2))
def oS (a0:aM):Option aM:=
 YL (iter (i8 a0) FU (0,([]:List eH))) λ(v5:List eH)=>some (⟨v5⟩:aM)
theorem LQ {a0:aM} {r:aM} (H:oS a0=some r):FnV prog 209 [] [.v (.agg [.d false (.l (a0.aR.map cQ))])] [] (.v (.agg [.wn 210 r.aR.length])) [(210,Oz r.aR)]:=by
 refine fV func209 ntmps209 ?_
 refine aa H λv5 Hj H=>jB ⟨[(2,tP 211),(3,tP 212)],[(211,.var 26 [.nil]),(212,.var 26 [.wn 213 v5.length]),(213,Oz v5)],214⟩ ?_ ?_
 .refine iT Hj (λq=>⟨[(1,tP 210),(2,tP 211),(3,tP 212),(4,tI q.1)],[(210,.var 26 [.d false (.l (a0.aR.map cQ))]),(211,.var 26 [.nil]),(212,.var 26 [.wn 213 q.2.length]),(213,Oz q.2)],214⟩) ?_ (by refine ay (dE (o:=212) (j:=0) 158 2 true) ?_;refine ay (wB 213 (([]:List eH).length)) ?_;exact wo)
  rintro⟨v1,v2⟩ o H
  try dsimp only
  refine wI ?_
  refine cC H ?_ ?_<;>intro H
  .refine zI (List.range 21) ?_
   refine aa H λx6 hx6 H=>zA (xdT (enc:=cQ) hx6) ?_
   refine aa H λx7 hx7 H=>zA (xdT (enc:=cQ) hx7) ?_
   obtain⟨h,H⟩:=rq H
   refine wA (FG (enc:=eI) (ys:=([]:List Int)) (zs:=x7.bX) [214] h) ?_
   obtain⟨h,H⟩:=rq H
   refine uf (ds:=[214]) (by kernel_rfl) (by kernel_rfl) rfl (by kernel_rfl) bW (hP rfl (B4 (enc:=cQ) (ys:=v2) (zs:=[(⟨x6.fB,(([]:List Int)++x7.bX)⟩:eH)]) h (by first|exact List.cons_ne_nil _ _|simp) rfl (λ_=>rfl) (by first|rfl|simp) (.w rfl (by first|rfl|exact lm _|simp)) rfl rfl rfl rfl rfl rfl rfl rfl rfl rfl)) bW rfl ?_
   refine wI ?_
   refine wA (spx 100015) ?_
   cases H
   refine dy ?_
   refine ay (dS 213) ?_
   exact wo
  cases H
  refine dF (λhq=>?_)
  cases hq
  refine wI ?_
  exact wo
 cases H
 refine bV (wS 213 210) ?_
 exact bO
theorem LR {a0:aM} {r:aM} (H:oS a0=some r):Fn prog 209 [.agg (gI a0)] [.agg [.d (.l (r.aR.map cQ))]]:=by
 refine fI func209 ntmps209 ?_
 refine aa H λv5 Hj H=>jB ⟨[(2,tP 1),(3,tP 2)],[(1,.var 26 [.nil]),(2,.var 26 [.wn 3 v5.length]),(3,Oz v5)],4⟩ ?_ ?_
 .refine iT Hj (λq=>⟨[(1,tP 0),(2,tP 1),(3,tP 2),(4,tI q.1)],[(0,.var 26 [.d false (.l (a0.aR.map cQ))]),(1,.var 26 [.nil]),(2,.var 26 [.wn 3 q.2.length]),(3,Oz q.2)],4⟩) ?_ (by refine ay (dE (o:=2) (j:=0) 158 2 true) ?_;refine ay (wB 3 (([]:List eH).length)) ?_;exact wo)
  rintro⟨v1,v2⟩ o H
  try dsimp only
  refine wI ?_
  refine cC H ?_ ?_<;>intro H
  .refine zI (List.range 21) ?_
   refine aa H λx6 hx6 H=>zA (xdT (enc:=cQ) hx6) ?_
   refine aa H λx7 hx7 H=>zA (xdT (enc:=cQ) hx7) ?_
   obtain⟨h,H⟩:=rq H
   refine wA (FG (enc:=eI) (ys:=([]:List Int)) (zs:=x7.bX) [4] h) ?_
   obtain⟨h,H⟩:=rq H
   refine uf (ds:=[4]) (by kernel_rfl) (by kernel_rfl) rfl (by kernel_rfl) bW (hP rfl (B4 (enc:=cQ) (ys:=v2) (zs:=[(⟨x6.fB,(([]:List Int)++x7.bX)⟩:eH)]) h (by first|exact List.cons_ne_nil _ _|simp) rfl (λ_=>rfl) (by first|rfl|simp) (.w rfl (by first|rfl|exact lm _|simp)) rfl rfl rfl rfl rfl rfl rfl rfl rfl rfl)) bW rfl ?_
   refine wI ?_
   refine wA (spx 100025) ?_
   cases H
   refine dy ?_
   refine ay (dS 3) ?_
   exact wo
  cases H
  refine dF (λhq=>?_)
  cases hq
  refine wI ?_
  exact wo
 cases H
 refine cU (eZ 3) ?_
 exact dT
def uC (a0:me) (a1:Int):Option aD:=
 some {w6 with c9:=a0,bg:=a1,bI:={dO with bz:=1}}
theorem HV {a0:me} {a1:Int} {r:aD} (H:uC a0 a1=some r):Fn prog 210 [.agg (Hb a0),aI a1] [.agg (qM [.z,.z] (db r))]:=by
 refine fI func210 ntmps210 ?_
 exact ao H
def tW (a0:bk):Option bk:=
 bif dh 8 (([]:List Int)++a0.bj).length then(some {a0 with bj:=(([]:List Int)++a0.bj)}) else none
theorem Ey {a0:bk} {r:bk} (H:tW a0=some r):Fn prog 273 [.agg (gL a0)] [.agg (qM [.o] (dD r))]:=by
 refine fI func273 ntmps273 ?_
 obtain⟨h,H⟩:=rq H
 refine eX rfl (apT (enc:=eI) (ys:=([]:List Int)) (zs:=a0.bj) h) ?_
 refine aW (iX (enc:=eI) (o:=3)) ?_
 exact ao H
def tO (v:List (Int×List Int)) (a b:Int):Option (List (Int×List Int)):=
 YL (ix v a) λx=>bif dh 8 (x.2++[b]).length then(YL (ix (v.set a.toNat (x.1,x.2++[b])) b) λy=>bif dh 8 (y.2++[a]).length then some ((v.set a.toNat (x.1,x.2++[b])).set b.toNat (y.1,y.2++[a])) else none) else none
theorem Kj {v r:List (Int×List Int)} {a b fi fh:Int} {n:Nat} {fb:List (List D)} (H:tO v a b=some r) (hn:v.length=n):
 ∃c,Tryz.f213.body=some c/\AWC prog 34 c ⟨[(0,.v (.agg [.wn 222 n])),(1,tI a),(2,tI b)],[(200,.var 148 [.d false (.l fb),.d false (.i .i64 fi),.d false (.i .i64 fh)]),(202,.var 26 [.nil]),(203,.var 26 [.wn 222 n]),(222,.cxo 222 158 3 v none)],223⟩
  (vr 34 prog [] [(200,.var 148 [.d false (.l fb),.d false (.i .i64 fi),.d false (.i .i64 fh)]),(202,.var 26 [.nil]),(203,.var 26 [.wn 222 n]),(222,.cxo 222 158 3 r none)] (.tup []) []):=by
 refine⟨_,rfl,?_⟩
 refine wkz ?_
 obtain⟨⟨x1,x2⟩,hx,H⟩:=ob H
 obtain⟨h,H⟩:=rq H
 have hxx:=(ixE hx).2
 refine vz ⟨[(1,tI a),(2,tI b),(3,.v (.c (.p 223 0)))],[(200,.var 148 [.d false (.l fb),.d false (.i .i64 fi),.d false (.i .i64 fh)]),(202,.var 26 [.nil]),(203,.var 26 [.wn 222 n]),(223,.var 26 [.wn 222 n]),(222,.cxo 222 158 3 (v.set a.toNat (x1,x2++[b])) none)],224⟩ ?_ ?_
 .refine IG (o:=222) (i:=a.toNat) (e:=(x1,x2)) rfl hxx rfl rfl rfl rfl rfl rfl (λhnil=>?_) (λk cc=>?_)
  .simp only at hnil
   subst hnil
   refine ua [0,1,2,3,4,5,6,7,8,9,10,11,12,13,14] Try.follows (by kernel_rfl) (by kernel_rfl) rfl ?_
   refine wkz ?_
   refine lM rfl (oY hx rfl rfl hn rfl) ?_
   refine wkz ?_
   refine lM rfl (olh hxx rfl rfl rfl) ?_
   refine wkz ?_
   refine lM rfl (apNk (zs:=[b]) [224] h (by simp) rfl rfl (.w rfl rfl) rfl rfl rfl rfl) ?_
   refine wkz ?_
   refine lM rfl (oY hx rfl rfl hn rfl) ?_
   refine wkz ?_
   refine Ha (by kernel_rfl) rfl (by kernel_rfl) bW (hP rfl (JK (o:=222) (s:=225) (ys:=[b]) rfl rfl rfl rfl rfl hxx (.inr ⟨_,_,_,rfl⟩) rfl rfl rfl rfl rfl rfl rfl)) bW rfl ?_
   refine wkz ?_
   exact ev ⟨rfl,rfl,rfl,rfl,rfl,rfl,trivial⟩ ⟨rfl,⟨rfl,rfl⟩,rfl,⟨rfl,rfl⟩,rfl,⟨rfl,rfl⟩,rfl,⟨rfl,rfl⟩,rfl,⟨rfl,rfl⟩,trivial⟩
  refine ua [0,1,2,3,4,5,6,7,8,9,10,11,12,13,14] Try.follows (by kernel_rfl) (by kernel_rfl) rfl ?_
  refine wkz ?_
  refine lM rfl (oY hx rfl rfl hn rfl) ?_
  refine wkz ?_
  refine lM rfl (olh hxx rfl rfl rfl) ?_
  refine wkz ?_
  refine B5 rfl (apk (q:=224) (xs:=x2) (zs:=[b]) [224,225] h rfl rfl rfl (.w rfl rfl) rfl rfl rfl rfl rfl rfl) ?_
  refine wkz ?_
  refine lM rfl (oY hx rfl rfl hn rfl) ?_
  refine wkz ?_
  refine uf (ds:=[224]) (by kernel_rfl) (by kernel_rfl) rfl (by kernel_rfl) bW (hP rfl (JK (o:=222) (s:=226) (ys:=x2++[b]) rfl rfl rfl rfl rfl hxx (.inr ⟨_,_,_,rfl⟩) rfl rfl rfl rfl rfl rfl rfl)) bW rfl ?_
  refine wkz ?_
  exact ev ⟨rfl,rfl,rfl,rfl,rfl,rfl,trivial⟩ ⟨rfl,⟨rfl,rfl⟩,rfl,⟨rfl,rfl⟩,rfl,⟨rfl,rfl⟩,rfl,⟨rfl,rfl⟩,rfl,⟨rfl,rfl⟩,trivial⟩
 refine wkz ?_
 obtain⟨⟨y1,y2⟩,hy,H⟩:=ob H
 obtain⟨h',H⟩:=rq H
 have hyy:=(ixE hy).2
 have hn':(v.set a.toNat (x1,x2++[b])).length=n:=by simpa using hn
 refine vz ⟨[],[(200,.var 148 [.d false (.l fb),.d false (.i .i64 fi),.d false (.i .i64 fh)]),(202,.var 26 [.nil]),(203,.var 26 [.wn 222 n]),(222,.cxo 222 158 3 ((v.set a.toNat (x1,x2++[b])).set b.toNat (y1,y2++[a])) none)],223⟩ ?_ ?_
 .refine IG (o:=222) (i:=b.toNat) (e:=(y1,y2)) rfl hyy rfl rfl rfl rfl rfl rfl (λhnil=>?_) (λk cc=>?_)
  .simp only at hnil
   subst hnil
   refine ua [0,1,2,3,4,5,6,7,8,9,10,11,12,13,14] Try.follows (by kernel_rfl) (by kernel_rfl) rfl ?_
   refine wkz ?_
   refine lM rfl (oY hy rfl rfl hn' rfl) ?_
   refine wkz ?_
   refine lM rfl (olh hyy rfl rfl rfl) ?_
   refine wkz ?_
   refine lM rfl (apNk (zs:=[a]) [224] h' (by simp) rfl rfl (.w rfl rfl) rfl rfl rfl rfl) ?_
   refine wkz ?_
   refine lM rfl (oY hy rfl rfl hn' rfl) ?_
   refine wkz ?_
   refine Ha (by kernel_rfl) rfl (by kernel_rfl) bW (hP rfl (JK (o:=222) (s:=225) (ys:=[a]) rfl rfl rfl rfl rfl hyy (.inr ⟨_,_,_,rfl⟩) rfl rfl rfl rfl rfl rfl rfl)) bW rfl ?_
   refine wkz ?_
   exact ev trivial ⟨rfl,⟨rfl,rfl⟩,rfl,⟨rfl,rfl⟩,rfl,⟨rfl,rfl⟩,rfl,⟨rfl,rfl⟩,trivial⟩
  refine ua [0,1,2,3,4,5,6,7,8,9,10,11,12,13,14] Try.follows (by kernel_rfl) (by kernel_rfl) rfl ?_
  refine wkz ?_
  refine lM rfl (oY hy rfl rfl hn' rfl) ?_
  refine wkz ?_
  refine lM rfl (olh hyy rfl rfl rfl) ?_
  refine wkz ?_
  refine B5 rfl (apk (q:=224) (xs:=y2) (zs:=[a]) [224,225] h' rfl rfl rfl (.w rfl rfl) rfl rfl rfl rfl rfl rfl) ?_
  refine wkz ?_
  refine lM rfl (oY hy rfl rfl hn' rfl) ?_
  refine wkz ?_
  refine uf (ds:=[224]) (by kernel_rfl) (by kernel_rfl) rfl (by kernel_rfl) bW (hP rfl (JK (o:=222) (s:=226) (ys:=y2++[a]) rfl rfl rfl rfl rfl hyy (.inr ⟨_,_,_,rfl⟩) rfl rfl rfl rfl rfl rfl rfl)) bW rfl ?_
  refine wkz ?_
  exact ev trivial ⟨rfl,⟨rfl,rfl⟩,rfl,⟨rfl,rfl⟩,rfl,⟨rfl,rfl⟩,rfl,⟨rfl,rfl⟩,trivial⟩
 cases H
 refine wkz ?_
 exact vI .nil rfl rfl ⟨rfl,rfl,rfl,rfl,trivial⟩ trivial
theorem p6 {v r:List (Int×List Int)} {a b:Int} (H:tO v a b=some r):r.length=v.length:=by
 unfold tO at H
 obtain⟨x,hx,H⟩:=ob H
 obtain⟨h,H⟩:=rq H
 obtain⟨y,hy,H⟩:=ob H
 obtain⟨h',H⟩:=rq H
 cases H
 simp
def oC (a0:List bm):(Int×List bm)->Option (cf (Int×List bm) (List bm))
 |(v1,v2)=>bif ltB v1 (a0.length:Int) then(YL (ix a0 v1) λx5=>bif dh 1 (([]:List Int)++x5.aS).length then(bif dh 24 (v2++[(⟨(([]:List Int)++x5.aS)⟩:bm)]).length then(some (.next (WR (v1+1),(v2++[(⟨(([]:List Int)++x5.aS)⟩:bm)])))) else none) else none) else(some (.done v2))
def qP (a0:List bm):Option (List bm):=
 YL (iter (oC a0) FU (0,([]:List bm))) λ(v4:List bm)=>some v4
theorem Ap {a0:List bm} {r:List bm} (H:qP a0=some r):Fn prog 274 [aL (a0.map cd)] [.c (.own 125 1 (r.map cd) r.length)]:=by
 refine fI func274 ntmps274 ?_
 refine aa H λv4 Hj H=>jB ⟨[(3,.v (.c (.w 0 v4.length)))],[(0,SO v4)],1⟩ ?_ ?_
 .refine iT Hj (λq=>⟨[(0,.v (.c (.d false (.l (a0.map cd))))),(3,.v (.c (.w 0 q.2.length))),(4,tI q.1)],[(0,SO q.2)],1⟩) ?_
  rintro⟨v1,v2⟩ o H
  try dsimp only
  refine wI ?_
  refine cC H ?_ ?_<;>intro H
  .refine aa H λx5 hx5 H=>nA (xdT (enc:=cd) hx5) ?_
   obtain⟨h,H⟩:=rq H
   refine eX rfl (apT (enc:=eU8) (ys:=([]:List Int)) (zs:=x5.aS) h) ?_
   refine aW (iX (enc:=eU8) (o:=1)) ?_
   refine bH (aU (o:=1)) ?_
   refine aW (cj (k:=20)) ?_
   obtain⟨h,H⟩:=rq H
   refine sA (apT (enc:=cd) (ys:=v2) (zs:=[(⟨(([]:List Int)++x5.aS)⟩:bm)]) h) ?_
   cases H
   refine dy ?_
   exact wo
  cases H
  refine dF (λhq=>?_)
  cases hq
  refine wI ?_
  exact wo
 exact ao H
def p7 (a0:List ae):(Int×List ae)->Option (cf (Int×List ae) (List ae))
 |(v1,v2)=>bif ltB v1 (a0.length:Int) then(YL (ix a0 v1) λx6=>YL (ix a0 v1) λx7=>bif dh 1 (([]:List Int)++x7.aS).length then(bif dh 32 (v2++[(⟨x6.cV,(([]:List Int)++x7.aS)⟩:ae)]).length then(some (.next (WR (v1+1),(v2++[(⟨x6.cV,(([]:List Int)++x7.aS)⟩:ae)])))) else none) else none) else(some (.done v2))
def tT (a0:List ae):Option (List ae):=
 YL (iter (p7 a0) FU (0,([]:List ae))) λ(v5:List ae)=>some v5
theorem BX {a0:List ae} {r:List ae} (H:tT a0=some r):Fn prog 322 [aL (a0.map av)] [.c (.own 144 2 (r.map av) r.length)]:=by
 refine fI func322 ntmps322 ?_
 refine aa H λv5 Hj H=>jB ⟨[(3,.v (.c (.w 0 v5.length)))],[(0,SQ v5)],1⟩ ?_ ?_
 .refine iT Hj (λq=>⟨[(0,.v (.c (.d false (.l (a0.map av))))),(3,.v (.c (.w 0 q.2.length))),(4,tI q.1)],[(0,SQ q.2)],1⟩) ?_
  rintro⟨v1,v2⟩ o H
  try dsimp only
  refine wI ?_
  refine cC H ?_ ?_<;>intro H
  .refine zI (List.range 17) ?_
   refine aa H λx6 hx6 H=>zA (xdT (enc:=av) hx6) ?_
   refine aa H λx7 hx7 H=>zA (xdT (enc:=av) hx7) ?_
   obtain⟨h,H⟩:=rq H
   refine wA (FG (enc:=eU8) (ys:=([]:List Int)) (zs:=x7.aS) [1] h) ?_
   obtain⟨h,H⟩:=rq H
   refine wA (apx (enc:=av) (ys:=v2) (zs:=[(⟨x6.cV,(([]:List Int)++x7.aS)⟩:ae)]) [0,3] h) ?_
   refine lD (ds:=[1,0]) (by kernel_rfl) (by kernel_rfl) rfl ?_
   refine wI ?_
   cases H
   refine dy ?_
   refine ay (wS 0 4) ?_
   exact wo
  cases H
  refine dF (λhq=>?_)
  cases hq
  refine wI ?_
  exact wo
 exact ao H
def Ew (a0:List Int):Option bm:=
 bif dh 1 (([]:List Int)++a0).length then(some (⟨(([]:List Int)++a0)⟩:bm)) else none
theorem LX {a0:List Int} {r:bm} (H:Ew a0=some r):Fn prog 216 [aL (a0.map eU8)] [.agg [.own 5 1 (r.aS.map eU8) r.aS.length]]:=by
 refine fI func216 ntmps216 ?_
 obtain⟨h,H⟩:=rq H
 refine eX rfl (apT (enc:=eU8) (ys:=([]:List Int)) (zs:=a0) h) ?_
 refine aW (iX (enc:=eU8) (o:=1)) ?_
 exact ao H
def lB (a0:aD) (a1:aH):Option bh:=
 some (⟨{a0 with f5:=3},[a1]⟩:bh)
theorem qS {a0:aD} {a1:aH} {r:bh} (H:lB a0 a1=some r):FnV prog 219 [] [.v (.agg (kM [.f,.f] (db a0))),.v (.agg (kM [] (cY a1)))] [] (.v (.agg (kM [.f,.f,.w 210] (cL r)))) [(210,w42 r.dX)]:=by
 refine fV func219 ntmps219 ?_
 cases H
 refine bV (wS 213 210) ?_
 refine bV ((wB 210 [a1].length)) ?_
 exact bO
def qQ (a0:aD):Option aH:=
 some {d6 with aV:=1,bg:=a0.bg}
theorem Av {a0:aD} {r:aH} (H:qQ a0=some r):Fn prog 220 [.agg (cI a0)] [.agg (qM [] (cY r))]:=by
 refine fI func220 ntmps220 ?_
 exact ao H
def Au (a0:aC):Option aC:=
 bif dh 1 (([]:List Int)++a0.bp.aS).length then(some {a0 with bp:={a0.bp with aS:=(([]:List Int)++a0.bp.aS)}}) else none
theorem LY {a0:aC} {r:aC} (H:Au a0=some r):Fn prog 277 [.agg (dR a0)] [.agg (qM [.o] (lh r))]:=by
 refine fI func277 ntmps277 ?_
 obtain⟨h,H⟩:=rq H
 refine eX rfl (apT (enc:=eU8) (ys:=([]:List Int)) (zs:=a0.bp.aS) h) ?_
 refine aW (iX (enc:=eU8) (o:=3)) ?_
 exact ao H
def lA (a0:am):Option am:=
 bif dh 16 (([]:List aE)++a0.aq).length then(some {a0 with aq:=(([]:List aE)++a0.aq)}) else none
theorem lU {a0:am} {r:am} (H:lA a0=some r):Fn prog 233 [.agg (cp a0)] [.agg (qM [.o] (cG r))]:=by
 refine fI func233 ntmps233 ?_
 obtain⟨h,H⟩:=rq H
 refine eX rfl (apT (enc:=aZ) (ys:=([]:List aE)) (zs:=a0.aq) h) ?_
 refine aW (iX (enc:=aZ) (o:=3)) ?_
 exact ao H
def yK (a0:Int) (a1:Int):Option Int:=
 bif ltB a1 a0 then(some a1) else(some a0)
theorem wu {a0:Int} {a1:Int} {r:Int} (H:yK a0 a1=some r):Fn prog 153 [aI a0,aI a1] [.c (.d (.i .i64 r))]:=by
 refine fI func153 ntmps153 ?_
 refine cC H ?_ ?_<;>intro H
 .exact ao H
 exact ao H
def D9 (a0:Int) (a1:Int):Option Int:=
 bif ltB a0 a1 then(some a1) else(some a0)
theorem Be {a0:Int} {a1:Int} {r:Int} (H:D9 a0 a1=some r):Fn prog 234 [aI a0,aI a1] [.c (.d (.i .i64 r))]:=by
 refine fI func234 ntmps234 ?_
 refine cC H ?_ ?_<;>intro H
 .exact ao H
 exact ao H
def lZ (a0:List Int) (a1:List Int):Option Bool:=
 some (strB (vj a0) (vj a1))
theorem s7 {a0:List Int} {a1:List Int} {r:Bool} (H:lZ a0 a1=some r):Fn prog 264 [aL (a0.map eU8),aL (a1.map eU8)] [.c (.d (.b r))]:=by
 refine fI func264 ntmps264 ?_
 exact ao H
def uJ (a0:List ae):(Int×Int)->Option (cf (Int×Int) (Int))
 |(v1,v2)=>bif ltB v2 (a0.length:Int) then(YL (ix a0 v2) λx5=>some (.next (WR (v1+(x5.aS.length:Int)),WR (v2+1)))) else(some (.done v1))
def oh (a0:List ae):Option Int:=
 YL (iter (uJ a0) FU (0,0)) λ(v4:Int)=>some v4
theorem sC {a0:List ae} {r:Int} (H:oh a0=some r):Fn prog 320 [aL (a0.map av)] [.c (.d (.i .i64 r))]:=by
 refine fI func320 ntmps320 ?_
 refine aa H λv4 Hj H=>jB ⟨[(3,tI v4)],[],0⟩ ?_ ?_
 .refine iT Hj (λq=>⟨[(0,.v (.c (.d false (.l (a0.map av))))),(3,tI q.1),(4,tI q.2)],[],0⟩) ?_
  rintro⟨v1,v2⟩ o H
  try dsimp only
  refine wI ?_
  refine cC H ?_ ?_<;>intro H
  .refine aa H λx5 hx5 H=>nA (xdT (enc:=av) hx5) ?_
   cases H
   refine dy ?_
   exact wo
  cases H
  refine dF (λhq=>?_)
  cases hq
  refine wI ?_
  exact wo
 exact ao H
def nr (a0:am):(Int×Int)->Option (cf (Int×Int) (Int))
 |(v1,v2)=>bif ltB v2 (a0.aq.length:Int) then(YL (ix a0.aq v2) λx5=>some (.next (WR (v1+x5.dV),WR (v2+1)))) else(some (.done v1))
def nq (a0:am):Option Int:=
 YL (iter (nr a0) FU (0,0)) λ(v4:Int)=>some v4
theorem Bj {a0:am} {r:Int} (H:nq a0=some r):Fn prog 271 [.agg (cp a0)] [.c (.d (.i .i64 r))]:=by
 refine fI func271 ntmps271 ?_
 refine aa H λv4 Hj H=>jB ⟨[(3,tI v4)],[],0⟩ ?_ ?_
 .refine iT Hj (λq=>⟨[(1,tP 0),(3,tI q.1),(4,tI q.2)],[(0,.var 89 (kM [.f] (cG a0)))],1⟩) ?_
  rintro⟨v1,v2⟩ o H
  try dsimp only
  refine wI ?_
  refine cC H ?_ ?_<;>intro H
  .refine aa H λx5 hx5 H=>nA (xdT (enc:=aZ) hx5) ?_
   cases H
   refine dy ?_
   exact wo
  cases H
  refine dF (λhq=>?_)
  cases hq
  refine wI ?_
  exact wo
 exact ao H
def sv (a0:am) (a1:Int):Int->Option (cf (Int) (Int))
 |v1=>bif ltB v1 (a0.aq.length:Int) then(YL (ix a0.aq v1) λx2=>bif eqB x2.ax a1 then(dn (some v1)) else(some (.next (WR (v1+1))))) else(dn (some (-1)))
def oT (a0:am) (a1:Int):Option Int:=
 iter (sv a0 a1) FU 0
theorem yU {a0:am} {a1:Int} {r:Int} (H:oT a0 a1=some r):Fn prog 321 [.agg (cp a0),aI a1] [.c (.d (.i .i64 r))]:=by
 refine fI func321 ntmps321 ?_
 refine iT H (λq=>⟨[(1,tI a1),(2,tP 0),(5,tI q)],[(0,.var 89 (kM [.f] (cG a0)))],1⟩) ?_
 rintro v1 o H
 try dsimp only
 refine wI ?_
 refine cC H ?_ ?_<;>intro H
 .refine aa H λx2 hx2 H=>nA (xdT (enc:=aZ) hx2) ?_
  refine cC H ?_ ?_<;>intro H
  .obtain⟨r0,Hd,rfl⟩:=dnE H
   refine f6 (λhq=>?_)
   have H:=Hd.trans (congrArg some hq)
   refine wI ?_
   exact ao H
  cases H
  refine dy ?_
  exact wo
 obtain⟨r0,Hd,rfl⟩:=dnE H
 refine dF (λhq=>?_)
 have H:=Hd.trans (congrArg some hq)
 refine wI ?_
 exact ao H
def jo (a0:List Int):(Int×List Int)->Option (cf (Int×List Int) (List Int))
 |(v1,v2)=>bif ltB v1 (a0.length:Int) then(YL (ix a0 v1) λx5=>bif dh 8 (v2++[WR (x5)]).length then(some (.next (WR (v1+1),(v2++[WR (x5)])))) else none) else(some (.done v2))
def pT (a0:List Int):Option (List Int):=
 YL (iter (jo a0) FU (0,[(a0.length:Int)])) λ(v4:List Int)=>some v4
theorem D4 {a0:List Int} {r:List Int} (H:pT a0=some r):Fn prog 311 [aL (a0.map eU8)] [.c (.own 3 1 (r.map eI) r.length)]:=by
 refine fI func311 ntmps311 ?_
 refine aa H λv4 Hj H=>jB ⟨[(3,.v (.c (.w 0 v4.length)))],[(0,w3 v4)],1⟩ ?_ ?_
 .refine iT Hj (λq=>⟨[(0,.v (.c (.d false (.l (a0.map eU8))))),(3,.v (.c (.w 0 q.2.length))),(4,tI q.1)],[(0,w3 q.2)],1⟩) ?_
  rintro⟨v1,v2⟩ o H
  try dsimp only
  refine wI ?_
  refine cC H ?_ ?_<;>intro H
  .refine aa H λx5 hx5 H=>nA (xdT (enc:=eU8) hx5) ?_
   obtain⟨h,H⟩:=rq H
   refine sA (apT (enc:=eI) (ys:=v2) (zs:=[WR (x5)]) h) ?_
   cases H
   refine dy ?_
   exact wo
  cases H
  refine dF (λhq=>?_)
  cases hq
  refine wI ?_
  exact wo
 exact ao H
def s9 (a0:Int):Option jk:=
 some (⟨[1,3,a0]⟩:jk)
theorem Cj {a0:Int} {r:jk} (H:s9 a0=some r):Fn prog 249 [aI a0] [.agg [.own 3 1 (r.Steps.map eI) r.Steps.length]]:=by
 refine fI func249 ntmps249 ?_
 cases H
 refine cU (wB 1 ([1,3,a0].length)) ?_
 exact dT
def nn:Option jk:=
 some (⟨[1,2]⟩:jk)
theorem xT {r:jk} (H:nn=some r):Fn prog 313 [] [.agg [.own 3 1 (r.Steps.map eI) r.Steps.length]]:=by
 refine fI func313 ntmps313 ?_
 cases H
 refine cU (wB 1 ([1,2].length)) ?_
 exact dT
end Go.AM
