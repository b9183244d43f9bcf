/- A part. -/
import Derived.Test.YtbfpkbncbebapaaGreatG
set_option linter.unusedVariables false
open Option renaming bind->aaC
namespace Go.AM
open Go.Proofs
open Tryz
attribute [local irreducible] AWN NS AWO AWR AWC DR dO ip
set_option maxRecDepth 100000
set_option maxHeartbeats 40000000
def uv (a0:List Int):(Int×Int)->Option (cK (Int×Int) (Int))
 |(v1,v2)=>aaC (bif ltB v2 (a0.length:Int) then(some (ltB v2 4000)) else(some false)) λ(v6:Bool)=>bif v6 then(aaC (ix a0 v2) λx7=>some (.next (yw .i64 (WR ((WR ((WR (v1*137))+(WR (x7))))+11)) 1073741823,WR (v2+1)))) else(some (.done v1))
def Iz (a0:List Int):Option bV:=
 aaC (iter (uv a0) FU (WR (193017+(a0.length:Int)),0)) λ(v5:Int)=>some (⟨a0,0,v5⟩:bV)
theorem Ud {a0:List Int} {r:bV} (H:Iz a0=some r):FnN prog 45 [aL (a0.map eU8)] 148 (Vj r):=by
 refine Xw func45 (hN:=ntmps45) (h:=?_)
 refine wI ?_
 refine aa H λv5 Hj H=>jB ⟨[(0,.v (.c (.d false (.l (a0.map eU8))))),(3,tI v5)],[],0⟩ ?_ ?_
 .refine iT Hj (λq=>⟨[(0,.v (.c (.d false (.l (a0.map eU8))))),(3,tI q.1),(4,tI q.2)],[],0⟩) ?_
  rintro⟨v1,v2⟩ o H
  try dsimp only
  refine wI ?_
  refine aa H λv6 Hj H=>jR ⟨[(0,.v (.c (.d false (.l (a0.map eU8))))),(3,tI v1),(4,tI v2),(15,tB v6)],[],0⟩ ?_ ?_
  .refine gC Hj ?_ ?_<;>intro H
   .exact ai H
   exact ai H
  refine cC H ?_ ?_<;>intro H
  .refine aa H λx7 hx7 H=>nA (xdT (enc:=eU8) hx7) ?_
   cases H
   refine eA ?_
   exact wo
  cases H
  refine et (λhq=>?_)
  cases hq
  refine wI ?_
  exact wo
 cases H
 exact R6
def sX (a0:bV):Option (Int×bV):=
 aaC (bif ltB a0.fi (a0.fb.length:Int) then(aaC (ix a0.fb a0.fi) λx3=>some (yw .i64 (WR ((yw .i64 (Jn .i64 (Cc .i64 (WR ((WR (a0.fh*6364136223846793005))+1442695040888963407)) 33) (Cc .i64 (WR ((WR (a0.fh*6364136223846793005))+1442695040888963407)) 47)) 255)+(WR (x3)))) 255,WR (a0.fi+1))) else(some (yw .i64 (Jn .i64 (Cc .i64 (WR ((WR (a0.fh*6364136223846793005))+1442695040888963407)) 33) (Cc .i64 (WR ((WR (a0.fh*6364136223846793005))+1442695040888963407)) 47)) 255,a0.fi))) λ((v1,v2):Int×Int)=>some (v1,(⟨a0.fb,v2,WR ((WR (a0.fh*6364136223846793005))+1442695040888963407)⟩:bV))
theorem ut {a0:bV} {r:Int×bV} (H:sX a0=some r):FnW prog 144 (.var 148 (kM [.f] (eh a0))) [tP 200] (.var 148 (kM [.f] (eh r.2))) [.c (.d (.i .i64 r.1))]:=by
 refine fW func144 ntmps144 ?_
 refine dI ?_
 refine dA (ishL (b:=33) rfl rfl rfl rfl) ?_
 refine dA (ishL (b:=47) rfl rfl rfl rfl) ?_
 refine wI ?_
 refine dI ?_
 refine wI ?_
 obtain⟨⟨v1,v2⟩,Hj,H⟩:=ob H
 refine jA ⟨[(3,tI v1)],[(200,.var 148 (kM [.f] (eh (⟨a0.fb,v2,WR ((WR (a0.fh*6364136223846793005))+1442695040888963407)⟩:bV))))],210⟩ ?_ ?_
 .refine cC Hj ?_ ?_<;>intro H
  .refine dI ?_
   refine aa H λx3 hx3 H=>dA (xdT (enc:=eU8) hx3) ?_
   refine wI ?_
   exact ai H
  exact ai H
 cases H
 exact pf
def nX (a0:Int) (a1:Int) (a2:Int):Option Bool:=
 aaC (bif leB a1 a0 then(some (leB a0 a2)) else(some false)) λ(v1:Bool)=>some v1
theorem jL {a0:Int} {a1:Int} {a2:Int} {r:Bool} (H:nX a0 a1 a2=some r):Fn prog 55 [aI a0,aI a1,aI a2] [.c (.d (.b r))]:=by
 refine fI func55 ntmps55 ?_
 refine aa H λv1 Hj H=>jR ⟨[(6,tB v1)],[],0⟩ ?_ ?_
 .refine gC Hj ?_ ?_<;>intro H
  .exact ai H
  exact ai H
 exact ao H
def y3 (a0:List Int) (a1:Int):Int->Option (cK (Int) (Bool))
 |v1=>bif ltB v1 (a0.length:Int) then(aaC (ix a0 v1) λx2=>bif eqB x2 a1 then(dn (some true)) else(some (.next (WR (v1+1))))) else(dn (some false))
def Aq (a0:List Int) (a1:Int):Option Bool:=
 iter (y3 a0 a1) FU 0
theorem Bv {a0:List Int} {a1:Int} {r:Bool} (H:Aq a0 a1=some r):Fn prog 202 [aL (a0.map eI),aI a1] [.c (.d (.b r))]:=by
 refine fI func202 ntmps202 ?_
 refine iT H (λq=>⟨[(0,.v (.c (.d false (.l (a0.map eI))))),(1,tI a1),(5,tI q)],[],0⟩) ?_
 rintro v1 o H
 try dsimp only
 refine wI ?_
 refine cC H ?_ ?_<;>intro H
 .refine aa H λx2 hx2 H=>nA (xdT (enc:=eI) hx2) ?_
  refine cC H ?_ ?_<;>intro H
  .obtain⟨r0,Hd,rfl⟩:=dnE H
   refine mR (λhq=>?_)
   have H:=Hd.trans (congrArg some hq)
   refine wI ?_
   exact ao H
  cases H
  refine eA ?_
  exact wo
 obtain⟨r0,Hd,rfl⟩:=dnE H
 refine et (λhq=>?_)
 have H:=Hd.trans (congrArg some hq)
 refine wI ?_
 exact ao H
def pF (a0:aU):(Int×List eY)->Option (cK (Int×List eY) (List eY))
 |(v1,v2)=>bif ltB v1 (a0.aZ.length:Int) then(aaC (ix a0.aZ v1) λx6=>aaC (ix a0.aZ v1) λx7=>bif em 8 (([]:List Int)++x7.b8).length then(bif em 32 (v2++[(⟨x6.fJ,(([]:List Int)++x7.b8)⟩:eY)]).length then(some (.next (WR (v1+1),(v2++[(⟨x6.fJ,(([]:List Int)++x7.b8)⟩:eY)])))) else none) else none) else(some (.done v2))
def Ao (a0:aU):Option aU:=
 aaC (iter (pF a0) FU (0,([]:List eY))) λ(v5:List eY)=>some (⟨v5⟩:aU)
theorem MN {a0:aU} {r:aU} (H:Ao a0=some r):FnV prog 209 [] [.v (.agg [.d false (.l (a0.aZ.map dL))])] [] (.v (.agg [.wn 210 r.aZ.length])) [(210,VD r.aZ)]:=by
 refine fV func209 ntmps209 ?_
 refine aa H λv5 Hj H=>jB ⟨[(2,tP 211),(3,tP 212)],[(211,.var 26 [.nil]),(212,.var 26 [.wn 213 v5.length]),(213,VD v5)],214⟩ ?_ ?_
 .refine iT Hj (λq=>⟨[(1,tP 210),(2,tP 211),(3,tP 212),(4,tI q.1)],[(210,.var 26 [.d false (.l (a0.aZ.map dL))]),(211,.var 26 [.nil]),(212,.var 26 [.wn 213 q.2.length]),(213,VD q.2)],214⟩) ?_ (by refine aH (gU (o:=212) (j:=0) 158 2 true) ?_;refine aH (wB 213 (([]:List eY).length)) ?_;exact wo)
  rintro⟨v1,v2⟩ o H
  try dsimp only
  refine wI ?_
  refine cC H ?_ ?_<;>intro H
  .refine zI (List.range 21) ?_
   refine aa H λx6 hx6 H=>zA (xdT (enc:=dL) hx6) ?_
   refine aa H λx7 hx7 H=>zA (xdT (enc:=dL) hx7) ?_
   obtain⟨h,H⟩:=rq H
   refine wA (WG (enc:=eI) (ys:=([]:List Int)) (zs:=x7.b8) [214] h) ?_
   obtain⟨h,H⟩:=rq H
   refine HE (ds:=[214]) (by kernel_rfl) (by kernel_rfl) rfl (by kernel_rfl) b7 (jp rfl (Hn (enc:=dL) (ys:=v2) (zs:=[(⟨x6.fJ,(([]:List Int)++x7.b8)⟩:eY)]) h (by first|exact List.cons_ne_nil _ _|simp) rfl (λ_=>rfl) (by first|rfl|simp) (.w rfl (by first|rfl|exact lm _|simp)) rfl rfl rfl rfl rfl rfl rfl rfl rfl rfl)) b7 rfl ?_
   refine wI ?_
   refine wA (spx 100015) ?_
   cases H
   refine eA ?_
   refine aH (lk 213) ?_
   exact wo
  cases H
  refine et (λhq=>?_)
  cases hq
  refine wI ?_
  exact wo
 cases H
 refine bO (wS 213 210) ?_
 exact cV
def vj (a0:qf) (a1:Int):Option aw:=
 some {xh with cZ:=a0,aE:=a1,aT:={dV with bb:=1}}
theorem Ir {a0:qf} {a1:Int} {r:aw} (H:vj a0 a1=some r):Fn prog 210 [.agg (LW a0),aI a1] [.agg (qM [.z,.z] (fL r))]:=by
 refine fI func210 ntmps210 ?_
 exact ao H
def uy (a0:bz):Option bz:=
 bif em 8 (([]:List Int)++a0.bv).length then(some {a0 with bv:=(([]:List Int)++a0.bv)}) else none
theorem EO {a0:bz} {r:bz} (H:uy a0=some r):Fn prog 273 [.agg (kL a0)] [.agg (qM [.o] (dw r))]:=by
 refine fI func273 ntmps273 ?_
 obtain⟨h,H⟩:=rq H
 refine fK rfl (apT (enc:=eI) (ys:=([]:List Int)) (zs:=a0.bv) h) ?_
 refine aW (ki (enc:=eI) (o:=3)) ?_
 exact ao H
def ur (v:List (Int×List Int)) (a b:Int):Option (List (Int×List Int)):=
 aaC (ix v a) λx=>bif em 8 (x.2++[b]).length then(aaC (ix (v.set a.toNat (x.1,x.2++[b])) b) λy=>bif em 8 (y.2++[a]).length then some ((v.set a.toNat (x.1,x.2++[b])).set b.toNat (y.1,y.2++[a])) else none) else none
theorem K2 {v r:List (Int×List Int)} {a b fi fh:Int} {n:Nat} {fb:List (List D)} (H:ur v a b=some r) (hn:v.length=n):
 ∃c,Tryz.f213.body=some c/\AWC prog 34 c ⟨[(0,.v (.agg [.wn 222 n])),(1,tI a),(2,tI b)],[(200,.var 148 [.d false (.l fb),.d false (.i .i64 fi),.d false (.i .i64 fh)]),(202,.var 26 [.nil]),(203,.var 26 [.wn 222 n]),(222,.cxo 222 158 3 v none)],223⟩
  (vW 34 prog [] [(200,.var 148 [.d false (.l fb),.d false (.i .i64 fi),.d false (.i .i64 fh)]),(202,.var 26 [.nil]),(203,.var 26 [.wn 222 n]),(222,.cxo 222 158 3 r none)] (.tup []) []):=by
 refine⟨_,rfl,?_⟩
 refine wkz ?_
 obtain⟨⟨x1,x2⟩,hx,H⟩:=ob H
 obtain⟨h,H⟩:=rq H
 have hxx:=(ixE hx).2
 refine wb ⟨[(1,tI a),(2,tI b),(3,.v (.c (.p 223 0)))],[(200,.var 148 [.d false (.l fb),.d false (.i .i64 fi),.d false (.i .i64 fh)]),(202,.var 26 [.nil]),(203,.var 26 [.wn 222 n]),(223,.var 26 [.wn 222 n]),(222,.cxo 222 158 3 (v.set a.toNat (x1,x2++[b])) none)],224⟩ ?_ ?_
 .refine Jl (o:=222) (i:=a.toNat) (e:=(x1,x2)) rfl hxx rfl rfl rfl rfl rfl rfl (λhnil=>?_) (λk cc=>?_)
  .simp only at hnil
   subst hnil
   refine mz [0,1,2,3,4,5,6,7,8,9,10,11,12,13,14] Try.follows (by kernel_rfl) (by kernel_rfl) rfl ?_
   refine wkz ?_
   refine iS rfl (CB hx rfl rfl hn rfl) ?_
   refine wkz ?_
   refine iS rfl (olh hxx rfl rfl rfl) ?_
   refine wkz ?_
   refine iS rfl (apNk (zs:=[b]) [224] h (by simp) rfl rfl (.w rfl rfl) rfl rfl rfl rfl) ?_
   refine wkz ?_
   refine iS rfl (CB hx rfl rfl hn rfl) ?_
   refine wkz ?_
   refine AU (by kernel_rfl) rfl (by kernel_rfl) b7 (jp rfl (Kr (o:=222) (s:=225) (ys:=[b]) rfl rfl rfl rfl rfl hxx (.inr ⟨_,_,_,rfl⟩) rfl rfl rfl rfl rfl rfl rfl)) b7 rfl ?_
   refine wkz ?_
   exact eF ⟨rfl,rfl,rfl,rfl,rfl,rfl,trivial⟩ ⟨rfl,⟨rfl,rfl⟩,rfl,⟨rfl,rfl⟩,rfl,⟨rfl,rfl⟩,rfl,⟨rfl,rfl⟩,rfl,⟨rfl,rfl⟩,trivial⟩
  refine mz [0,1,2,3,4,5,6,7,8,9,10,11,12,13,14] Try.follows (by kernel_rfl) (by kernel_rfl) rfl ?_
  refine wkz ?_
  refine iS rfl (CB hx rfl rfl hn rfl) ?_
  refine wkz ?_
  refine iS rfl (olh hxx rfl rfl rfl) ?_
  refine wkz ?_
  refine tg rfl (apk (q:=224) (xs:=x2) (zs:=[b]) [224,225] h rfl rfl rfl (.w rfl rfl) rfl rfl rfl rfl rfl rfl) ?_
  refine wkz ?_
  refine iS rfl (CB hx rfl rfl hn rfl) ?_
  refine wkz ?_
  refine HE (ds:=[224]) (by kernel_rfl) (by kernel_rfl) rfl (by kernel_rfl) b7 (jp rfl (Kr (o:=222) (s:=226) (ys:=x2++[b]) rfl rfl rfl rfl rfl hxx (.inr ⟨_,_,_,rfl⟩) rfl rfl rfl rfl rfl rfl rfl)) b7 rfl ?_
  refine wkz ?_
  exact eF ⟨rfl,rfl,rfl,rfl,rfl,rfl,trivial⟩ ⟨rfl,⟨rfl,rfl⟩,rfl,⟨rfl,rfl⟩,rfl,⟨rfl,rfl⟩,rfl,⟨rfl,rfl⟩,rfl,⟨rfl,rfl⟩,trivial⟩
 refine wkz ?_
 obtain⟨⟨y1,y2⟩,hy,H⟩:=ob H
 obtain⟨h',H⟩:=rq H
 have hyy:=(ixE hy).2
 have hn':(v.set a.toNat (x1,x2++[b])).length=n:=by simpa using hn
 refine wb ⟨[],[(200,.var 148 [.d false (.l fb),.d false (.i .i64 fi),.d false (.i .i64 fh)]),(202,.var 26 [.nil]),(203,.var 26 [.wn 222 n]),(222,.cxo 222 158 3 ((v.set a.toNat (x1,x2++[b])).set b.toNat (y1,y2++[a])) none)],223⟩ ?_ ?_
 .refine Jl (o:=222) (i:=b.toNat) (e:=(y1,y2)) rfl hyy rfl rfl rfl rfl rfl rfl (λhnil=>?_) (λk cc=>?_)
  .simp only at hnil
   subst hnil
   refine mz [0,1,2,3,4,5,6,7,8,9,10,11,12,13,14] Try.follows (by kernel_rfl) (by kernel_rfl) rfl ?_
   refine wkz ?_
   refine iS rfl (CB hy rfl rfl hn' rfl) ?_
   refine wkz ?_
   refine iS rfl (olh hyy rfl rfl rfl) ?_
   refine wkz ?_
   refine iS rfl (apNk (zs:=[a]) [224] h' (by simp) rfl rfl (.w rfl rfl) rfl rfl rfl rfl) ?_
   refine wkz ?_
   refine iS rfl (CB hy rfl rfl hn' rfl) ?_
   refine wkz ?_
   refine AU (by kernel_rfl) rfl (by kernel_rfl) b7 (jp rfl (Kr (o:=222) (s:=225) (ys:=[a]) rfl rfl rfl rfl rfl hyy (.inr ⟨_,_,_,rfl⟩) rfl rfl rfl rfl rfl rfl rfl)) b7 rfl ?_
   refine wkz ?_
   exact eF trivial ⟨rfl,⟨rfl,rfl⟩,rfl,⟨rfl,rfl⟩,rfl,⟨rfl,rfl⟩,rfl,⟨rfl,rfl⟩,trivial⟩
  refine mz [0,1,2,3,4,5,6,7,8,9,10,11,12,13,14] Try.follows (by kernel_rfl) (by kernel_rfl) rfl ?_
  refine wkz ?_
  refine iS rfl (CB hy rfl rfl hn' rfl) ?_
  refine wkz ?_
  refine iS rfl (olh hyy rfl rfl rfl) ?_
  refine wkz ?_
  refine tg rfl (apk (q:=224) (xs:=y2) (zs:=[a]) [224,225] h' rfl rfl rfl (.w rfl rfl) rfl rfl rfl rfl rfl rfl) ?_
  refine wkz ?_
  refine iS rfl (CB hy rfl rfl hn' rfl) ?_
  refine wkz ?_
  refine HE (ds:=[224]) (by kernel_rfl) (by kernel_rfl) rfl (by kernel_rfl) b7 (jp rfl (Kr (o:=222) (s:=226) (ys:=y2++[a]) rfl rfl rfl rfl rfl hyy (.inr ⟨_,_,_,rfl⟩) rfl rfl rfl rfl rfl rfl rfl)) b7 rfl ?_
  refine wkz ?_
  exact eF trivial ⟨rfl,⟨rfl,rfl⟩,rfl,⟨rfl,rfl⟩,rfl,⟨rfl,rfl⟩,rfl,⟨rfl,rfl⟩,trivial⟩
 cases H
 refine wkz ?_
 exact rf .nil rfl rfl ⟨rfl,rfl,rfl,rfl,trivial⟩ trivial
theorem qC {v r:List (Int×List Int)} {a b:Int} (H:ur v a b=some r):r.length=v.length:=by
 unfold ur at H
 obtain⟨x,hx,H⟩:=ob H
 obtain⟨h,H⟩:=rq H
 obtain⟨y,hy,H⟩:=ob H
 obtain⟨h',H⟩:=rq H
 cases H
 simp
def o6 (a0:List bm):(Int×List bm)->Option (cK (Int×List bm) (List bm))
 |(v1,v2)=>bif ltB v1 (a0.length:Int) then(aaC (ix a0 v1) λx5=>bif em 1 (([]:List Int)++x5.a8).length then(bif em 24 (v2++[(⟨(([]:List Int)++x5.a8)⟩:bm)]).length then(some (.next (WR (v1+1),(v2++[(⟨(([]:List Int)++x5.a8)⟩:bm)])))) else none) else none) else(some (.done v2))
def rR (a0:List bm):Option (List bm):=
 aaC (iter (o6 a0) FU (0,([]:List bm))) λ(v4:List bm)=>some v4
theorem Ar {a0:List bm} {r:List bm} (H:rR a0=some r):Fn prog 274 [aL (a0.map cg)] [.c (.own 125 1 (r.map cg) r.length)]:=by
 refine fI func274 ntmps274 ?_
 refine aa H λv4 Hj H=>jB ⟨[(3,.v (.c (.w 0 v4.length)))],[(0,UF v4)],1⟩ ?_ ?_
 .refine iT Hj (λq=>⟨[(0,.v (.c (.d false (.l (a0.map cg))))),(3,.v (.c (.w 0 q.2.length))),(4,tI q.1)],[(0,UF q.2)],1⟩) ?_
  rintro⟨v1,v2⟩ o H
  try dsimp only
  refine wI ?_
  refine cC H ?_ ?_<;>intro H
  .refine aa H λx5 hx5 H=>nA (xdT (enc:=cg) hx5) ?_
   obtain⟨h,H⟩:=rq H
   refine fK rfl (apT (enc:=eU8) (ys:=([]:List Int)) (zs:=x5.a8) h) ?_
   refine aW (ki (enc:=eU8) (o:=1)) ?_
   refine bN (bw (o:=1)) ?_
   refine aW (bJ (k:=20)) ?_
   obtain⟨h,H⟩:=rq H
   refine sA (apT (enc:=cg) (ys:=v2) (zs:=[(⟨(([]:List Int)++x5.a8)⟩:bm)]) h) ?_
   cases H
   refine eA ?_
   exact wo
  cases H
  refine et (λhq=>?_)
  cases hq
  refine wI ?_
  exact wo
 exact ao H
def qE (a0:List an):(Int×List an)->Option (cK (Int×List an) (List an))
 |(v1,v2)=>bif ltB v1 (a0.length:Int) then(aaC (ix a0 v1) λx6=>aaC (ix a0 v1) λx7=>bif em 1 (([]:List Int)++x7.a8).length then(bif em 32 (v2++[(⟨x6.cQ,(([]:List Int)++x7.a8)⟩:an)]).length then(some (.next (WR (v1+1),(v2++[(⟨x6.cQ,(([]:List Int)++x7.a8)⟩:an)])))) else none) else none) else(some (.done v2))
def ux (a0:List an):Option (List an):=
 aaC (iter (qE a0) FU (0,([]:List an))) λ(v5:List an)=>some v5
theorem B6 {a0:List an} {r:List an} (H:ux a0=some r):Fn prog 322 [aL (a0.map aN)] [.c (.own 144 2 (r.map aN) r.length)]:=by
 refine fI func322 ntmps322 ?_
 refine aa H λv5 Hj H=>jB ⟨[(3,.v (.c (.w 0 v5.length)))],[(0,Lr v5)],1⟩ ?_ ?_
 .refine iT Hj (λq=>⟨[(0,.v (.c (.d false (.l (a0.map aN))))),(3,.v (.c (.w 0 q.2.length))),(4,tI q.1)],[(0,Lr q.2)],1⟩) ?_
  rintro⟨v1,v2⟩ o H
  try dsimp only
  refine wI ?_
  refine cC H ?_ ?_<;>intro H
  .refine zI (List.range 17) ?_
   refine aa H λx6 hx6 H=>zA (xdT (enc:=aN) hx6) ?_
   refine aa H λx7 hx7 H=>zA (xdT (enc:=aN) hx7) ?_
   obtain⟨h,H⟩:=rq H
   refine wA (WG (enc:=eU8) (ys:=([]:List Int)) (zs:=x7.a8) [1] h) ?_
   obtain⟨h,H⟩:=rq H
   refine wA (apx (enc:=aN) (ys:=v2) (zs:=[(⟨x6.cQ,(([]:List Int)++x7.a8)⟩:an)]) [0,3] h) ?_
   refine Vh (ds:=[1,0]) (by kernel_rfl) (by kernel_rfl) rfl ?_
   refine wI ?_
   cases H
   refine eA ?_
   refine aH (wS 0 4) ?_
   exact wo
  cases H
  refine et (λhq=>?_)
  cases hq
  refine wI ?_
  exact wo
 exact ao H
def EL (a0:List Int):Option bm:=
 bif em 1 (([]:List Int)++a0).length then(some (⟨(([]:List Int)++a0)⟩:bm)) else none
theorem MT {a0:List Int} {r:bm} (H:EL a0=some r):Fn prog 216 [aL (a0.map eU8)] [.agg [.own 5 1 (r.a8.map eU8) r.a8.length]]:=by
 refine fI func216 ntmps216 ?_
 obtain⟨h,H⟩:=rq H
 refine fK rfl (apT (enc:=eU8) (ys:=([]:List Int)) (zs:=a0) h) ?_
 refine aW (ki (enc:=eU8) (o:=1)) ?_
 exact ao H
def EN (a0:aw) (a1:aR):Option bg:=
 some (⟨{a0 with di:=3},[a1]⟩:bg)
theorem MW {a0:aw} {a1:aR} {r:bg} (H:EN a0 a1=some r):FnV prog 219 [] [.v (.agg (kM [.f,.f] (fL a0))),.v (.agg (kM [] (ig a1)))] [] (.v (.agg (kM [.f,.f,.w 210] (cM r)))) [(210,w42 r.bL)]:=by
 refine fV func219 ntmps219 ?_
 cases H
 refine bO (wS 213 210) ?_
 refine bO ((wB 210 [a1].length)) ?_
 exact cV
def y4 (a0:aw):Option aR:=
 some {fG with aS:=1,aE:=a0.aE}
theorem IB {a0:aw} {r:aR} (H:y4 a0=some r):Fn prog 220 [.agg (dq a0)] [.agg (qM [] (ig r))]:=by
 refine fI func220 ntmps220 ?_
 exact ao H
def Aw (a0:aK):Option aK:=
 bif em 1 (([]:List Int)++a0.cj.a8).length then(some {a0 with cj:={a0.cj with a8:=(([]:List Int)++a0.cj.a8)}}) else none
theorem MU {a0:aK} {r:aK} (H:Aw a0=some r):Fn prog 277 [.agg (d5 a0)] [.agg (qM [.o] (lS r))]:=by
 refine fI func277 ntmps277 ?_
 obtain⟨h,H⟩:=rq H
 refine fK rfl (apT (enc:=eU8) (ys:=([]:List Int)) (zs:=a0.cj.a8) h) ?_
 refine aW (ki (enc:=eU8) (o:=3)) ?_
 exact ao H
def MG (a0:Int) (a1:Int):Option Int:=
 bif ltB a1 a0 then(some a1) else(some a0)
theorem Yj {a0:Int} {a1:Int} {r:Int} (H:MG a0 a1=some r):Fn prog 153 [aI a0,aI a1] [.c (.d (.i .i64 r))]:=by
 refine fI func153 ntmps153 ?_
 refine cC H ?_ ?_<;>intro H
 .exact ao H
 exact ao H
end Go.AM
