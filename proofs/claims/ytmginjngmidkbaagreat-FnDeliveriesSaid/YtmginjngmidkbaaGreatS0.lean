/- A part. -/
import Derived.Test.YtmginjngmidkbaaGreatG
set_option linter.unusedVariables false
open Option renaming bind->abU
namespace Go.AM
open Go.Proofs
open Tryz
attribute [local irreducible] AWN NS AWO AWR AWC DR ea gL
set_option maxRecDepth 100000
set_option maxHeartbeats 40000000
variable {r a1:Int}
def vL (a0:List Int):(Int×Int)->Option (cq (Int×Int) (Int))
 |(v1,v2)=>abU (bif ltB v2 (a0.length:Int) then(some (ltB v2 4000)) else(some false)) λ(v6:Bool)=>bif v6 then(abU (ix a0 v2) λx7=>some (.next (AT .i64 (WR ((WR ((WR (v1*137))+(WR (x7))))+11)) 1073741823,WR (v2+1)))) else(some (.done v1))
def Ld (a0:List Int):Option bm:=
 abU (iter (vL a0) FU (WR (193017+(a0.length:Int)),0)) λ(v5:Int)=>some (⟨a0,0,v5⟩:bm)
theorem VG {a0:List Int} {r:bm} (H:Ld a0=some r):FnN prog 32 [aL (a0.map eU8)] 135 (WO r):=by
 refine YW func32 (hN:=ntmps32) (h:=?_)
 refine wI ?_
 refine aa H λv5 Hj H=>jB ⟨[(0,.v (.c (.d false (.l (a0.map eU8))))),(3,tI v5)],[],0⟩ ?_ ?_
 .refine iT Hj (λq=>⟨[(0,.v (.c (.d false (.l (a0.map eU8))))),(3,tI q.1),(4,tI q.2)],[],0⟩) ?_
  rintro⟨v1,v2⟩ o H
  refine ad ?_
  refine aa H λv6 Hj H=>jR ⟨[(0,.v (.c (.d false (.l (a0.map eU8))))),(3,tI v1),(4,tI v2),(15,tB v6)],[],0⟩ ?_ ?_
  .exact az Hj
  refine cC H ?_ ?_<;>intro H
  .refine aa H λx7 hx7 H=>nA (xdT (enc:=eU8) hx7) ?_
   exact aN H
  exact aE H
 cases H
 exact TZ
def ug (a0:bm):Option (Int×bm):=
 abU (bif ltB a0.fi (a0.fb.length:Int) then(abU (ix a0.fb a0.fi) λx3=>some (AT .i64 (WR ((AT .i64 (J5 .i64 (FQ .i64 (WR ((WR (a0.fh*6364136223846793005))+1442695040888963407)) 33) (FQ .i64 (WR ((WR (a0.fh*6364136223846793005))+1442695040888963407)) 47)) 255)+(WR (x3)))) 255,WR (a0.fi+1))) else(some (AT .i64 (J5 .i64 (FQ .i64 (WR ((WR (a0.fh*6364136223846793005))+1442695040888963407)) 33) (FQ .i64 (WR ((WR (a0.fh*6364136223846793005))+1442695040888963407)) 47)) 255,a0.fi))) λ((v1,v2):Int×Int)=>some (v1,(⟨a0.fb,v2,WR ((WR (a0.fh*6364136223846793005))+1442695040888963407)⟩:bm))
theorem vK {a0:bm} {r:Int×bm} (H:ug a0=some r):FnW prog 188 (.var 135 (kM [.f] (ci a0))) [tP 200] (.var 135 (kM [.f] (ci r.2))) [.c (.d (.i .i64 r.1))]:=by
 refine fW func188 ntmps188 ?_
 refine dI ?_
 refine dA (ishL (b:=33) rfl rfl rfl rfl) ?_
 refine dA (ishL (b:=47) rfl rfl rfl rfl) ?_
 refine wI ?_
 refine dI ?_
 refine wI ?_
 obtain⟨⟨v1,v2⟩,Hj,H⟩:=ob H
 refine jA ⟨[(3,tI v1)],[(200,.var 135 (kM [.f] (ci (⟨a0.fb,v2,WR ((WR (a0.fh*6364136223846793005))+1442695040888963407)⟩:bm))))],210⟩ ?_ ?_
 .refine cC Hj ?_ ?_<;>intro H
  .refine dI ?_
   refine aa H λx3 hx3 H=>dA (xdT (enc:=eU8) hx3) ?_
   refine wI ?_
   exact ai H
  exact ai H
 cases H
 exact f4
def dB (a0:Int) (a1:Int) (a2:Int):Option Bool:=
 abU (bif leB a1 a0 then(some (leB a0 a2)) else(some false)) λ(v1:Bool)=>some v1
theorem cm {a0:Int} {a2:Int} {r:Bool} (H:dB a0 a1 a2=some r):Fn prog 73 [aI a0,aI a1,aI a2] [.c (.d (.b r))]:=by
 refine fI func73 ntmps73 ?_
 refine aa H λv1 Hj H=>jR ⟨[(6,tB v1)],[],0⟩ ?_ ?_
 .exact az Hj
 exact ao H
def Bn (a0:List Int) (a1:Int):Int->Option (cq (Int) (Bool))
 |v1=>bif ltB v1 (a0.length:Int) then(abU (ix a0 v1) λx2=>bif eqB x2 a1 then(dn (some true)) else(some (.next (WR (v1+1))))) else(dn (some false))
def CJ (a0:List Int) (a1:Int):Option Bool:=
 iter (Bn a0 a1) FU 0
theorem D3 {a0:List Int} {r:Bool} (H:CJ a0 a1=some r):Fn prog 202 [aL (a0.map eI),aI a1] [.c (.d (.b r))]:=by
 refine fI func202 ntmps202 ?_
 refine iT H (λq=>⟨[(0,.v (.c (.d false (.l (a0.map eI))))),(1,tI a1),(5,tI q)],[],0⟩) ?_
 rintro v1 o H
 refine ad ?_
 refine cC H ?_ ?_<;>intro H
 .refine aa H λx2 hx2 H=>nA (xdT (enc:=eI) hx2) ?_
  refine cC H ?_ ?_<;>intro H
  .exact aQ H
  exact aN H
 exact aQ H
def jJ (a0:aS):(Int×List fr)->Option (cq (Int×List fr) (List fr))
 |(v1,v2)=>bif ltB v1 (a0.aX.length:Int) then(abU (ix a0.aX v1) λx6=>abU (ix a0.aX v1) λx7=>bif c8 8 (([]:List Int)++x7.cr).length then(bif c8 32 (v2++[(⟨x6.fJ,(([]:List Int)++x7.cr)⟩:fr)]).length then(some (.next (WR (v1+1),(v2++[(⟨x6.fJ,(([]:List Int)++x7.cr)⟩:fr)])))) else none) else none) else(some (.done v2))
def qt (a0:aS):Option aS:=
 abU (iter (jJ a0) FU (0,([]:List fr))) λ(v5:List fr)=>some (⟨v5⟩:aS)
theorem OX {a0:aS} {r:aS} (H:qt a0=some r):FnV prog 183 [] [.v (.agg [.d false (.l (a0.aX.map dy))])] [] (.v (.agg [.wn 210 r.aX.length])) [(210,RB r.aX)]:=by
 refine fV func183 ntmps183 ?_
 refine aa H λv5 Hj H=>jB ⟨[(2,tP 211),(3,tP 212)],[(211,.var 26 [.nil]),(212,.var 26 [.wn 213 v5.length]),(213,RB v5)],214⟩ ?_ ?_
 .refine iT Hj (λq=>⟨[(1,tP 210),(2,tP 211),(3,tP 212),(4,tI q.1)],[(210,.var 26 [.d false (.l (a0.aX.map dy))]),(211,.var 26 [.nil]),(212,.var 26 [.wn 213 q.2.length]),(213,RB q.2)],214⟩) ?_ (by refine aq (dY (o:=212) (j:=0) 147 2 true) ?_;refine aq (wB 213 (([]:List fr).length)) ?_;exact wo)
  rintro⟨v1,v2⟩ o H
  refine ad ?_
  refine cC H ?_ ?_<;>intro H
  .refine zI (List.range 21) ?_
   refine aa H λx6 hx6 H=>zA (xdT (enc:=dy) hx6) ?_
   refine aa H λx7 hx7 H=>zA (xdT (enc:=dy) hx7) ?_
   obtain⟨h,H⟩:=rq H
   refine wA (IM (enc:=eI) (ys:=([]:List Int)) (zs:=x7.cr) [214] h) ?_
   obtain⟨h,H⟩:=rq H
   refine wi (ds:=[214]) (by kernel_rfl) (by kernel_rfl) rfl (by kernel_rfl) b8 (gG rfl (EI (enc:=dy) (ys:=v2) (zs:=[(⟨x6.fJ,(([]:List Int)++x7.cr)⟩:fr)]) h (by first|exact List.cons_ne_nil _ _|simp) rfl (λ_=>rfl) (by first|rfl|simp) (.w rfl (by first|rfl|exact lm _|simp)) rfl rfl rfl rfl rfl rfl rfl rfl rfl rfl)) b8 rfl ?_
   refine wI ?_
   refine wA (spx 100015) ?_
   cases H
   refine uQ ?_
   refine aq (ee 213) ?_
   exact wo
  exact aE H
 cases H
 refine co (wS 213 210) ?_
 exact cd
theorem OY {a0:aS} {r:aS} (H:qt a0=some r):Fn prog 183 [.agg (iw a0)] [.agg [.d (.l (r.aX.map dy))]]:=by
 refine fI func183 ntmps183 ?_
 refine aa H λv5 Hj H=>jB ⟨[(2,tP 1),(3,tP 2)],[(1,.var 26 [.nil]),(2,.var 26 [.wn 3 v5.length]),(3,RB v5)],4⟩ ?_ ?_
 .refine iT Hj (λq=>⟨[(1,tP 0),(2,tP 1),(3,tP 2),(4,tI q.1)],[(0,.var 26 [.d false (.l (a0.aX.map dy))]),(1,.var 26 [.nil]),(2,.var 26 [.wn 3 q.2.length]),(3,RB q.2)],4⟩) ?_ (by refine aq (dY (o:=2) (j:=0) 147 2 true) ?_;refine aq (wB 3 (([]:List fr).length)) ?_;exact wo)
  rintro⟨v1,v2⟩ o H
  refine ad ?_
  refine cC H ?_ ?_<;>intro H
  .refine zI (List.range 21) ?_
   refine aa H λx6 hx6 H=>zA (xdT (enc:=dy) hx6) ?_
   refine aa H λx7 hx7 H=>zA (xdT (enc:=dy) hx7) ?_
   obtain⟨h,H⟩:=rq H
   refine wA (IM (enc:=eI) (ys:=([]:List Int)) (zs:=x7.cr) [4] h) ?_
   obtain⟨h,H⟩:=rq H
   refine wi (ds:=[4]) (by kernel_rfl) (by kernel_rfl) rfl (by kernel_rfl) b8 (gG rfl (EI (enc:=dy) (ys:=v2) (zs:=[(⟨x6.fJ,(([]:List Int)++x7.cr)⟩:fr)]) h (by first|exact List.cons_ne_nil _ _|simp) rfl (λ_=>rfl) (by first|rfl|simp) (.w rfl (by first|rfl|exact lm _|simp)) rfl rfl rfl rfl rfl rfl rfl rfl rfl rfl)) b8 rfl ?_
   refine wI ?_
   refine wA (spx 100025) ?_
   cases H
   refine uQ ?_
   refine aq (ee 3) ?_
   exact wo
  exact aE H
 cases H
 refine du (fU 3) ?_
 exact dW
def wV (a0:kZ) (a1:Int):Option aJ:=
 some {zE with df:=a0,be:=a1,bV:={c7 with bB:=1}}
theorem K3 {a0:kZ} {r:aJ} (H:wV a0 a1=some r):Fn prog 246 [.agg (Ge a0),aI a1] [.agg (qM [.z,.z] (dt r))]:=by
 refine fI func246 ntmps246 ?_
 exact ao H
def vP (a0:bD):Option bD:=
 bif c8 8 (([]:List Int)++a0.bC).length then(some {a0 with bC:=(([]:List Int)++a0.bC)}) else none
theorem HH {a0:bD} {r:bD} (H:vP a0=some r):Fn prog 256 [.agg (iA a0)] [.agg (qM [.o] (dX r))]:=by
 refine fI func256 ntmps256 ?_
 obtain⟨h,H⟩:=rq H
 refine fG rfl (apT (enc:=eI) (ys:=([]:List Int)) (zs:=a0.bC) h) ?_
 refine aW (iR (enc:=eI) (o:=3)) ?_
 exact ao H
def vJ (v:List (Int×List Int)) (a b:Int):Option (List (Int×List Int)):=
 abU (ix v a) λx=>bif c8 8 (x.2++[b]).length then(abU (ix (v.set a.toNat (x.1,x.2++[b])) b) λy=>bif c8 8 (y.2++[a]).length then some ((v.set a.toNat (x.1,x.2++[b])).set b.toNat (y.1,y.2++[a])) else none) else none
theorem Nm {v r:List (Int×List Int)} {a b fi fh:Int} {n:Nat} {fb:Lad} (H:vJ v a b=some r) (hn:v.length=n):
 ∃c,Tryz.f249.body=some c/\AWC prog 34 c ⟨[(0,.v (.agg [.wn 222 n])),(1,tI a),(2,tI b)],[(200,.var 135 [.d false (.l fb),.d false (.i .i64 fi),.d false (.i .i64 fh)]),(202,.var 26 [.nil]),(203,.var 26 [.wn 222 n]),(222,.cxo 222 147 3 v none)],223⟩
  (xU 34 prog [] [(200,.var 135 [.d false (.l fb),.d false (.i .i64 fi),.d false (.i .i64 fh)]),(202,.var 26 [.nil]),(203,.var 26 [.wn 222 n]),(222,.cxo 222 147 3 r none)] (.tup []) []):=by
 refine⟨_,rfl,?_⟩
 refine wkz ?_
 obtain⟨⟨x1,x2⟩,hx,H⟩:=ob H
 obtain⟨h,H⟩:=rq H
 have hxx:=(ixE hx).2
 refine xZ ⟨[(1,tI a),(2,tI b),(3,.v (.c (.p 223 0)))],[(200,.var 135 [.d false (.l fb),.d false (.i .i64 fi),.d false (.i .i64 fh)]),(202,.var 26 [.nil]),(203,.var 26 [.wn 222 n]),(223,.var 26 [.wn 222 n]),(222,.cxo 222 147 3 (v.set a.toNat (x1,x2++[b])) none)],224⟩ ?_ ?_
 .refine LI (o:=222) (i:=a.toNat) (e:=(x1,x2)) rfl hxx rfl rfl rfl rfl rfl rfl (λhnil=>?_) (λk cc=>?_)
  .simp only at hnil
   subst hnil
   refine nO [0,1,2,3,4,5,6,7,8,9,10,11,12,13,14] Try.follows (by kernel_rfl) (by kernel_rfl) rfl ?_
   refine wkz ?_
   refine iS rfl (qy hx rfl rfl hn rfl) ?_
   refine wkz ?_
   refine iS rfl (olh hxx rfl rfl rfl) ?_
   refine wkz ?_
   refine iS rfl (apNk (zs:=[b]) [224] h (by simp) rfl rfl (.w rfl rfl) rfl rfl rfl rfl) ?_
   refine wkz ?_
   refine iS rfl (qy hx rfl rfl hn rfl) ?_
   refine wkz ?_
   refine Gd (by kernel_rfl) rfl (by kernel_rfl) b8 (gG rfl (MJ (o:=222) (s:=225) (ys:=[b]) rfl rfl rfl rfl rfl hxx (.inr ⟨_,_,_,rfl⟩) rfl rfl rfl rfl rfl rfl rfl)) b8 rfl ?_
   refine wkz ?_
   exact eV ⟨rfl,rfl,rfl,rfl,rfl,rfl,trivial⟩ ⟨rfl,⟨rfl,rfl⟩,rfl,⟨rfl,rfl⟩,rfl,⟨rfl,rfl⟩,rfl,⟨rfl,rfl⟩,rfl,⟨rfl,rfl⟩,trivial⟩
  refine nO [0,1,2,3,4,5,6,7,8,9,10,11,12,13,14] Try.follows (by kernel_rfl) (by kernel_rfl) rfl ?_
  refine wkz ?_
  refine iS rfl (qy hx rfl rfl hn rfl) ?_
  refine wkz ?_
  refine iS rfl (olh hxx rfl rfl rfl) ?_
  refine wkz ?_
  refine uF rfl (apk (q:=224) (xs:=x2) (zs:=[b]) [224,225] h rfl rfl rfl (.w rfl rfl) rfl rfl rfl rfl rfl rfl) ?_
  refine wkz ?_
  refine iS rfl (qy hx rfl rfl hn rfl) ?_
  refine wkz ?_
  refine wi (ds:=[224]) (by kernel_rfl) (by kernel_rfl) rfl (by kernel_rfl) b8 (gG rfl (MJ (o:=222) (s:=226) (ys:=x2++[b]) rfl rfl rfl rfl rfl hxx (.inr ⟨_,_,_,rfl⟩) rfl rfl rfl rfl rfl rfl rfl)) b8 rfl ?_
  refine wkz ?_
  exact eV ⟨rfl,rfl,rfl,rfl,rfl,rfl,trivial⟩ ⟨rfl,⟨rfl,rfl⟩,rfl,⟨rfl,rfl⟩,rfl,⟨rfl,rfl⟩,rfl,⟨rfl,rfl⟩,rfl,⟨rfl,rfl⟩,trivial⟩
 refine wkz ?_
 obtain⟨⟨y1,y2⟩,hy,H⟩:=ob H
 obtain⟨h',H⟩:=rq H
 have hyy:=(ixE hy).2
 have hn':(v.set a.toNat (x1,x2++[b])).length=n:=by simpa using hn
 refine xZ ⟨[],[(200,.var 135 [.d false (.l fb),.d false (.i .i64 fi),.d false (.i .i64 fh)]),(202,.var 26 [.nil]),(203,.var 26 [.wn 222 n]),(222,.cxo 222 147 3 ((v.set a.toNat (x1,x2++[b])).set b.toNat (y1,y2++[a])) none)],223⟩ ?_ ?_
 .refine LI (o:=222) (i:=b.toNat) (e:=(y1,y2)) rfl hyy rfl rfl rfl rfl rfl rfl (λhnil=>?_) (λk cc=>?_)
  .simp only at hnil
   subst hnil
   refine nO [0,1,2,3,4,5,6,7,8,9,10,11,12,13,14] Try.follows (by kernel_rfl) (by kernel_rfl) rfl ?_
   refine wkz ?_
   refine iS rfl (qy hy rfl rfl hn' rfl) ?_
   refine wkz ?_
   refine iS rfl (olh hyy rfl rfl rfl) ?_
   refine wkz ?_
   refine iS rfl (apNk (zs:=[a]) [224] h' (by simp) rfl rfl (.w rfl rfl) rfl rfl rfl rfl) ?_
   refine wkz ?_
   refine iS rfl (qy hy rfl rfl hn' rfl) ?_
   refine wkz ?_
   refine Gd (by kernel_rfl) rfl (by kernel_rfl) b8 (gG rfl (MJ (o:=222) (s:=225) (ys:=[a]) rfl rfl rfl rfl rfl hyy (.inr ⟨_,_,_,rfl⟩) rfl rfl rfl rfl rfl rfl rfl)) b8 rfl ?_
   refine wkz ?_
   exact eV trivial ⟨rfl,⟨rfl,rfl⟩,rfl,⟨rfl,rfl⟩,rfl,⟨rfl,rfl⟩,rfl,⟨rfl,rfl⟩,trivial⟩
  refine nO [0,1,2,3,4,5,6,7,8,9,10,11,12,13,14] Try.follows (by kernel_rfl) (by kernel_rfl) rfl ?_
  refine wkz ?_
  refine iS rfl (qy hy rfl rfl hn' rfl) ?_
  refine wkz ?_
  refine iS rfl (olh hyy rfl rfl rfl) ?_
  refine wkz ?_
  refine uF rfl (apk (q:=224) (xs:=y2) (zs:=[a]) [224,225] h' rfl rfl rfl (.w rfl rfl) rfl rfl rfl rfl rfl rfl) ?_
  refine wkz ?_
  refine iS rfl (qy hy rfl rfl hn' rfl) ?_
  refine wkz ?_
  refine wi (ds:=[224]) (by kernel_rfl) (by kernel_rfl) rfl (by kernel_rfl) b8 (gG rfl (MJ (o:=222) (s:=226) (ys:=y2++[a]) rfl rfl rfl rfl rfl hyy (.inr ⟨_,_,_,rfl⟩) rfl rfl rfl rfl rfl rfl rfl)) b8 rfl ?_
  refine wkz ?_
  exact eV trivial ⟨rfl,⟨rfl,rfl⟩,rfl,⟨rfl,rfl⟩,rfl,⟨rfl,rfl⟩,rfl,⟨rfl,rfl⟩,trivial⟩
 cases H
 refine wkz ?_
 exact mn .nil rfl rfl ⟨rfl,rfl,rfl,rfl,trivial⟩ trivial
theorem rO {v r:List (Int×List Int)} {a b:Int} (H:vJ v a b=some r):r.length=v.length:=by
 unfold vJ at H
 obtain⟨x,hx,H⟩:=ob H
 obtain⟨h,H⟩:=rq H
 obtain⟨y,hy,H⟩:=ob H
 obtain⟨h',H⟩:=rq H
 cases H
 simp
def pY (a0:List bM):(Int×List bM)->Option (cq (Int×List bM) (List bM))
 |(v1,v2)=>bif ltB v1 (a0.length:Int) then(abU (ix a0 v1) λx5=>bif c8 1 (([]:List Int)++x5.bg).length then(bif c8 24 (v2++[(⟨(([]:List Int)++x5.bg)⟩:bM)]).length then(some (.next (WR (v1+1),(v2++[(⟨(([]:List Int)++x5.bg)⟩:bM)])))) else none) else none) else(some (.done v2))
def s3 (a0:List bM):Option (List bM):=
 abU (iter (pY a0) FU (0,([]:List bM))) λ(v4:List bM)=>some v4
theorem CK {a0:List bM} {r:List bM} (H:s3 a0=some r):Fn prog 257 [aL (a0.map da)] [.c (.own 119 1 (r.map da) r.length)]:=by
 refine fI func257 ntmps257 ?_
 refine aa H λv4 Hj H=>jB ⟨[(3,.v (.c (.w 0 v4.length)))],[(0,V9 v4)],1⟩ ?_ ?_
 .refine iT Hj (λq=>⟨[(0,.v (.c (.d false (.l (a0.map da))))),(3,.v (.c (.w 0 q.2.length))),(4,tI q.1)],[(0,V9 q.2)],1⟩) ?_
  rintro⟨v1,v2⟩ o H
  refine ad ?_
  refine cC H ?_ ?_<;>intro H
  .refine aa H λx5 hx5 H=>nA (xdT (enc:=da) hx5) ?_
   obtain⟨h,H⟩:=rq H
   refine fG rfl (apT (enc:=eU8) (ys:=([]:List Int)) (zs:=x5.bg) h) ?_
   refine aW (iR (enc:=eU8) (o:=1)) ?_
   refine bQ (bb (o:=1)) ?_
   refine aW (b7 (k:=20)) ?_
   obtain⟨h,H⟩:=rq H
   refine sA (apT (enc:=da) (ys:=v2) (zs:=[(⟨(([]:List Int)++x5.bg)⟩:bM)]) h) ?_
   exact aN H
  exact aE H
 exact ao H
def rP (a0:List ae):(Int×List ae)->Option (cq (Int×List ae) (List ae))
 |(v1,v2)=>bif ltB v1 (a0.length:Int) then(abU (ix a0 v1) λx6=>abU (ix a0 v1) λx7=>bif c8 1 (([]:List Int)++x7.bg).length then(bif c8 32 (v2++[(⟨x6.cV,(([]:List Int)++x7.bg)⟩:ae)]).length then(some (.next (WR (v1+1),(v2++[(⟨x6.cV,(([]:List Int)++x7.bg)⟩:ae)])))) else none) else none) else(some (.done v2))
def vM (a0:List ae):Option (List ae):=
 abU (iter (rP a0) FU (0,([]:List ae))) λ(v5:List ae)=>some v5
theorem EC {a0:List ae} {r:List ae} (H:vM a0=some r):Fn prog 312 [aL (a0.map an)] [.c (.own 131 2 (r.map an) r.length)]:=by
 refine fI func312 ntmps312 ?_
 refine aa H λv5 Hj H=>jB ⟨[(3,.v (.c (.w 0 v5.length)))],[(0,NH v5)],1⟩ ?_ ?_
 .refine iT Hj (λq=>⟨[(0,.v (.c (.d false (.l (a0.map an))))),(3,.v (.c (.w 0 q.2.length))),(4,tI q.1)],[(0,NH q.2)],1⟩) ?_
  rintro⟨v1,v2⟩ o H
  refine ad ?_
  refine cC H ?_ ?_<;>intro H
  .refine zI (List.range 17) ?_
   refine aa H λx6 hx6 H=>zA (xdT (enc:=an) hx6) ?_
   refine aa H λx7 hx7 H=>zA (xdT (enc:=an) hx7) ?_
   obtain⟨h,H⟩:=rq H
   refine wA (IM (enc:=eU8) (ys:=([]:List Int)) (zs:=x7.bg) [1] h) ?_
   obtain⟨h,H⟩:=rq H
   refine wA (apx (enc:=an) (ys:=v2) (zs:=[(⟨x6.cV,(([]:List Int)++x7.bg)⟩:ae)]) [0,3] h) ?_
   refine mK (ds:=[1,0]) (by kernel_rfl) (by kernel_rfl) rfl ?_
   refine wI ?_
   cases H
   refine uQ ?_
   refine aq (wS 0 4) ?_
   exact wo
  exact aE H
 exact ao H
def HF (a0:List Int):Option bM:=
 bif c8 1 (([]:List Int)++a0).length then(some (⟨(([]:List Int)++a0)⟩:bM)) else none
theorem O3 {a0:List Int} {r:bM} (H:HF a0=some r):Fn prog 251 [aL (a0.map eU8)] [.agg [.own 5 1 (r.bg.map eU8) r.bg.length]]:=by
 refine fI func251 ntmps251 ?_
 obtain⟨h,H⟩:=rq H
 refine fG rfl (apT (enc:=eU8) (ys:=([]:List Int)) (zs:=a0) h) ?_
 refine aW (iR (enc:=eU8) (o:=1)) ?_
 exact ao H
def mH (a0:aJ) (a1:aD):Option a9:=
 some (⟨{a0 with eU:=3},[a1]⟩:a9)
theorem s6 {a0:aJ} {a1:aD} {r:a9} (H:mH a0 a1=some r):FnV prog 253 [] [.v (.agg (kM [.f,.f] (dt a0))),.v (.agg (kM [] (cP a1)))] [] (.v (.agg (kM [.f,.f,.w 210] (cf r)))) [(210,w43 r.db)]:=by
 refine fV func253 ntmps253 ?_
 cases H
 refine co (wS 213 210) ?_
 refine co ((wB 210 [a1].length)) ?_
 exact cd
def s4 (a0:aJ):Option aD:=
 some {dQ with a8:=1,be:=a0.be}
theorem CP {a0:aJ} {r:aD} (H:s4 a0=some r):Fn prog 254 [.agg (cS a0)] [.agg (qM [] (cP r))]:=by
 refine fI func254 ntmps254 ?_
 exact ao H
def CO (a0:aA):Option aA:=
 bif c8 1 (([]:List Int)++a0.bz.bg).length then(some {a0 with bz:={a0.bz with bg:=(([]:List Int)++a0.bz.bg)}}) else none
theorem O4 {a0:aA} {r:aA} (H:CO a0=some r):Fn prog 259 [.agg (dH a0)] [.agg (qM [.o] (jd r))]:=by
 refine fI func259 ntmps259 ?_
 obtain⟨h,H⟩:=rq H
 refine fG rfl (apT (enc:=eU8) (ys:=([]:List Int)) (zs:=a0.bz.bg) h) ?_
 refine aW (iR (enc:=eU8) (o:=3)) ?_
 exact ao H
def mG (a0:am):Option am:=
 bif c8 16 (([]:List aH)++a0.aj).length then(some {a0 with aj:=(([]:List aH)++a0.aj)}) else none
theorem nm {a0:am} {r:am} (H:mG a0=some r):Fn prog 186 [.agg (cN a0)] [.agg (qM [.o] (cZ r))]:=by
 refine fI func186 ntmps186 ?_
 obtain⟨h,H⟩:=rq H
 refine fG rfl (apT (enc:=bv) (ys:=([]:List aH)) (zs:=a0.aj) h) ?_
 refine aW (iR (enc:=bv) (o:=3)) ?_
 exact ao H
def Hk (a0:Int) (a1:Int):Option Int:=
 bif ltB a1 a0 then(some a1) else(some a0)
theorem DM {a0:Int} (H:Hk a0 a1=some r):Fn prog 131 [aI a0,aI a1] [.c (.d (.i .i64 r))]:=by
 refine fI func131 ntmps131 ?_
 exact ay H
def Hi (a0:Int) (a1:Int):Option Int:=
 bif ltB a0 a1 then(some a1) else(some a0)
theorem DL {a0:Int} (H:Hi a0 a1=some r):Fn prog 189 [aI a0,aI a1] [.c (.d (.i .i64 r))]:=by
 refine fI func189 ntmps189 ?_
 exact ay H
def qo (a0:List Int) (a1:List Int):Option Bool:=
 some (strB (xP a0) (xP a1))
theorem AF {a0:List Int} {a1:List Int} {r:Bool} (H:qo a0 a1=some r):Fn prog 288 [aL (a0.map eU8),aL (a1.map eU8)] [.c (.d (.b r))]:=by
 refine fI func288 ntmps288 ?_
 exact ao H
def w9 (a0:List ae):(Int×Int)->Option (cq (Int×Int) (Int))
 |(v1,v2)=>bif ltB v2 (a0.length:Int) then(abU (ix a0 v2) λx5=>some (.next (WR (v1+(x5.bg.length:Int)),WR (v2+1)))) else(some (.done v1))
def pH (a0:List ae):Option Int:=
 abU (iter (w9 a0) FU (0,0)) λ(v4:Int)=>some v4
theorem ui {a0:List ae} (H:pH a0=some r):Fn prog 334 [aL (a0.map an)] [.c (.d (.i .i64 r))]:=by
 refine fI func334 ntmps334 ?_
 refine aa H λv4 Hj H=>jB ⟨[(3,tI v4)],[],0⟩ ?_ ?_
 .refine iT Hj (λq=>⟨[(0,.v (.c (.d false (.l (a0.map an))))),(3,tI q.1),(4,tI q.2)],[],0⟩) ?_
  rintro⟨v1,v2⟩ o H
  refine ad ?_
  refine cC H ?_ ?_<;>intro H
  .refine aa H λx5 hx5 H=>nA (xdT (enc:=an) hx5) ?_
   exact aN H
  exact aE H
 exact ao H
def oZ (a0:am):(Int×Int)->Option (cq (Int×Int) (Int))
 |(v1,v2)=>bif ltB v2 (a0.aj.length:Int) then(abU (ix a0.aj v2) λx5=>some (.next (WR (v1+x5.d8),WR (v2+1)))) else(some (.done v1))
def oY (a0:am):Option Int:=
 abU (iter (oZ a0) FU (0,0)) λ(v4:Int)=>some v4
theorem DU {a0:am} (H:oY a0=some r):Fn prog 286 [.agg (cN a0)] [.c (.d (.i .i64 r))]:=by
 refine fI func286 ntmps286 ?_
 refine aa H λv4 Hj H=>jB ⟨[(3,tI v4)],[],0⟩ ?_ ?_
 .refine iT Hj (λq=>⟨[(1,tP 0),(3,tI q.1),(4,tI q.2)],[(0,.var 57 (kM [.f] (cZ a0)))],1⟩) ?_
  rintro⟨v1,v2⟩ o H
  refine ad ?_
  refine cC H ?_ ?_<;>intro H
  .refine aa H λx5 hx5 H=>nA (xdT (enc:=bv) hx5) ?_
   exact aN H
  exact aE H
 exact ao H
def uf (a0:am) (a1:Int):Int->Option (cq (Int) (Int))
 |v1=>bif ltB v1 (a0.aj.length:Int) then(abU (ix a0.aj v1) λx2=>bif eqB x2.aG a1 then(dn (some v1)) else(some (.next (WR (v1+1))))) else(dn (some (-1)))
def qv (a0:am) (a1:Int):Option Int:=
 iter (uf a0 a1) FU 0
theorem Bo {a0:am} (H:qv a0 a1=some r):Fn prog 335 [.agg (cN a0),aI a1] [.c (.d (.i .i64 r))]:=by
 refine fI func335 ntmps335 ?_
 refine iT H (λq=>⟨[(1,tI a1),(2,tP 0),(5,tI q)],[(0,.var 57 (kM [.f] (cZ a0)))],1⟩) ?_
 rintro v1 o H
 refine ad ?_
 refine cC H ?_ ?_<;>intro H
 .refine aa H λx2 hx2 H=>nA (xdT (enc:=bv) hx2) ?_
  refine cC H ?_ ?_<;>intro H
  .exact aQ H
  exact aN H
 exact aQ H
def km (a0:List Int):(Int×List Int)->Option (cq (Int×List Int) (List Int))
 |(v1,v2)=>bif ltB v1 (a0.length:Int) then(abU (ix a0 v1) λx5=>bif c8 8 (v2++[WR (x5)]).length then(some (.next (WR (v1+1),(v2++[WR (x5)])))) else none) else(some (.done v2))
def rD (a0:List Int):Option (List Int):=
 abU (iter (km a0) FU (0,[(a0.length:Int)])) λ(v4:List Int)=>some v4
theorem He {a0:List Int} {r:List Int} (H:rD a0=some r):Fn prog 289 [aL (a0.map eU8)] [.c (.own 3 1 (r.map eI) r.length)]:=by
 refine fI func289 ntmps289 ?_
 refine aa H λv4 Hj H=>jB ⟨[(3,.v (.c (.w 0 v4.length)))],[(0,w3 v4)],1⟩ ?_ ?_
 .refine iT Hj (λq=>⟨[(0,.v (.c (.d false (.l (a0.map eU8))))),(3,.v (.c (.w 0 q.2.length))),(4,tI q.1)],[(0,w3 q.2)],1⟩) ?_
  rintro⟨v1,v2⟩ o H
  refine ad ?_
  refine cC H ?_ ?_<;>intro H
  .refine aa H λx5 hx5 H=>nA (xdT (enc:=eU8) hx5) ?_
   obtain⟨h,H⟩:=rq H
   refine sA (apT (enc:=eI) (ys:=v2) (zs:=[WR (x5)]) h) ?_
   exact aN H
  exact aE H
 exact ao H
def uX (a0:Int):Option fF:=
 some (⟨[1,3,a0]⟩:fF)
theorem E6 {a0:Int} {r:fF} (H:uX a0=some r):Fn prog 210 [aI a0] [.agg [.own 3 1 (r.Steps.map eI) r.Steps.length]]:=by
 refine fI func210 ntmps210 ?_
 cases H
 refine du (wB 1 ([1,3,a0].length)) ?_
 exact dW
def oX:Option fF:=
 some (⟨[1,2]⟩:fF)
theorem Aq {r:fF} (H:oX=some r):Fn prog 291 [] [.agg [.own 3 1 (r.Steps.map eI) r.Steps.length]]:=by
 refine fI func291 ntmps291 ?_
 cases H
 refine du (wB 1 ([1,2].length)) ?_
 exact dW
def Fv (a0:List aH) (a1:Int) (a2:Int):Option (List aH):=
 bif c8 16 (([]:List aH)++a0).length then(abU (ix a0 a1) λx1=>bif ltB a2 x1.d8 then(abU (ix a0 a1) λx2=>abU (ix (([]:List aH)++a0) a1) λx3=>some ((([]:List aH)++a0).set (a1).toNat (⟨x3.aG,WR (x2.d8-a2)⟩:aH))) else(bif eT (([]:List aH)++a0) 0 a1 then(bif eT a0 (WR (a1+1)) a0.length then(bif c8 16 ((([]:List aH)++a0).take (a1).toNat++(a0.drop (WR (a1+1)).toNat)).length then(some ((([]:List aH)++a0).take (a1).toNat++(a0.drop (WR (a1+1)).toNat))) else none) else none) else none)) else none
theorem Sq {a0:List aH} {a2:Int} {r:List aH} (H:Fv a0 a1 a2=some r):Fn prog 363 [aL (a0.map bv),aI a1,aI a2] [.c (.own 115 2 (r.map bv) r.length)]:=by
 refine fI func363 ntmps363 ?_
 obtain⟨h,H⟩:=rq H
 refine fG rfl (apT (enc:=bv) (ys:=([]:List aH)) (zs:=a0) h) ?_
 refine aW (iR (enc:=bv) (o:=0)) ?_
 refine aa H λx1 hx1 H=>nA (xdT (enc:=bv) hx1) ?_
 refine cC H ?_ ?_<;>intro H
 .refine aa H λx2 hx2 H=>nA (xdT (enc:=bv) hx2) ?_
  refine aa H λx3 hx3 H=>nA (xwT hx3) ?_
  refine sA (soT (enc:=bv) (a':=(⟨x3.aG,WR (x2.d8-a2)⟩:aH)) hx3) ?_
  exact ao H
 refine zI (List.range 9) ?_
 obtain⟨hs2,H⟩:=rq H
 refine zA (cwfT (enc:=bv) hs2 (by first|rfl|simp) rfl rfl rfl rfl) ?_
 obtain⟨h,H⟩:=rq H
 refine zA (Ww (enc:=bv) h (λ_=>rfl) rfl rfl rfl) ?_
 obtain⟨h,H⟩:=rq H
 refine wA (apxPF (enc:=bv) (h:=a1) (ys:=(([]:List aH)++a0)) (zs:=a0.drop (WR (a1+1)).toNat) [0] hs2 h rfl (λ_=>rfl) (λ_=>rfl) rfl .d rfl rfl rfl rfl rfl rfl) ?_
 refine mK (ds:=[0]) (by kernel_rfl) (by kernel_rfl) rfl ?_
 refine wI ?_
 exact ao H
def kn (a0:aS) (a1:Int):(Int×List Int)->Option (cq (Int×List Int) (List Int))
 |(v1,v2)=>bif ltB v1 (a0.aX.length:Int) then(abU (ix a0.aX v1) λx6=>abU (bif eqB x6.fJ a1 then(bif c8 8 (v2++[v1]).length then(some (v2++[v1])) else none) else(some v2)) λ(v7:List Int)=>some (.next (WR (v1+1),v7))) else(some (.done v2))
def rE (a0:aS) (a1:Int):Option (List Int):=
 abU (iter (kn a0 a1) FU (0,([]:List Int))) λ(v5:List Int)=>some v5
theorem Hf {a0:aS} {r:List Int} (H:rE a0 a1=some r):Fn prog 376 [.agg (iw a0),aI a1] [.c (.own 3 1 (r.map eI) r.length)]:=by
 refine fI func376 ntmps376 ?_
 refine aa H λv5 Hj H=>jB ⟨[(5,.v (.c (.w 1 v5.length)))],[(1,w3 v5)],2⟩ ?_ ?_
 .refine iT Hj (λq=>⟨[(1,tI a1),(2,tP 0),(5,.v (.c (.w 1 q.2.length))),(6,tI q.1)],[(0,.var 26 [.d false (.l (a0.aX.map dy))]),(1,w3 q.2)],2⟩) ?_
  rintro⟨v1,v2⟩ o H
  refine ad ?_
  refine cC H ?_ ?_<;>intro H
  .refine aa H λx6 hx6 H=>nA (xdT (enc:=dy) hx6) ?_
   refine aa H λv7 Hj H=>jA ⟨[(1,tI a1),(2,tP 0),(5,.v (.c (.w 1 v7.length))),(6,tI v1)],[(0,.var 26 [.d false (.l (a0.aX.map dy))]),(1,w3 v7)],2⟩ ?_ ?_
   .refine cC Hj ?_ ?_<;>intro H
    .obtain⟨h,H⟩:=rq H
     refine sA (apT (enc:=eI) (ys:=v2) (zs:=[v1]) h) ?_
     exact ai H
    exact ai H
   exact aN H
  exact aE H
 exact ao H
end Go.AM
