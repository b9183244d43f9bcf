/- A part. -/
import Derived.Test.YtljhooecmjejiaaGreatG
set_option linter.unusedVariables false
open Option renaming bind→Un
namespace Go.AM
open Go.Proofs
attribute [local irreducible] AWN NS AWO AWR AWC DR cZ eE
set_option maxRecDepth 100000
set_option maxHeartbeats 40000000
def qf (v:List (Int×List Int)) (a b:Int):Option (List (Int×List Int)):=
 Un (ix v a) fun x=>bif cS 8 (x.2++[b]).length then(Un (ix (v.set a.toNat (x.1,x.2++[b])) b) fun y=>bif cS 8 (y.2++[a]).length then some ((v.set a.toNat (x.1,x.2++[b])).set b.toNat (y.1,y.2++[a])) else none) else none
theorem Gc {v r:List (Int×List Int)} {a b fi fh:Int} {n:Nat} {fb:List (List D)} (H:qf v a b=some r) (hn:v.length=n):
 ∃c,Tryz.f196.body=some c∧AWC Tryz.prog 34 c ⟨[(0,.v (.agg [.wn 222 n])),(1,tI a),(2,tI b)],[(200,.var 143 [.d false (.l fb),.d false (.i .i64 fi),.d false (.i .i64 fh)]),(202,.var 26 [.nil]),(203,.var 26 [.wn 222 n]),(222,.cxo 222 157 3 v none)],223⟩
  (rL 34 Tryz.prog [] [(200,.var 143 [.d false (.l fb),.d false (.i .i64 fi),.d false (.i .i64 fh)]),(202,.var 26 [.nil]),(203,.var 26 [.wn 222 n]),(222,.cxo 222 157 3 r none)] (.tup []) []):=by
 refine⟨_,rfl,?_⟩
 refine wkz ?_
 obtain⟨⟨x1,x2⟩,hx,H⟩:=ob H
 obtain⟨h,H⟩:=rq H
 have hxx:=(ixE hx).2
 refine rR ⟨[(1,tI a),(2,tI b),(3,.v (.c (.p 223 0)))],[(200,.var 143 [.d false (.l fb),.d false (.i .i64 fi),.d false (.i .i64 fh)]),(202,.var 26 [.nil]),(203,.var 26 [.wn 222 n]),(223,.var 26 [.wn 222 n]),(222,.cxo 222 157 3 (v.set a.toNat (x1,x2++[b])) none)],224⟩ ?_ ?_
 ·refine Eo (o:=222) (i:=a.toNat) (e:=(x1,x2)) rfl hxx rfl rfl rfl rfl rfl rfl (fun hnil=>?_) (fun k cc=>?_)
  ·simp only at hnil
   subst hnil
   refine qt [0,1,2,3,4,5,6,7,8,9,10,11,12,13,14] Try.follows (by kernel_rfl) (by kernel_rfl) rfl ?_
   refine wkz ?_
   refine jD rfl (mq hx rfl rfl hn rfl) ?_
   refine wkz ?_
   refine jD rfl (olh hxx rfl rfl rfl) ?_
   refine wkz ?_
   refine jD rfl (apNk (zs:=[b]) [224] h (by simp) rfl rfl (.w rfl rfl) rfl rfl rfl rfl) ?_
   refine wkz ?_
   refine jD rfl (mq hx rfl rfl hn rfl) ?_
   refine wkz ?_
   refine CW (by kernel_rfl) rfl (by kernel_rfl) bT (gq rfl (Fx (o:=222) (s:=225) (ys:=[b]) rfl rfl rfl rfl rfl hxx (.inr ⟨_,_,_,rfl⟩) rfl rfl rfl rfl rfl rfl rfl)) bT rfl ?_
   refine wkz ?_
   exact dY ⟨rfl,rfl,rfl,rfl,rfl,rfl,trivial⟩ ⟨rfl,⟨rfl,rfl⟩,rfl,⟨rfl,rfl⟩,rfl,⟨rfl,rfl⟩,rfl,⟨rfl,rfl⟩,rfl,⟨rfl,rfl⟩,trivial⟩
  ·refine qt [0,1,2,3,4,5,6,7,8,9,10,11,12,13,14] Try.follows (by kernel_rfl) (by kernel_rfl) rfl ?_
   refine wkz ?_
   refine jD rfl (mq hx rfl rfl hn rfl) ?_
   refine wkz ?_
   refine jD rfl (olh hxx rfl rfl rfl) ?_
   refine wkz ?_
   refine yl rfl (apk (q:=224) (xs:=x2) (zs:=[b]) [224,225] h rfl rfl rfl (.w rfl rfl) rfl rfl rfl rfl rfl rfl) ?_
   refine wkz ?_
   refine jD rfl (mq hx rfl rfl hn rfl) ?_
   refine wkz ?_
   refine qz (ds:=[224]) (by kernel_rfl) (by kernel_rfl) rfl (by kernel_rfl) bT (gq rfl (Fx (o:=222) (s:=226) (ys:=x2++[b]) rfl rfl rfl rfl rfl hxx (.inr ⟨_,_,_,rfl⟩) rfl rfl rfl rfl rfl rfl rfl)) bT rfl ?_
   refine wkz ?_
   exact dY ⟨rfl,rfl,rfl,rfl,rfl,rfl,trivial⟩ ⟨rfl,⟨rfl,rfl⟩,rfl,⟨rfl,rfl⟩,rfl,⟨rfl,rfl⟩,rfl,⟨rfl,rfl⟩,rfl,⟨rfl,rfl⟩,trivial⟩
 refine wkz ?_
 obtain⟨⟨y1,y2⟩,hy,H⟩:=ob H
 obtain⟨h',H⟩:=rq H
 have hyy:=(ixE hy).2
 have hn':(v.set a.toNat (x1,x2++[b])).length=n:=by simpa using hn
 refine rR ⟨[],[(200,.var 143 [.d false (.l fb),.d false (.i .i64 fi),.d false (.i .i64 fh)]),(202,.var 26 [.nil]),(203,.var 26 [.wn 222 n]),(222,.cxo 222 157 3 ((v.set a.toNat (x1,x2++[b])).set b.toNat (y1,y2++[a])) none)],223⟩ ?_ ?_
 ·refine Eo (o:=222) (i:=b.toNat) (e:=(y1,y2)) rfl hyy rfl rfl rfl rfl rfl rfl (fun hnil=>?_) (fun k cc=>?_)
  ·simp only at hnil
   subst hnil
   refine qt [0,1,2,3,4,5,6,7,8,9,10,11,12,13,14] Try.follows (by kernel_rfl) (by kernel_rfl) rfl ?_
   refine wkz ?_
   refine jD rfl (mq hy rfl rfl hn' rfl) ?_
   refine wkz ?_
   refine jD rfl (olh hyy rfl rfl rfl) ?_
   refine wkz ?_
   refine jD rfl (apNk (zs:=[a]) [224] h' (by simp) rfl rfl (.w rfl rfl) rfl rfl rfl rfl) ?_
   refine wkz ?_
   refine jD rfl (mq hy rfl rfl hn' rfl) ?_
   refine wkz ?_
   refine CW (by kernel_rfl) rfl (by kernel_rfl) bT (gq rfl (Fx (o:=222) (s:=225) (ys:=[a]) rfl rfl rfl rfl rfl hyy (.inr ⟨_,_,_,rfl⟩) rfl rfl rfl rfl rfl rfl rfl)) bT rfl ?_
   refine wkz ?_
   exact dY trivial ⟨rfl,⟨rfl,rfl⟩,rfl,⟨rfl,rfl⟩,rfl,⟨rfl,rfl⟩,rfl,⟨rfl,rfl⟩,trivial⟩
  ·refine qt [0,1,2,3,4,5,6,7,8,9,10,11,12,13,14] Try.follows (by kernel_rfl) (by kernel_rfl) rfl ?_
   refine wkz ?_
   refine jD rfl (mq hy rfl rfl hn' rfl) ?_
   refine wkz ?_
   refine jD rfl (olh hyy rfl rfl rfl) ?_
   refine wkz ?_
   refine yl rfl (apk (q:=224) (xs:=y2) (zs:=[a]) [224,225] h' rfl rfl rfl (.w rfl rfl) rfl rfl rfl rfl rfl rfl) ?_
   refine wkz ?_
   refine jD rfl (mq hy rfl rfl hn' rfl) ?_
   refine wkz ?_
   refine qz (ds:=[224]) (by kernel_rfl) (by kernel_rfl) rfl (by kernel_rfl) bT (gq rfl (Fx (o:=222) (s:=226) (ys:=y2++[a]) rfl rfl rfl rfl rfl hyy (.inr ⟨_,_,_,rfl⟩) rfl rfl rfl rfl rfl rfl rfl)) bT rfl ?_
   refine wkz ?_
   exact dY trivial ⟨rfl,⟨rfl,rfl⟩,rfl,⟨rfl,rfl⟩,rfl,⟨rfl,rfl⟩,rfl,⟨rfl,rfl⟩,trivial⟩
 cases H
 refine wkz ?_
 exact sb .nil rfl rfl ⟨rfl,rfl,rfl,rfl,trivial⟩ trivial
theorem nn {v r:List (Int×List Int)} {a b:Int} (H:qf v a b=some r):r.length=v.length:=by
 unfold qf at H
 obtain⟨x,hx,H⟩:=ob H
 obtain⟨h,H⟩:=rq H
 obtain⟨y,hy,H⟩:=ob H
 obtain⟨h',H⟩:=rq H
 cases H
 simp
def lN (a0:List bw):(Int×List bw)→Option (cB (Int×List bw) (List bw))
 |(v1,v2)=>bif ltB v1 ((a0.length:Nat):Int) then(Un (ix a0 v1) fun x5=>bif cS 1 (([]:List Int)++x5.aN).length then(bif cS 24 (v2++[(⟨(([]:List Int)++x5.aN)⟩:bw)]).length then(some (.next (WR (v1+1),(v2++[(⟨(([]:List Int)++x5.aN)⟩:bw)])))) else none) else none) else(some (.done v2))
def oh (a0:List bw):Option (List bw):=
 Un (iter (lN a0) FU (0,([]:List bw))) fun(v4:List bw)=>some v4
theorem wr {a0:List bw} {r:List bw} (H:oh a0=some r):Fn Tryz.prog 252 [aL (a0.map cj)] [.c (.own 104 1 (r.map cj) r.length)]:=by
 refine fI Tryz.func252 Tryz.ntmps252 ?_
 obtain⟨v4,Hj,H⟩:=ob H
 refine jB ⟨[(3,.v (.c (.w 0 v4.length)))],[(0,RE v4)],1⟩ ?_ ?_
 ·refine iT Hj (fun q=>⟨[(0,.v (.c (.d false (.l (a0.map cj))))),(3,.v (.c (.w 0 q.2.length))),(4,tI q.1)],[(0,RE q.2)],1⟩) ?_
  rintro⟨v1,v2⟩ o H
  try dsimp only
  refine wI ?_
  refine cC H ?_ ?_<;>intro H
  ·obtain⟨x5,hx5,H⟩:=ob H
   refine nA (xdT (enc:=cj) hx5) ?_
   obtain⟨h,H⟩:=rq H
   refine eR rfl (apT (enc:=eU8) (ys:=([]:List Int)) (zs:=x5.aN) h) ?_
   refine aW (jU (enc:=eU8) (o:=1)) ?_
   refine bR (aT (o:=1)) ?_
   refine aW (cA (k:=20)) ?_
   obtain⟨h,H⟩:=rq H
   refine sA (apT (enc:=cj) (ys:=v2) (zs:=[(⟨(([]:List Int)++x5.aN)⟩:bw)]) h) ?_
   cases H
   refine ee ?_
   exact wo
  ·cases H
   refine ed (fun hq=>?_)
   cases hq
   refine wI ?_
   exact wo
 cases H
 exact ah
def nq (a0:List ae):(Int×List ae)→Option (cB (Int×List ae) (List ae))
 |(v1,v2)=>bif ltB v1 ((a0.length:Nat):Int) then(Un (ix a0 v1) fun x6=>Un (ix a0 v1) fun x7=>bif cS 1 (([]:List Int)++x7.aN).length then(bif cS 32 (v2++[(⟨x6.cO,(([]:List Int)++x7.aN)⟩:ae)]).length then(some (.next (WR (v1+1),(v2++[(⟨x6.cO,(([]:List Int)++x7.aN)⟩:ae)])))) else none) else none) else(some (.done v2))
def qi (a0:List ae):Option (List ae):=
 Un (iter (nq a0) FU (0,([]:List ae))) fun(v5:List ae)=>some v5
theorem yd {a0:List ae} {r:List ae} (H:qi a0=some r):Fn Tryz.prog 298 [aL (a0.map aE)] [.c (.own 136 2 (r.map aE) r.length)]:=by
 refine fI Tryz.func298 Tryz.ntmps298 ?_
 obtain⟨v5,Hj,H⟩:=ob H
 refine jB ⟨[(3,.v (.c (.w 0 v5.length)))],[(0,RG v5)],1⟩ ?_ ?_
 ·refine iT Hj (fun q=>⟨[(0,.v (.c (.d false (.l (a0.map aE))))),(3,.v (.c (.w 0 q.2.length))),(4,tI q.1)],[(0,RG q.2)],1⟩) ?_
  rintro⟨v1,v2⟩ o H
  try dsimp only
  refine wI ?_
  refine cC H ?_ ?_<;>intro H
  ·refine zI (List.range 17) ?_
   obtain⟨x6,hx6,H⟩:=ob H
   refine zA (xdT (enc:=aE) hx6) ?_
   obtain⟨x7,hx7,H⟩:=ob H
   refine zA (xdT (enc:=aE) hx7) ?_
   obtain⟨h,H⟩:=rq H
   refine wA (BA (enc:=eU8) (ys:=([]:List Int)) (zs:=x7.aN) [1] h) ?_
   obtain⟨h,H⟩:=rq H
   refine wA (apx (enc:=aE) (ys:=v2) (zs:=[(⟨x6.cO,(([]:List Int)++x7.aN)⟩:ae)]) [0,3] h) ?_
   refine jt (ds:=[1,0]) (by kernel_rfl) (by kernel_rfl) rfl ?_
   refine wI ?_
   cases H
   refine ee ?_
   refine aq (wS 0 4) ?_
   exact wo
  ·cases H
   refine ed (fun hq=>?_)
   cases hq
   refine wI ?_
   exact wo
 cases H
 exact ah
def AD (a0:List Int):Option bw:=
 bif cS 1 (([]:List Int)++a0).length then(some (⟨(([]:List Int)++a0)⟩:bw)) else none
theorem HI {a0:List Int} {r:bw} (H:AD a0=some r):Fn Tryz.prog 199 [aL (a0.map eU8)] [.agg [.own 5 1 (r.aN.map eU8) r.aN.length]]:=by
 refine fI Tryz.func199 Tryz.ntmps199 ?_
 obtain⟨h,H⟩:=rq H
 refine eR rfl (apT (enc:=eU8) (ys:=([]:List Int)) (zs:=a0) h) ?_
 refine aW (jU (enc:=eU8) (o:=1)) ?_
 cases H
 exact ah
def jr (a0:ay) (a1:az):Option aS:=
 some (⟨{a0 with fU:=3},[a1]⟩:aS)
theorem om {a0:ay} {a1:az} {r:aS} (H:jr a0 a1=some r):FnV Tryz.prog 202 [] [.v (.agg (kM [.f,.f] (df a0))),.v (.agg (kM [] (cI a1)))] [] (.v (.agg (kM [.f,.f,.w 210] (cq r)))) [(210,w72 r.dD)]:=by
 refine fV Tryz.func202 Tryz.ntmps202 ?_
 cases H
 refine bU (wS 213 210) ?_
 refine bU ((wB 210 [a1].length)) ?_
 exact bV
def oi (a0:ay):Option az:=
 some {dH with aP:=1,aU:=a0.aU}
theorem wy {a0:ay} {r:az} (H:oi a0=some r):Fn Tryz.prog 203 [.agg (c7 a0)] [.agg (qM [] (cI r))]:=by
 refine fI Tryz.func203 Tryz.ntmps203 ?_
 cases H
 exact ah
def wx (a0:av):Option av:=
 bif cS 1 (([]:List Int)++a0.aZ.aN).length then(some {a0 with aZ:={a0.aZ with aN:=(([]:List Int)++a0.aZ.aN)}}) else none
theorem HJ {a0:av} {r:av} (H:wx a0=some r):Fn Tryz.prog 255 [.agg (dN a0)] [.agg (qM [.o] (lG r))]:=by
 refine fI Tryz.func255 Tryz.ntmps255 ?_
 obtain⟨h,H⟩:=rq H
 refine eR rfl (apT (enc:=eU8) (ys:=([]:List Int)) (zs:=a0.aZ.aN) h) ?_
 refine aW (jU (enc:=eU8) (o:=3)) ?_
 cases H
 exact ah
def jq (a0:aj):Option aj:=
 bif cS 16 (([]:List ax)++a0.aA).length then(some {a0 with aA:=(([]:List ax)++a0.aA)}) else none
theorem jL {a0:aj} {r:aj} (H:jq a0=some r):Fn Tryz.prog 225 [.agg (da a0)] [.agg (qM [.o] (cM r))]:=by
 refine fI Tryz.func225 Tryz.ntmps225 ?_
 obtain⟨h,H⟩:=rq H
 refine eR rfl (apT (enc:=bm) (ys:=([]:List ax)) (zs:=a0.aA) h) ?_
 refine aW (jU (enc:=bm) (o:=3)) ?_
 cases H
 exact ah
def Ai (a0:Int) (a1:Int):Option Int:=
 bif ltB a1 a0 then(some a1) else(some a0)
theorem xp {a0:Int} {a1:Int} {r:Int} (H:Ai a0 a1=some r):Fn Tryz.prog 140 [aI a0,aI a1] [.c (.d (.i .i64 r))]:=by
 refine fI Tryz.func140 Tryz.ntmps140 ?_
 refine cC H ?_ ?_<;>intro H
 ·cases H
  exact ah
 ·cases H
  exact ah
def Ah (a0:Int) (a1:Int):Option Int:=
 bif ltB a0 a1 then(some a1) else(some a0)
theorem xo {a0:Int} {a1:Int} {r:Int} (H:Ah a0 a1=some r):Fn Tryz.prog 226 [aI a0,aI a1] [.c (.d (.i .i64 r))]:=by
 refine fI Tryz.func226 Tryz.ntmps226 ?_
 refine cC H ?_ ?_<;>intro H
 ·cases H
  exact ah
 ·cases H
  exact ah
def pK (a0:Int):Option gW:=
 some (⟨[1,3,a0]⟩:gW)
theorem yu {a0:Int} {r:gW} (H:pK a0=some r):Fn Tryz.prog 36 [aI a0] [.agg [.own 3 1 (r.Steps.map eI) r.Steps.length]]:=by
 refine fI Tryz.func36 Tryz.ntmps36 ?_
 cases H
 refine cG (wB 1 ([1,3,a0].length)) ?_
 exact ah
end Go.AM
