/- A part. -/
import Derived.Test.YtljhooecmjejiaaGreatG
set_option linter.unusedVariables false
open Option renaming bind→Vj
namespace Go.AM
open Go.Proofs
attribute [local irreducible] AWN NS AWO AWR AWC DR cZ ey
set_option maxRecDepth 100000
set_option maxHeartbeats 40000000
def qC (v:List (Int×List Int)) (a b:Int):Option (List (Int×List Int)):=
 Vj (ix v a) fun x=>bif cM 8 (x.2++[b]).length then(Vj (ix (v.set a.toNat (x.1,x.2++[b])) b) fun y=>bif cM 8 (y.2++[a]).length then some ((v.set a.toNat (x.1,x.2++[b])).set b.toNat (y.1,y.2++[a])) else none) else none
theorem Hq {v r:List (Int×List Int)} {a b fi fh:Int} {n:Nat} {fb:List (List D)} (H:qC v a b=some r) (hn:v.length=n):
 ∃c,Tryz.f196.body=some c∧AWC Tryz.prog 34 c ⟨[(0,.v (.agg [.wn 222 n])),(1,tI a),(2,tI b)],[(200,.var 143 [.d false (.l fb),.d false (.i .i64 fi),.d false (.i .i64 fh)]),(202,.var 26 [.nil]),(203,.var 26 [.wn 222 n]),(222,.cxo 222 157 3 v none)],223⟩
  (sE 34 Tryz.prog [] [(200,.var 143 [.d false (.l fb),.d false (.i .i64 fi),.d false (.i .i64 fh)]),(202,.var 26 [.nil]),(203,.var 26 [.wn 222 n]),(222,.cxo 222 157 3 r none)] (.tup []) []):=by
 refine⟨_,rfl,?_⟩
 refine wkz ?_
 obtain⟨⟨x1,x2⟩,hx,H⟩:=ob H
 obtain⟨h,H⟩:=rq H
 have hxx:=(ixE hx).2
 refine sL ⟨[(1,tI a),(2,tI b),(3,.v (.c (.p 223 0)))],[(200,.var 143 [.d false (.l fb),.d false (.i .i64 fi),.d false (.i .i64 fh)]),(202,.var 26 [.nil]),(203,.var 26 [.wn 222 n]),(223,.var 26 [.wn 222 n]),(222,.cxo 222 157 3 (v.set a.toNat (x1,x2++[b])) none)],224⟩ ?_ ?_
 ·refine FE (o:=222) (i:=a.toNat) (e:=(x1,x2)) rfl hxx rfl rfl rfl rfl rfl rfl (fun hnil=>?_) (fun k cc=>?_)
  ·simp only at hnil
   subst hnil
   refine pV [0,1,2,3,4,5,6,7,8,9,10,11,12,13,14] Try.follows (by kernel_rfl) (by kernel_rfl) rfl ?_
   refine wkz ?_
   refine iA rfl (mF hx rfl rfl hn rfl) ?_
   refine wkz ?_
   refine iA rfl (olh hxx rfl rfl rfl) ?_
   refine wkz ?_
   refine iA rfl (apNk (zs:=[b]) [224] h (by simp) rfl rfl (.w rfl rfl) rfl rfl rfl rfl) ?_
   refine wkz ?_
   refine iA rfl (mF hx rfl rfl hn rfl) ?_
   refine wkz ?_
   refine Au (by kernel_rfl) rfl (by kernel_rfl) bO (f8 rfl (GN (o:=222) (s:=225) (ys:=[b]) rfl rfl rfl rfl rfl hxx (.inr ⟨_,_,_,rfl⟩) rfl rfl rfl rfl rfl rfl rfl)) bO rfl ?_
   refine wkz ?_
   exact d9 ⟨rfl,rfl,rfl,rfl,rfl,rfl,trivial⟩ ⟨rfl,⟨rfl,rfl⟩,rfl,⟨rfl,rfl⟩,rfl,⟨rfl,rfl⟩,rfl,⟨rfl,rfl⟩,rfl,⟨rfl,rfl⟩,trivial⟩
  ·refine pV [0,1,2,3,4,5,6,7,8,9,10,11,12,13,14] Try.follows (by kernel_rfl) (by kernel_rfl) rfl ?_
   refine wkz ?_
   refine iA rfl (mF hx rfl rfl hn rfl) ?_
   refine wkz ?_
   refine iA rfl (olh hxx rfl rfl rfl) ?_
   refine wkz ?_
   refine xS rfl (apk (q:=224) (xs:=x2) (zs:=[b]) [224,225] h rfl rfl rfl (.w rfl rfl) rfl rfl rfl rfl rfl rfl) ?_
   refine wkz ?_
   refine iA rfl (mF hx rfl rfl hn rfl) ?_
   refine wkz ?_
   refine qT (ds:=[224]) (by kernel_rfl) (by kernel_rfl) rfl (by kernel_rfl) bO (f8 rfl (GN (o:=222) (s:=226) (ys:=x2++[b]) rfl rfl rfl rfl rfl hxx (.inr ⟨_,_,_,rfl⟩) rfl rfl rfl rfl rfl rfl rfl)) bO rfl ?_
   refine wkz ?_
   exact d9 ⟨rfl,rfl,rfl,rfl,rfl,rfl,trivial⟩ ⟨rfl,⟨rfl,rfl⟩,rfl,⟨rfl,rfl⟩,rfl,⟨rfl,rfl⟩,rfl,⟨rfl,rfl⟩,rfl,⟨rfl,rfl⟩,trivial⟩
 refine wkz ?_
 obtain⟨⟨y1,y2⟩,hy,H⟩:=ob H
 obtain⟨h',H⟩:=rq H
 have hyy:=(ixE hy).2
 have hn':(v.set a.toNat (x1,x2++[b])).length=n:=by simpa using hn
 refine sL ⟨[],[(200,.var 143 [.d false (.l fb),.d false (.i .i64 fi),.d false (.i .i64 fh)]),(202,.var 26 [.nil]),(203,.var 26 [.wn 222 n]),(222,.cxo 222 157 3 ((v.set a.toNat (x1,x2++[b])).set b.toNat (y1,y2++[a])) none)],223⟩ ?_ ?_
 ·refine FE (o:=222) (i:=b.toNat) (e:=(y1,y2)) rfl hyy rfl rfl rfl rfl rfl rfl (fun hnil=>?_) (fun k cc=>?_)
  ·simp only at hnil
   subst hnil
   refine pV [0,1,2,3,4,5,6,7,8,9,10,11,12,13,14] Try.follows (by kernel_rfl) (by kernel_rfl) rfl ?_
   refine wkz ?_
   refine iA rfl (mF hy rfl rfl hn' rfl) ?_
   refine wkz ?_
   refine iA rfl (olh hyy rfl rfl rfl) ?_
   refine wkz ?_
   refine iA rfl (apNk (zs:=[a]) [224] h' (by simp) rfl rfl (.w rfl rfl) rfl rfl rfl rfl) ?_
   refine wkz ?_
   refine iA rfl (mF hy rfl rfl hn' rfl) ?_
   refine wkz ?_
   refine Au (by kernel_rfl) rfl (by kernel_rfl) bO (f8 rfl (GN (o:=222) (s:=225) (ys:=[a]) rfl rfl rfl rfl rfl hyy (.inr ⟨_,_,_,rfl⟩) rfl rfl rfl rfl rfl rfl rfl)) bO rfl ?_
   refine wkz ?_
   exact d9 trivial ⟨rfl,⟨rfl,rfl⟩,rfl,⟨rfl,rfl⟩,rfl,⟨rfl,rfl⟩,rfl,⟨rfl,rfl⟩,trivial⟩
  ·refine pV [0,1,2,3,4,5,6,7,8,9,10,11,12,13,14] Try.follows (by kernel_rfl) (by kernel_rfl) rfl ?_
   refine wkz ?_
   refine iA rfl (mF hy rfl rfl hn' rfl) ?_
   refine wkz ?_
   refine iA rfl (olh hyy rfl rfl rfl) ?_
   refine wkz ?_
   refine xS rfl (apk (q:=224) (xs:=y2) (zs:=[a]) [224,225] h' rfl rfl rfl (.w rfl rfl) rfl rfl rfl rfl rfl rfl) ?_
   refine wkz ?_
   refine iA rfl (mF hy rfl rfl hn' rfl) ?_
   refine wkz ?_
   refine qT (ds:=[224]) (by kernel_rfl) (by kernel_rfl) rfl (by kernel_rfl) bO (f8 rfl (GN (o:=222) (s:=226) (ys:=y2++[a]) rfl rfl rfl rfl rfl hyy (.inr ⟨_,_,_,rfl⟩) rfl rfl rfl rfl rfl rfl rfl)) bO rfl ?_
   refine wkz ?_
   exact d9 trivial ⟨rfl,⟨rfl,rfl⟩,rfl,⟨rfl,rfl⟩,rfl,⟨rfl,rfl⟩,rfl,⟨rfl,rfl⟩,trivial⟩
 cases H
 refine wkz ?_
 exact sW .nil rfl rfl ⟨rfl,rfl,rfl,rfl,trivial⟩ trivial
theorem nK {v r:List (Int×List Int)} {a b:Int} (H:qC v a b=some r):r.length=v.length:=by
 unfold qC at H
 obtain⟨x,hx,H⟩:=ob H
 obtain⟨h,H⟩:=rq H
 obtain⟨y,hy,H⟩:=ob H
 obtain⟨h',H⟩:=rq H
 cases H
 simp
def mb (a0:List b9):(Int×List b9)→Option (cp (Int×List b9) (List b9))
 |(v1,v2)=>bif ltB v1 ((a0.length:Nat):Int) then(Vj (ix a0 v1) fun x5=>bif cM 1 (([]:List Int)++x5.aQ).length then(bif cM 24 (v2++[(⟨(([]:List Int)++x5.aQ)⟩:b9)]).length then(some (.next (WR (v1+1),(v2++[(⟨(([]:List Int)++x5.aQ)⟩:b9)])))) else none) else none) else(some (.done v2))
def oH (a0:List b9):Option (List b9):=
 Vj (iter (mb a0) FU (0,([]:List b9))) fun(v4:List b9)=>some v4
theorem xp {a0:List b9} {r:List b9} (H:oH a0=some r):Fn Tryz.prog 252 [aL (a0.map dQ)] [.c (.own 104 1 (r.map dQ) r.length)]:=by
 refine fI Tryz.func252 Tryz.ntmps252 ?_
 obtain⟨v4,Hj,H⟩:=ob H
 refine jB ⟨[(3,.v (.c (.w 0 v4.length)))],[(0,SZ v4)],1⟩ ?_ ?_
 ·refine iT Hj (fun q=>⟨[(0,.v (.c (.d false (.l (a0.map dQ))))),(3,.v (.c (.w 0 q.2.length))),(4,tI q.1)],[(0,SZ q.2)],1⟩) ?_
  rintro⟨v1,v2⟩ o H
  try dsimp only
  refine wI ?_
  refine cC H ?_ ?_<;>intro H
  ·obtain⟨x5,hx5,H⟩:=ob H
   refine nA (xdT (enc:=dQ) hx5) ?_
   obtain⟨h,H⟩:=rq H
   refine eS rfl (apT (enc:=eU8) (ys:=([]:List Int)) (zs:=x5.aQ) h) ?_
   refine aW (ji (enc:=eU8) (o:=1)) ?_
   refine bT (aV (o:=1)) ?_
   refine aW (cI (k:=20)) ?_
   obtain⟨h,H⟩:=rq H
   refine sA (apT (enc:=dQ) (ys:=v2) (zs:=[(⟨(([]:List Int)++x5.aQ)⟩:b9)]) h) ?_
   cases H
   refine dU ?_
   exact wo
  ·cases H
   refine dT (fun hq=>?_)
   cases hq
   refine wI ?_
   exact wo
 cases H
 exact ah
def nL (a0:List ae):(Int×List ae)→Option (cp (Int×List ae) (List ae))
 |(v1,v2)=>bif ltB v1 ((a0.length:Nat):Int) then(Vj (ix a0 v1) fun x6=>Vj (ix a0 v1) fun x7=>bif cM 1 (([]:List Int)++x7.aQ).length then(bif cM 32 (v2++[(⟨x6.cT,(([]:List Int)++x7.aQ)⟩:ae)]).length then(some (.next (WR (v1+1),(v2++[(⟨x6.cT,(([]:List Int)++x7.aQ)⟩:ae)])))) else none) else none) else(some (.done v2))
def qF (a0:List ae):Option (List ae):=
 Vj (iter (nL a0) FU (0,([]:List ae))) fun(v5:List ae)=>some v5
theorem y4 {a0:List ae} {r:List ae} (H:qF a0=some r):Fn Tryz.prog 298 [aL (a0.map aG)] [.c (.own 136 2 (r.map aG) r.length)]:=by
 refine fI Tryz.func298 Tryz.ntmps298 ?_
 obtain⟨v5,Hj,H⟩:=ob H
 refine jB ⟨[(3,.v (.c (.w 0 v5.length)))],[(0,Ta v5)],1⟩ ?_ ?_
 ·refine iT Hj (fun q=>⟨[(0,.v (.c (.d false (.l (a0.map aG))))),(3,.v (.c (.w 0 q.2.length))),(4,tI q.1)],[(0,Ta q.2)],1⟩) ?_
  rintro⟨v1,v2⟩ o H
  try dsimp only
  refine wI ?_
  refine cC H ?_ ?_<;>intro H
  ·refine zI (List.range 17) ?_
   obtain⟨x6,hx6,H⟩:=ob H
   refine zA (xdT (enc:=aG) hx6) ?_
   obtain⟨x7,hx7,H⟩:=ob H
   refine zA (xdT (enc:=aG) hx7) ?_
   obtain⟨h,H⟩:=rq H
   refine wA (CF (enc:=eU8) (ys:=([]:List Int)) (zs:=x7.aQ) [1] h) ?_
   obtain⟨h,H⟩:=rq H
   refine wA (apx (enc:=aG) (ys:=v2) (zs:=[(⟨x6.cT,(([]:List Int)++x7.aQ)⟩:ae)]) [0,3] h) ?_
   refine iV (ds:=[1,0]) (by kernel_rfl) (by kernel_rfl) rfl ?_
   refine wI ?_
   cases H
   refine dU ?_
   refine an (wS 0 4) ?_
   exact wo
  ·cases H
   refine dT (fun hq=>?_)
   cases hq
   refine wI ?_
   exact wo
 cases H
 exact ah
def BB (a0:List Int):Option b9:=
 bif cM 1 (([]:List Int)++a0).length then(some (⟨(([]:List Int)++a0)⟩:b9)) else none
theorem IV {a0:List Int} {r:b9} (H:BB a0=some r):Fn Tryz.prog 199 [aL (a0.map eU8)] [.agg [.own 5 1 (r.aQ.map eU8) r.aQ.length]]:=by
 refine fI Tryz.func199 Tryz.ntmps199 ?_
 obtain⟨h,H⟩:=rq H
 refine eS rfl (apT (enc:=eU8) (ys:=([]:List Int)) (zs:=a0) h) ?_
 refine aW (ji (enc:=eU8) (o:=1)) ?_
 cases H
 exact ah
def jJ (a0:az) (a1:aA):Option aU:=
 some (⟨{a0 with f7:=3},[a1]⟩:aU)
theorem oK {a0:az} {a1:aA} {r:aU} (H:jJ a0 a1=some r):FnV Tryz.prog 202 [] [.v (.agg (kM [.f,.f] (dr a0))),.v (.agg (kM [] (cP a1)))] [] (.v (.agg (kM [.f,.f,.w 210] (cA r)))) [(210,w72 r.dJ)]:=by
 refine fV Tryz.func202 Tryz.ntmps202 ?_
 cases H
 refine bV (wS 213 210) ?_
 refine bV ((wB 210 [a1].length)) ?_
 exact bU
def oI (a0:az):Option aA:=
 some {dO with aR:=1,aX:=a0.aX}
theorem xu {a0:az} {r:aA} (H:oI a0=some r):Fn Tryz.prog 203 [.agg (dE a0)] [.agg (qM [] (cP r))]:=by
 refine fI Tryz.func203 Tryz.ntmps203 ?_
 cases H
 exact ah
def xt (a0:ao):Option ao:=
 bif cM 1 (([]:List Int)++a0.aT.aQ).length then(some {a0 with aT:={a0.aT with aQ:=(([]:List Int)++a0.aT.aQ)}}) else none
theorem IW {a0:ao} {r:ao} (H:xt a0=some r):Fn Tryz.prog 255 [.agg (dq a0)] [.agg (qM [.o] (ig r))]:=by
 refine fI Tryz.func255 Tryz.ntmps255 ?_
 obtain⟨h,H⟩:=rq H
 refine eS rfl (apT (enc:=eU8) (ys:=([]:List Int)) (zs:=a0.aT.aQ) h) ?_
 refine aW (ji (enc:=eU8) (o:=3)) ?_
 cases H
 exact ah
def jI (a0:aj):Option aj:=
 bif cM 16 (([]:List av)++a0.aD).length then(some {a0 with aD:=(([]:List av)++a0.aD)}) else none
theorem kf {a0:aj} {r:aj} (H:jI a0=some r):Fn Tryz.prog 225 [.agg (dB a0)] [.agg (qM [.o] (cS r))]:=by
 refine fI Tryz.func225 Tryz.ntmps225 ?_
 obtain⟨h,H⟩:=rq H
 refine eS rfl (apT (enc:=bw) (ys:=([]:List av)) (zs:=a0.aD) h) ?_
 refine aW (ji (enc:=bw) (o:=3)) ?_
 cases H
 exact ah
def Bg (a0:Int) (a1:Int):Option Int:=
 bif ltB a1 a0 then(some a1) else(some a0)
theorem yn {a0:Int} {a1:Int} {r:Int} (H:Bg a0 a1=some r):Fn Tryz.prog 140 [aI a0,aI a1] [.c (.d (.i .i64 r))]:=by
 refine fI Tryz.func140 Tryz.ntmps140 ?_
 refine cC H ?_ ?_<;>intro H
 ·cases H
  exact ah
 ·cases H
  exact ah
def Bf (a0:Int) (a1:Int):Option Int:=
 bif ltB a0 a1 then(some a1) else(some a0)
theorem ym {a0:Int} {a1:Int} {r:Int} (H:Bf a0 a1=some r):Fn Tryz.prog 226 [aI a0,aI a1] [.c (.d (.i .i64 r))]:=by
 refine fI Tryz.func226 Tryz.ntmps226 ?_
 refine cC H ?_ ?_<;>intro H
 ·cases H
  exact ah
 ·cases H
  exact ah
def eJ (a0:Int):Option b8:=
 some (⟨[1,3,a0]⟩:b8)
theorem mN {a0:Int} {r:b8} (H:eJ a0=some r):Fn Tryz.prog 36 [aI a0] [.agg [.own 3 1 (r.Steps.map eI) r.Steps.length]]:=by
 refine fI Tryz.func36 Tryz.ntmps36 ?_
 cases H
 refine cG (wB 1 ([1,3,a0].length)) ?_
 exact ah
def gZ (a0:List Int):(Int×List Int)→Option (cp (Int×List Int) (List Int))
 |(v1,v2)=>bif ltB v1 ((a0.length:Nat):Int) then(Vj (ix a0 v1) fun x5=>bif cM 8 (v2++[WR (x5)]).length then(some (.next (WR (v1+1),(v2++[WR (x5)])))) else none) else(some (.done v2))
def ny (a0:List Int):Option (List Int):=
 Vj (iter (gZ a0) FU (0,[((a0.length:Nat):Int)])) fun(v4:List Int)=>some v4
theorem Bb {a0:List Int} {r:List Int} (H:ny a0=some r):Fn Tryz.prog 222 [aL (a0.map eU8)] [.c (.own 3 1 (r.map eI) r.length)]:=by
 refine fI Tryz.func222 Tryz.ntmps222 ?_
 obtain⟨v4,Hj,H⟩:=ob H
 refine jB ⟨[(3,.v (.c (.w 0 v4.length)))],[(0,w3 v4)],1⟩ ?_ ?_
 ·refine iT Hj (fun q=>⟨[(0,.v (.c (.d false (.l (a0.map eU8))))),(3,.v (.c (.w 0 q.2.length))),(4,tI q.1)],[(0,w3 q.2)],1⟩) ?_
  rintro⟨v1,v2⟩ o H
  try dsimp only
  refine wI ?_
  refine cC H ?_ ?_<;>intro H
  ·obtain⟨x5,hx5,H⟩:=ob H
   refine nA (xdT (enc:=eU8) hx5) ?_
   obtain⟨h,H⟩:=rq H
   refine sA (apT (enc:=eI) (ys:=v2) (zs:=[WR (x5)]) h) ?_
   cases H
   refine dU ?_
   exact wo
  ·cases H
   refine dT (fun hq=>?_)
   cases hq
   refine wI ?_
   exact wo
 cases H
 exact ah
def ge:Option b8:=
 some (⟨[1,2]⟩:b8)
theorem m9 {r:b8} (H:ge=some r):Fn Tryz.prog 215 [] [.agg [.own 3 1 (r.Steps.map eI) r.Steps.length]]:=by
 refine fI Tryz.func215 Tryz.ntmps215 ?_
 cases H
 refine cG (wB 1 ([1,2].length)) ?_
 exact ah
def mt (a0:List Int) (a1:List Int):Option Bool:=
 some (strB (uK a0) (uK a1))
theorem vc {a0:List Int} {a1:List Int} {r:Bool} (H:mt a0 a1=some r):Fn Tryz.prog 242 [aL (a0.map eU8),aL (a1.map eU8)] [.c (.d (.b r))]:=by
 refine fI Tryz.func242 Tryz.ntmps242 ?_
 cases H
 exact ah
end Go.AM
