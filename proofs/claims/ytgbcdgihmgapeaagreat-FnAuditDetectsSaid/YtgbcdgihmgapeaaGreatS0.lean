/- A part. -/
import Derived.Test.YtgbcdgihmgapeaaGreatG
set_option linter.unusedVariables false
open Option renaming some->ς,none->ξ
open Bool renaming true->ζ,false->η
open True renaming intro->θ
open Option renaming bind->abd
namespace Go.AM
open Go.Proofs
open Tryz
attribute [local irreducible] AWN NS AWO AWR AWC DR DZ cB eZ iter
set_option maxRecDepth 100000
set_option maxHeartbeats 40000000
def pB(a0:List ae):(Int×List ae)->Option (ct (Int×List ae) (List ae))
 |(v1,v2)=>cond (ltB v1 (a0.length:Int)) (abd (ix a0 v1) λx6=>abd (ix a0 v1) λx7=>cond (cW 1 (([]:List Int)++x7.bb).length) (cond (cW 32 (v2++[(⟨x6.cZ,(([]:List Int)++x7.bb)⟩:ae)]).length) (ς (.next (WR (v1+1),(v2++[(⟨x6.cZ,(([]:List Int)++x7.bb)⟩:ae)])))) ξ) ξ) (ς (.done v2))
def pL(a0:List ae):Option (List ae):=
 abd (iter (pB a0) FU (0,([]:List ae))) λ(v5:List ae)=>ς v5
instance WY{a0:List ae}{r:List ae}:FC prog (pL a0=ς r) 79 [aL (a0.map aX)] [.c (.own 167 2 (r.map aX) r.length)]:=⟨λH=>by
 refine fI func79 ntmps79 ?_
 refine aa H λv5 Hj H=>jB ⟨[(3,.v (.c (.w 0 v5.length)))],[(0,w167 v5)],1⟩ ?_ ?_
 .refine iT Hj (λq=>⟨[(0,.v (.c (.d η (.l (a0.map aX))))),(3,.v (.c (.w 0 q.2.length))),(4,tI q.1)],[(0,w167 q.2)],1⟩) ?_
  rintro⟨v1,v2⟩ o H
  refine ad ?_
  refine cC H ?_ ?_<;>intro H
  .refine zI (List.range 17) ?_
   refine aa H λx6 hx6 H=>zA (xdT (enc:=aX) hx6) ?_
   refine aa H λx7 hx7 H=>zA (xdT (enc:=aX) hx7) ?_
   obtain⟨h,H⟩:=rq H
   refine wA (Dx (enc:=eU8) (ys:=([]:List Int)) (zs:=x7.bb) [1] h) ?_
   obtain⟨h,H⟩:=rq H
   refine wA (apx (enc:=aX) (ys:=v2) (zs:=[(⟨x6.cZ,(([]:List Int)++x7.bb)⟩:ae)]) [0,3] h) ?_
   refine oZ (ds:=[1,0]) (by kernel_rfl) (by kernel_rfl) rfl ?_
   refine wI ?_
   cases H
   refine uU ?_
   refine aK (wS 0 4) ?_
   exact wo
  exact aE H
 cases H
 exact kn⟩
def lE(a0:bu):Option bu:=
 abd (pL a0.aG) λr1=>ς (⟨a0.bC,r1⟩:bu)
instance mM{a0:bu}{r:bu}:FC prog (lE a0=ς r) 47 [.agg (km a0)] [.agg (qM [.o] (ew r))]:=gG func47 ntmps47 (hz 1)
def sO(a0:Int):Option jN:=
 ς (⟨[1,3,a0]⟩:jN)
instance Ps{a0:Int}{r:jN}:FC prog (sO a0=ς r) 190 [aI a0] [.agg [.own 3 1 (r.Steps.map eI) r.Steps.length]]:=gG func190 ntmps190
def vp(a0:ab)(a1:Int):Option (bT×ab):=
 abd (ix a0.aZ a1) λx1=>cond (fH a0.aZ 0 a1) (cond (fH a0.aZ (WR (a1+1)) a0.aZ.length) (cond (cW 176 (([]:List bT)++(a0.aZ.take (a1).toNat)).length) (cond (cW 176 ((([]:List bT)++(a0.aZ.take (a1).toNat))++(a0.aZ.drop (WR (a1+1)).toNat)).length) (ς (x1,{a0 with aZ:=((([]:List bT)++(a0.aZ.take (a1).toNat))++(a0.aZ.drop (WR (a1+1)).toNat))})) ξ) ξ) ξ) ξ
instance YR{a0:ab}{a1:Int}{r:bT×ab}:FCV prog (vp a0 a1=ς r) 90 (nS a0) [tP 200,tI a1] (nS r.2) (.v (.agg (kM [.t] (yc r.1)))) []:=⟨λH=>by
 refine fV func90 ntmps90 ?_
 refine aa H λx1 hx1 H=>ea (vw 193 (hne:=HT (enc:=eU) hx1)) ?_
 refine nA (xwT hx1) ?_
 refine nA (oea (he:=gk _ hx1)) ?_
 refine zI [0,1,2,3,4,5,6,7,9,10,11,12,13,14,15,8,16,17,18,19] ?_
 obtain⟨hs5,H⟩:=rq H
 refine zA (Xo (enc:=eU) hs5 (by first|rfl|simp) rfl rfl rfl rfl) ?_
 obtain⟨hs6,H⟩:=rq H
 refine zA (Xp (enc:=eU) hs6 (by first|rfl|simp) rfl rfl rfl rfl) ?_
 obtain⟨h,H⟩:=rq H
 refine wA (apx (enc:=eU) (ys:=([]:List bT)) (zs:=a0.aZ.take (a1).toNat) [212,193] h (hs:=M9 (enc:=eU) hs5 rfl)) ?_
 obtain⟨h,H⟩:=rq H
 refine wA (apx (enc:=eU) (ys:=(([]:List bT)++(a0.aZ.take (a1).toNat))) (zs:=a0.aZ.drop (WR (a1+1)).toNat) [213,193] h (hs:=I6 (enc:=eU) hs6 (by first|rfl|simp) rfl)) ?_
 refine wA (spx 100178) ?_
 refine oZ (ds:=[212,213]) (by kernel_rfl) (by kernel_rfl) rfl ?_
 refine wI ?_
 cases H
 refine ci (Jn 193 214) ?_
 refine ci ((gA 193)) ?_
 exact dK⟩
def ny(a0:cM)(a1:Int):Option Bool:=
 ς (eqB a1 a0.wy)
instance KL{a0:cM}{a1:Int}{r:Bool}:FC prog (ny a0 a1=ς r) 205 [.agg (tM a0),aI a1] [.c (.d (.b r))]:=gG func205 ntmps205
def gT(a0:bu)(a1:Int):(Int×List ae)->Option (ct (Int×List ae) (List ae))
 |(v2,v3)=>cond (ltB v2 (a0.aG.length:Int)) (abd (ix a0.aG v2) λx9=>abd (cond (leB a1 x9.cZ) (abd (ix a0.aG v2) λx11=>abd (ix a0.aG v2) λx12=>cond (cW 1 (([]:List Int)++x12.bb).length) (cond (cW 32 (v3++[(⟨x11.cZ,(([]:List Int)++x12.bb)⟩:ae)]).length) (ς (v3++[(⟨x11.cZ,(([]:List Int)++x12.bb)⟩:ae)])) ξ) ξ) (ς v3)) λ(v10:List ae)=>ς (.next (WR (v2+1),v10))) (ς (.done v3))
def jI(a0:bu)(a1:Int):Option bu:=
 abd (lE a0) λr1=>cond (ltB a0.bC a1) (ς r1) (abd (iter (gT a0 a1) FU (0,([]:List ae))) λ(v8:List ae)=>ς (⟨r1.bC,v8⟩:bu))
instance Ju{a0:bu}{a1:Int}{r:bu}:FC prog (jI a0 a1=ς r) 208 [.agg (km a0),aI a1] [.agg (qM [.o] (ew r))]:=⟨λH=>by
 refine fI func208 ntmps208 ?_
 refine aa H λr1 q1 H=>nA (ca (hF:=mM.h q1)) ?_
 refine cC H ?_ ?_<;>intro H
 .exact ao H
 refine aa H λv8 Hj H=>jB ⟨[(4,tP 1),(5,tP 3)],(oM [.w 4] 3 83 (ew (⟨r1.bC,v8⟩:bu))++[(1,.var 83 (kM [.z] (ew pF)))]),5⟩ ?_ ?_
 .refine iT Hj (λq=>⟨[(1,tI a1),(2,tP 0),(4,tP 1),(5,tP 3),(6,tI q.1)],(oM [.w 4] 3 83 (ew (⟨r1.bC,q.2⟩:bu))++[(0,.var 83 (kM [.f] (ew a0))),(1,.var 83 (kM [.z] (ew pF)))]),5⟩) ?_ (by refine aK (wB 4 (([]:List ae).length)) ?_;exact wo)
  rintro⟨v2,v3⟩ o H
  refine ad ?_
  refine cC H ?_ ?_<;>intro H
  .refine aa H λx9 hx9 H=>nA (xdT (enc:=aX) hx9) ?_
   refine aa H λv10 Hj H=>jA ⟨[(1,tI a1),(2,tP 0),(4,tP 1),(5,tP 3),(6,tI v2)],(oM [.w 4] 3 83 (ew (⟨r1.bC,v10⟩:bu))++[(0,.var 83 (kM [.f] (ew a0))),(1,.var 83 (kM [.z] (ew pF)))]),5⟩ ?_ ?_
   .refine cC Hj ?_ ?_<;>intro H
    .refine zI (List.range 21) ?_
     refine aa H λx11 hx11 H=>zA (xdT (enc:=aX) hx11) ?_
     refine aa H λx12 hx12 H=>zA (xdT (enc:=aX) hx12) ?_
     obtain⟨h,H⟩:=rq H
     refine wA (Dx (enc:=eU8) (ys:=([]:List Int)) (zs:=x12.bb) [5] h) ?_
     obtain⟨h,H⟩:=rq H
     refine oY (ds:=[5]) (by kernel_rfl) (by kernel_rfl) rfl (by kernel_rfl) cr (jP rfl (apT (enc:=aX) (ys:=v3) (zs:=[(⟨x11.cZ,(([]:List Int)++x12.bb)⟩:ae)]) h)) cr rfl ?_
     refine wI ?_
     refine wA (spx 100204) ?_
     exact ai H
    exact ai H
   exact aN H
  exact aE H
 cases H
 exact kn⟩
def CN(a0:List Int):Option bD:=
 cond (cW 1 (([]:List Int)++a0).length) (ς (⟨(([]:List Int)++a0)⟩:bD)) ξ
instance YH{a0:List Int}{r:bD}:FC prog (CN a0=ς r) 119 [aL (a0.map eU8)] [.agg [.own 5 1 (r.bb.map eU8) r.bb.length]]:=gG func119 ntmps119
def xt(a0:lN)(a1:Int):Option aC:=
 ς {T3 with dx:=a0,bv:=a1,bg:={dy with bC:=1}}
instance VN{a0:lN}{a1:Int}{r:aC}:FC prog (xt a0 a1=ς r) 114 [.agg (Fg a0),aI a1] [.agg (qM [.z,.z] (qa r))]:=gG func114 ntmps114
end Go.AM
