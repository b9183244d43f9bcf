/- A part. -/
import Derived.Test.YtigcecmbknoijaaGreatDoorS1
import Derived.Test.YtigcecmbknoijaaGreatDoorS2
import Derived.Test.YtigcecmbknoijaaGreatDoorS3
import Derived.Test.YtigcecmbknoijaaGreatDoorS4
set_option linter.unusedVariables false
open Option renaming some->ς,none->ξ
open Bool renaming true->ζ,false->η
open True renaming intro->θ
open Option renaming bind->ZS
open List renaming range->v0
namespace Go.AM
open Go.Proofs
open Tryz
attribute [local irreducible] AWN NS AWO AWR AWC DR DZ cM eN iter
set_option maxRecDepth 100000
set_option maxHeartbeats 40000000
variable{a0:Int}
def sV(a0:aX):Option aX:=
 ZS (sW a0.aA) λr1=>ZS (qq a0.a8) λr2=>ς (⟨a0.bF,r1,r2⟩:aX)
instance CH{a0:aX}{r:aX}:FC prog (sV a0=ς r) 167 [.agg (oX a0)] [.agg (qM [.o,.o] (bP r))]:=gG func167 ntmps167 (hz 1)
def jJ(a0:ax):Option ax:=
 ZS (sV a0.bL) λr1=>ς {a0 with bL:=r1}
instance Xv{a0:ax}{r:ax}:FC prog (jJ a0=ς r) 121 [.agg (eh a0)] [.agg (qM [.o,.o] (fy r))]:=gG func121 ntmps121
def n8(a0:Int)(a1:Int):Option Int:=
 ZS (eF a0 [9,a1]) λr1=>ZS (Cr 1 r1) λr2=>ς r2
instance US{a1:Int}{r:Int}:FC prog (n8 a0 a1=ς r) 177 [aI a0,aI a1] [.c (.d (.i .i64 r))]:=gG func177 ntmps177
def ky(a1:kj):(Int×Int)->Option (cH (Int×Int) (Int))
 |(v1,v2)=>cond (ltB v2 (a1.Steps.length:Int)) (ZS (ix a1.Steps v2) λx6=>ZS (n8 v1 x6) λr7=>ς (.next (r7,WR (v2+1)))) (ς (.done v1))
def oI(a0:Int)(a1:kj):Option Int:=
 ZS (iter (ky a1) FU (a0,0)) λ(v5:Int)=>ς v5
instance Tq{a1:kj}{r:Int}:FC prog (oI a0 a1=ς r) 170 [aI a0,.agg (Nc a1)] [.c (.d (.i .i64 r))]:=gG func170 ntmps170 (hm 0 5 6) (he 0 5 6)
def qo(a0:Int)(a1:aT):Option Int:=
 ZS (mZ) λr1=>ZS (oI a0 r1) λr2=>ZS (eF r2 [23,a1.bp,a1.bg,a1.ag,a1.aZ,a1.bZ]) λr3=>ς r3
instance UW{a1:aT}{r:Int}:FC prog (qo a0 a1=ς r) 133 [aI a0,.agg (eM a1)] [.c (.d (.i .i64 r))]:=gG func133 ntmps133
def gK(a0:Int)(a1:aT):Option Bool:=
 ZS (qo a0 a1) λr1=>ς (eqB a1.kf r1)
instance OR{a1:aT}{r:Bool}:FC prog (gK a0 a1=ς r) 127 [aI a0,.agg (eM a1)] [.c (.d (.b r))]:=gG func127 ntmps127
def iB(a0:Int)(a1:aT):Option aT:=
 ZS (qo a0 a1) λr1=>ς {a1 with kf:=r1}
instance Tu{a1:aT}{r:aT}:FC prog (iB a0 a1=ς r) 82 [aI a0,.agg (eM a1)] [.agg (qM [] (i6 r))]:=gG func82 ntmps82
def sY(a0:ax):Option aT:=
 ZS (iB a0.bj (⟨5,a0.bg,a0.ag,a0.aZ,0,c8,0⟩:aT)) λr1=>ς r1
instance Xz{a0:ax}{r:aT}:FC prog (sY a0=ς r) 129 [.agg (eh a0)] [.agg (qM [] (i6 r))]:=gG func129 ntmps129
def vJ(a0:ax):Option bv:=
 ZS (sY {a0 with aZ:=WR (a0.aZ+1),dx:=η}) λr1=>ZS (lx {a0 with aZ:=WR (a0.aZ+1),dx:=η} r1) λr2=>ς r2
instance Xx{a0:ax}{r:bv}:FCV prog (vJ a0=ς r) 128 [] [.v (.agg (kM [.f,.f] (fy a0)))] [] (.v (.agg (kM [.f,.f,.w 210] (eE r)))) [(210,w79 r.cT)]:=gV func128 ntmps128 (hz 3)
def oN(a0:ax):Option bv:=
 ZS (jJ a0) λr1=>cond (ltB 0 a0.hP) (ς (⟨{r1 with hP:=WR (a0.hP-1)},([]:List aT)⟩:bv)) (cond (eqB a0.bB 1) (ZS (qr a0) λr2=>ZS (lx r1 r2) λr3=>ς r3) (ZS (cond (eqB a0.bB 2) (ς (!a0.dx)) (ς η)) λ(v4:Bool)=>cond v4 (ZS (sY a0) λr5=>ZS (lx r1 r5) λr6=>ς r6) (ς (⟨r1,([]:List aT)⟩:bv))))
instance Tv{a0:ax}{r:bv}:FC prog (oN a0=ς r) 84 [.agg (eh a0)] [.agg (qM [.d,.d,.o] (eE r))]:=gG func84 ntmps84 (hz 5) (hb 26 22) (hz 7)
def pJ(a0:Int)(a1:Int):Option Int:=
 ZS (rT a1) λr1=>ZS (oI a0 r1) λr2=>ς r2
instance VQ{a1:Int}{r:Int}:FC prog (pJ a0 a1=ς r) 137 [aI a0,aI a1] [.c (.d (.i .i64 r))]:=gG func137 ntmps137
def eK(a1:ab)(r1:aX):Int->Option (cH (Int) (Int))
 |v6=>ZS (cond (ltB v6 (r1.aA.length:Int)) (ZS (ix r1.aA v6) λx11=>ς (ltB x11.c9 a1.c9)) (ς η)) λ(v10:Bool)=>cond v10 (ς (.next (WR (v6+1)))) (ς (.done v6))
def qX:aX->Option (cH (aX) (aX))
 |v15=>ZS (cond (ltB 0 (v15.aA.length:Int)) (ZS (ix v15.aA 0) λx24=>cond (eqB x24.c9 v15.bF) (ς (ltB (v15.a8.length:Int) 24)) (ς η)) (ς η)) λ(v23:Bool)=>cond v23 (ZS (ix v15.aA 0) λx25=>cond (cN 24 (v15.a8++[(⟨x25.bm⟩:b8)]).length) (cond (fa v15.aA 1 v15.aA.length) (ς (.next (⟨WR (v15.bF+1),v15.aA.drop ((1:Int)).toNat,(v15.a8++[(⟨x25.bm⟩:b8)])⟩:aX))) ξ) ξ) (ς (.done v15))
def mX(a0:aX)(a1:ab):Option aX:=
 ZS (sV a0) λr1=>ZS (gR a0) λr2=>ZS (cond (!r2) (ς ζ) (cond (ltB 60 (a1.bm.length:Int)) (ς ζ) (ZS (cU a1.c9 a0.bF (WR ((WR (a0.bF+8))-1))) λr4=>cond (!r4) (ς ζ) (ZS (yX a0.aA a1.c9) λr5=>cond (leB 0 r5) (ς ζ) (ς (leB 24 (a0.a8.length:Int))))))) λ(v3:Bool)=>cond v3 (ς r1) (ZS (iter (eK a1 r1) FU 0) λ(v9:Int)=>cond (cN 1 (([]:List Int)++a1.bm).length) (cond (fa r1.aA 0 v9) (cond (fa r1.aA v9 r1.aA.length) (cond (cN 32 (([]:List ab)++(r1.aA.take (v9).toNat)).length) (cond (cN 32 ((([]:List ab)++(r1.aA.take (v9).toNat))++[(⟨a1.c9,(([]:List Int)++a1.bm)⟩:ab)]).length) (cond (cN 32 (((([]:List ab)++(r1.aA.take (v9).toNat))++[(⟨a1.c9,(([]:List Int)++a1.bm)⟩:ab)])++(r1.aA.drop (v9).toNat)).length) (ZS (iter (qX) FU {r1 with aA:=(((([]:List ab)++(r1.aA.take (v9).toNat))++[(⟨a1.c9,(([]:List Int)++a1.bm)⟩:ab)])++(r1.aA.drop (v9).toNat))}) λ(v22:aX)=>ZS (cond (eqB (v22.a8.length:Int) 24) (ς ([]:List ab)) (ς v22.aA)) λ(v26:List ab)=>ς {v22 with aA:=v26}) ξ) ξ) ξ) ξ) ξ) ξ)
instance Of{a0:aX}{a1:ab}{r:aX}:FC prog (mX a0 a1=ς r) 135 [.agg (oX a0),.agg (aY a1)] [.agg (qM [.d,.o] (bP r))]:=⟨λH=>by
 refine fI func135 ntmps135 ?_
 refine aa H λr1 q1 H=>nA (ca (hF:=CH.h q1)) ?_
 refine aa H λr2 q2 H=>nA (ca (hF:=qk.h q2)) ?_
 refine aa H λv3 Hj H=>jR ⟨[(3,tP 1),(4,tP 2),(5,tP 5),(44,tB v3)],(oM [.w 3,.w 4] 5 58 (bP r1)++[(1,.var 163 (kM [.f] (dR a1))),(2,.var 58 (kM [.z,.z] (bP ct)))]),6⟩ ?_ ?_
 .refine gC Hj ?_ ?_<;>intro H
  .exact ai H
  refine gC H ?_ ?_<;>intro H
  .exact ai H
  refine aa H λr4 q4 H=>nG (ca (hF:=MC.h q4)) ?_
  refine gC H ?_ ?_<;>intro H
  .exact ai H
  refine aa H λr5 q5 H=>nG (ca (hF:=CG.h q5)) ?_
  exact az H
 refine cC H ?_ ?_<;>intro H
 .cases H
  refine Bv (eG (o:=3)) ?_
  refine Bv (fP (o:=2)) ?_
  exact dK
 refine aa H λv9 Hj H=>jB ⟨[(3,tP 1),(4,tP 2),(5,tP 5),(6,tI v9)],(oM [.w 3,.w 4] 5 58 (bP r1)++[(1,.var 163 (kM [.f] (dR a1))),(2,.var 58 (kM [.z,.z] (bP ct)))]),6⟩ ?_ ?_
 .refine iT Hj (λq=>⟨[(3,tP 1),(4,tP 2),(5,tP 5),(6,tI q)],(oM [.w 3,.w 4] 5 58 (bP r1)++[(1,.var 163 (kM [.f] (dR a1))),(2,.var 58 (kM [.z,.z] (bP ct)))]),6⟩) ?_
  rintro v6 o H
  refine ad ?_
  refine dI ?_
  refine aa H λv10 Hj H=>yl ⟨[(3,tP 1),(4,tP 2),(5,tP 5),(6,tI v6),(61,tB v10)],(oM [.w 3,.w 4] 5 58 (bP r1)++[(1,.var 163 (kM [.f] (dR a1))),(2,.var 58 (kM [.z,.z] (bP ct)))]),6⟩ ?_ ?_
  .have H:=Hj
   refine wI ?_
   refine dC H ?_ ?_<;>intro H
   .refine aa H λx11 hx11 H=>dG (xwT hx11) ?_
    refine dG (oe (he:=js _ hx11)) ?_
    refine wI ?_
    exact ai H
   refine wI ?_
   exact ai H
  refine wI ?_
  refine cC H ?_ ?_<;>intro H
  .refine wI ?_
   exact aN H
  exact aE H
 refine zI [0,1,2,3,4,7,5,6,8] ?_
 obtain⟨h,H⟩:=rq H
 refine wA (Db (enc:=eU8) (ys:=([]:List Int)) (zs:=a1.bm) [6] h) ?_
 refine wA (spx 100160) ?_
 refine lA (ds:=[6]) (by kernel_rfl) (by kernel_rfl) rfl ?_
 refine wI ?_
 refine fo (eG (o:=8)) ?_
 refine fo (fc (k:=69)) ?_
 refine fo (fc (k:=70)) ?_
 refine fo (fP (o:=7)) ?_
 refine zI [0,1,2,3,4,6,7,9,10,11,12,5,8,13,14,15] ?_
 obtain⟨hs6,H⟩:=rq H
 refine zA (TR (enc:=aY) hs6 (by first|rfl|simp) rfl rfl rfl rfl) ?_
 obtain⟨hs7,H⟩:=rq H
 refine zA (TS (enc:=aY) hs7 (by first|rfl|simp) rfl rfl rfl rfl) ?_
 obtain⟨h,H⟩:=rq H
 refine wA (apx (enc:=aY) (ys:=([]:List ab)) (zs:=r1.aA.take (v9).toNat) [9,3] h (hs:=IO (enc:=aY) hs6 rfl)) ?_
 obtain⟨h,H⟩:=rq H
 refine wA (apx (enc:=aY) (ys:=(([]:List ab)++(r1.aA.take (v9).toNat))) (zs:=[(⟨a1.c9,(([]:List Int)++a1.bm)⟩:ab)]) [11,10] h) ?_
 obtain⟨h,H⟩:=rq H
 refine wA (apx (enc:=aY) (ys:=((([]:List ab)++(r1.aA.take (v9).toNat))++[(⟨a1.c9,(([]:List Int)++a1.bm)⟩:ab)])) (zs:=r1.aA.drop (v9).toNat) [12,3] h (hs:=Et (enc:=aY) hs7 (by first|rfl|simp) rfl)) ?_
 refine wA (spx 100159) ?_
 refine lA (ds:=[9,11,12]) (by kernel_rfl) (by kernel_rfl) rfl ?_
 refine wI ?_
 refine aa H λv22 Hj H=>jB ⟨[(4,tP 2),(5,tP 5)],(oM [.t,.w 4] 5 58 (bP v22)++[(2,.var 58 (kM [.z,.z] (bP ct)))]),14⟩ ?_ ?_
 .refine iT Hj (λq=>⟨[(4,tP 2),(5,tP 5)],(oM [.t,.w 4] 5 58 (bP q)++[(2,.var 58 (kM [.z,.z] (bP ct)))]),14⟩) ?_ (by refine aJ (eG (o:=13)) ?_;refine aJ (fc (k:=84)) ?_;refine aJ (fP (o:=5)) ?_;exact wo)
  rintro v15 o H
  refine ad ?_
  refine dI ?_
  refine aa H λv23 Hj H=>yl ⟨[(4,tP 2),(5,tP 5),(105,tB v23)],(oM [.t,.w 4] 5 58 (bP v15)++[(2,.var 58 (kM [.z,.z] (bP ct)))]),14⟩ ?_ ?_
  .have H:=Hj
   refine wI ?_
   refine dC H ?_ ?_<;>intro H
   .refine aa H λx24 hx24 H=>dG (xdT (enc:=aY) hx24) ?_
    refine dC H ?_ ?_<;>intro H
    .refine wI ?_
     exact ai H
    refine wI ?_
    exact ai H
   refine wI ?_
   exact ai H
  refine wI ?_
  refine cC H ?_ ?_<;>intro H
  .refine zI (v0 12) ?_
   refine aa H λx25 hx25 H=>zA (xdT (enc:=aY) hx25) ?_
   obtain⟨h,H⟩:=rq H
   refine zB cz (kh rfl (apT (enc:=er) (ys:=v15.a8) (zs:=[(⟨x25.bm⟩:b8)]) h)) cz ?_
   refine wA (spx 100158) ?_
   obtain⟨h,H⟩:=rq H
   refine nA (Pn (enc:=aY) h (λ_=>rfl) rfl rfl rfl) ?_
   exact aN H
  exact aE H
 refine aa H λv26 Hj H=>jA ⟨[(4,tP 2),(5,tP 5)],(oM [.t,.w 4] 5 58 (bP {v22 with aA:=v26})++[(2,.var 58 (kM [.z,.z] (bP ct)))]),14⟩ ?_ ?_
 .refine cC Hj ?_ ?_<;>intro H
  .cases H
   refine aJ (eG (o:=14)) ?_
   refine aJ (fc (k:=129)) ?_
   refine aJ (fP (o:=5)) ?_
   exact wo
  exact ai H
 cases H
 exact dK⟩
def iA(a0:be)(a1:List Int):Option (be×ab×Bool):=
 ZS (lZ a0) λr1=>cond (cN 1 (([]:List Int)++a1).length) (cond (cN 1 (([]:List Int)++a1).length) (cond (cN 32 (r1.aM++[(⟨a0.bF,(([]:List Int)++a1)⟩:ab)]).length) (ZS (kw (⟨WR (a0.bF+1),(r1.aM++[(⟨a0.bF,(([]:List Int)++a1)⟩:ab)])⟩:be)) λr2=>cond (!r2) (ZS (lZ a0) λr3=>ς (r3,kV,η)) (ς ((⟨WR (a0.bF+1),(r1.aM++[(⟨a0.bF,(([]:List Int)++a1)⟩:ab)])⟩:be),(⟨a0.bF,(([]:List Int)++a1)⟩:ab),ζ))) ξ) ξ) ξ
theorem vq{a0:be}{a1:List Int}{r:be×ab×Bool}(H:iA a0 a1=ς r)(hflag:r.2.2=ζ):Fn prog 96 [.agg (mA a0),aL (a1.map eU8)] [.agg (qM [.o] (dt r.1)),.agg (qM [.o] (dR r.2.1)),.c (.d (.b r.2.2))]:=by
 refine fI func96 ntmps96 ?_
 refine aa H λr1 q1 H=>nA (ca (hF:=nm.h q1)) ?_
 refine zI [0,1,2,3,6,4,5,7] ?_
 obtain⟨h,H⟩:=rq H
 refine wA (Db (enc:=eU8) (ys:=([]:List Int)) (zs:=a1) [5] h) ?_
 refine wA (spx 100290) ?_
 refine lA (ds:=[5]) (by kernel_rfl) (by kernel_rfl) rfl ?_
 refine wI ?_
 refine zI (v0 12) ?_
 obtain⟨h,H⟩:=rq H
 refine wA (Dz (enc:=eU8) (ys:=([]:List Int)) (zs:=a1) [8] h) ?_
 obtain⟨h,H⟩:=rq H
 refine og (ds:=[8]) (by kernel_rfl) (by kernel_rfl) rfl (by kernel_rfl) cz (kh rfl (apT (enc:=aY) (ys:=r1.aM) (zs:=[(⟨a0.bF,(([]:List Int)++a1)⟩:ab)]) h)) cz rfl ?_
 refine wI ?_
 refine wA (spx 100289) ?_
 refine aa H λr2 q2 H=>nA (ca (hF:=sM.h q2)) ?_
 refine cC H ?_ ?_<;>intro H
 .refine aa H λr3 q3 H=>nA (ca (hF:=nm.h q3)) ?_
  cases H
  cases hflag
 refine zI (v0 5) ?_
 refine wA (spx 100288) ?_
 refine wA (spx 100287) ?_
 exact ao H
theorem vp{a0:be}{a1:List Int}{r:be×ab×Bool}(H:iA a0 a1=ς r)(hflag:r.2.2=η):Fn prog 96 [.agg (mA a0),aL (a1.map eU8)] [.agg (qM [.o] (dt r.1)),.agg (qM [.z] (dR r.2.1)),.c (.d (.b r.2.2))]:=by
 refine fI func96 ntmps96 ?_
 refine aa H λr1 q1 H=>nA (ca (hF:=nm.h q1)) ?_
 refine zI [0,1,2,3,6,4,5,7] ?_
 obtain⟨h,H⟩:=rq H
 refine wA (Db (enc:=eU8) (ys:=([]:List Int)) (zs:=a1) [5] h) ?_
 refine wA (spx 100294) ?_
 refine lA (ds:=[5]) (by kernel_rfl) (by kernel_rfl) rfl ?_
 refine wI ?_
 refine zI (v0 12) ?_
 obtain⟨h,H⟩:=rq H
 refine wA (Dz (enc:=eU8) (ys:=([]:List Int)) (zs:=a1) [8] h) ?_
 obtain⟨h,H⟩:=rq H
 refine og (ds:=[8]) (by kernel_rfl) (by kernel_rfl) rfl (by kernel_rfl) cz (kh rfl (apT (enc:=aY) (ys:=r1.aM) (zs:=[(⟨a0.bF,(([]:List Int)++a1)⟩:ab)]) h)) cz rfl ?_
 refine wI ?_
 refine wA (spx 100293) ?_
 refine aa H λr2 q2 H=>nA (ca (hF:=sM.h q2)) ?_
 refine cC H ?_ ?_<;>intro H
 .refine aa H λr3 q3 H=>nA (ca (hF:=nm.h q3)) ?_
  exact ao H
 refine zI (v0 5) ?_
 refine wA (spx 100292) ?_
 refine wA (spx 100291) ?_
 cases H
 cases hflag
def sZ(a0:ah)(a1:aT):Option Bool:=
 ZS (cond (eqB a0.bB 1) (cond (eqB a1.ag a0.ag) (ZS (gK a0.bj a1) λr2=>ς r2) (ς η)) (ς η)) λ(v1:Bool)=>ς v1
instance VZ{a0:ah}{a1:aT}{r:Bool}:FC prog (sZ a0 a1=ς r) 248 [.agg (cQ a0),.agg (eM a1)] [.c (.d (.b r))]:=gG func248 ntmps248 (hb 8 4)
end Go.AM
