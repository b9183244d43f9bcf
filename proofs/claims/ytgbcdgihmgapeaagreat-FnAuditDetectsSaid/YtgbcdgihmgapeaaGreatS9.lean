/- A part. -/
import Derived.Test.YtgbcdgihmgapeaaGreatS0
import Derived.Test.YtgbcdgihmgapeaaGreatS1
import Derived.Test.YtgbcdgihmgapeaaGreatS3
import Derived.Test.YtgbcdgihmgapeaaGreatS4
set_option linter.unusedVariables false
open Option renaming some->ς,none->ξ
open Bool renaming true->ζ,false->η
open True renaming intro->θ
open Option renaming bind->abd
open List renaming range->Zm
namespace Go.AM
open Go.Proofs
open Tryz
attribute [local irreducible] AWN NS AWO AWR AWC DR DZ cB eZ iter
set_option maxRecDepth 100000
set_option maxHeartbeats 40000000
def tp(a0:be):Option be:=
 abd (pL a0.aO) λr1=>abd (nB a0.aP) λr2=>ς (⟨a0.bC,r1,r2⟩:be)
instance KW{a0:be}{r:be}:FC prog (tp a0=ς r) 44 [.agg (i9 a0)] [.agg (qM [.o,.o] (cH r))]:=gG func44 ntmps44 (hz 1)
def iH(a0:aC):Option aC:=
 abd (tp a0.bg) λr1=>ς {a0 with bg:=r1}
instance YJ{a0:aC}{r:aC}:FC prog (iH a0=ς r) 26 [.agg (di a0)] [.agg (qM [.o,.o] (qa r))]:=gG func26 ntmps26
def ov(a0:bu)(a1:List Int):Option (bu×ae×Bool):=
 abd (lE a0) λr1=>cond (cW 1 (([]:List Int)++a1).length) (cond (cW 1 (([]:List Int)++a1).length) (cond (cW 32 (r1.aG++[(⟨a0.bC,(([]:List Int)++a1)⟩:ae)]).length) (abd (jW (⟨WR (a0.bC+1),(r1.aG++[(⟨a0.bC,(([]:List Int)++a1)⟩:ae)])⟩:bu)) λr2=>cond (!r2) (abd (lE a0) λr3=>ς (r3,kB,η)) (ς ((⟨WR (a0.bC+1),(r1.aG++[(⟨a0.bC,(([]:List Int)++a1)⟩:ae)])⟩:bu),(⟨a0.bC,(([]:List Int)++a1)⟩:ae),ζ))) ξ) ξ) ξ
theorem CE{a0:bu}{a1:List Int}{r:bu×ae×Bool}(H:ov a0 a1=ς r)(hflag:r.2.2=ζ):Fn prog 174 [.agg (km a0),aL (a1.map eU8)] [.agg (qM [.o] (ew r.1)),.agg (qM [.o] (eW r.2.1)),.c (.d (.b r.2.2))]:=by
 refine fI func174 ntmps174 ?_
 refine aa H λr1 q1 H=>nA (ca (hF:=mM.h q1)) ?_
 refine zI [0,1,2,3,6,4,5,7] ?_
 obtain⟨h,H⟩:=rq H
 refine wA (E5 (enc:=eU8) (ys:=([]:List Int)) (zs:=a1) [5] h) ?_
 refine wA (spx 100158) ?_
 refine oZ (ds:=[5]) (by kernel_rfl) (by kernel_rfl) rfl ?_
 refine wI ?_
 refine zI (Zm 12) ?_
 obtain⟨h,H⟩:=rq H
 refine wA (Dx (enc:=eU8) (ys:=([]:List Int)) (zs:=a1) [8] h) ?_
 obtain⟨h,H⟩:=rq H
 refine oY (ds:=[8]) (by kernel_rfl) (by kernel_rfl) rfl (by kernel_rfl) cr (jP rfl (apT (enc:=aX) (ys:=r1.aG) (zs:=[(⟨a0.bC,(([]:List Int)++a1)⟩:ae)]) h)) cr rfl ?_
 refine wI ?_
 refine wA (spx 100157) ?_
 refine aa H λr2 q2 H=>nA (ca (hF:=ti.h q2)) ?_
 refine cC H ?_ ?_<;>intro H
 .refine aa H λr3 q3 H=>nA (ca (hF:=mM.h q3)) ?_
  cases H
  cases hflag
 refine zI (Zm 5) ?_
 refine wA (spx 100156) ?_
 refine wA (spx 100155) ?_
 exact ao H
theorem CD{a0:bu}{a1:List Int}{r:bu×ae×Bool}(H:ov a0 a1=ς r)(hflag:r.2.2=η):Fn prog 174 [.agg (km a0),aL (a1.map eU8)] [.agg (qM [.o] (ew r.1)),.agg (qM [.z] (eW r.2.1)),.c (.d (.b r.2.2))]:=by
 refine fI func174 ntmps174 ?_
 refine aa H λr1 q1 H=>nA (ca (hF:=mM.h q1)) ?_
 refine zI [0,1,2,3,6,4,5,7] ?_
 obtain⟨h,H⟩:=rq H
 refine wA (E5 (enc:=eU8) (ys:=([]:List Int)) (zs:=a1) [5] h) ?_
 refine wA (spx 100162) ?_
 refine oZ (ds:=[5]) (by kernel_rfl) (by kernel_rfl) rfl ?_
 refine wI ?_
 refine zI (Zm 12) ?_
 obtain⟨h,H⟩:=rq H
 refine wA (Dx (enc:=eU8) (ys:=([]:List Int)) (zs:=a1) [8] h) ?_
 obtain⟨h,H⟩:=rq H
 refine oY (ds:=[8]) (by kernel_rfl) (by kernel_rfl) rfl (by kernel_rfl) cr (jP rfl (apT (enc:=aX) (ys:=r1.aG) (zs:=[(⟨a0.bC,(([]:List Int)++a1)⟩:ae)]) h)) cr rfl ?_
 refine wI ?_
 refine wA (spx 100161) ?_
 refine aa H λr2 q2 H=>nA (ca (hF:=ti.h q2)) ?_
 refine cC H ?_ ?_<;>intro H
 .refine aa H λr3 q3 H=>nA (ca (hF:=mM.h q3)) ?_
  exact ao H
 refine zI (Zm 5) ?_
 refine wA (spx 100160) ?_
 refine wA (spx 100159) ?_
 cases H
 cases hflag
def qF(a0:aC):Option bj:=
 abd (iH a0) λr1=>ς (⟨r1,([]:List aM)⟩:bj)
instance YL{a0:aC}{r:bj}:FC prog (qF a0=ς r) 120 [.agg (di a0)] [.agg (qM [.o,.o,.o] (eb r))]:=gG func120 ntmps120
def jK(a1:ae)(r1:be):Int->Option (ct (Int) (Int))
 |v6=>abd (cond (ltB v6 (r1.aO.length:Int)) (abd (ix r1.aO v6) λx11=>ς (ltB x11.cZ a1.cZ)) (ς η)) λ(v10:Bool)=>cond v10 (ς (.next (WR (v6+1)))) (ς (.done v6))
def jL:be->Option (ct (be) (be))
 |v15=>abd (cond (ltB 0 (v15.aO.length:Int)) (abd (ix v15.aO 0) λx24=>cond (eqB x24.cZ v15.bC) (ς (ltB (v15.aP.length:Int) 24)) (ς η)) (ς η)) λ(v23:Bool)=>cond v23 (abd (ix v15.aO 0) λx25=>cond (cW 24 (v15.aP++[(⟨x25.bb⟩:bD)]).length) (cond (fH v15.aO 1 v15.aO.length) (ς (.next (⟨WR (v15.bC+1),v15.aO.drop ((1:Int)).toNat,(v15.aP++[(⟨x25.bb⟩:bD)])⟩:be))) ξ) ξ) (ς (.done v15))
def mE(a0:be)(a1:ae):Option be:=
 abd (tp a0) λr1=>abd (iC a0) λr2=>abd (cond (!r2) (ς ζ) (cond (ltB 60 (a1.bb.length:Int)) (ς ζ) (abd (cQ a1.cZ a0.bC (WR ((WR (a0.bC+8))-1))) λr4=>cond (!r4) (ς ζ) (abd (CM a0.aO a1.cZ) λr5=>cond (leB 0 r5) (ς ζ) (ς (leB 24 (a0.aP.length:Int))))))) λ(v3:Bool)=>cond v3 (ς r1) (abd (iter (jK a1 r1) FU 0) λ(v9:Int)=>cond (cW 1 (([]:List Int)++a1.bb).length) (cond (fH r1.aO 0 v9) (cond (fH r1.aO v9 r1.aO.length) (cond (cW 32 (([]:List ae)++(r1.aO.take (v9).toNat)).length) (cond (cW 32 ((([]:List ae)++(r1.aO.take (v9).toNat))++[(⟨a1.cZ,(([]:List Int)++a1.bb)⟩:ae)]).length) (cond (cW 32 (((([]:List ae)++(r1.aO.take (v9).toNat))++[(⟨a1.cZ,(([]:List Int)++a1.bb)⟩:ae)])++(r1.aO.drop (v9).toNat)).length) (abd (iter (jL) FU {r1 with aO:=(((([]:List ae)++(r1.aO.take (v9).toNat))++[(⟨a1.cZ,(([]:List Int)++a1.bb)⟩:ae)])++(r1.aO.drop (v9).toNat))}) λ(v22:be)=>abd (cond (eqB (v22.aP.length:Int) 24) (ς ([]:List ae)) (ς v22.aO)) λ(v26:List ae)=>ς {v22 with aO:=v26}) ξ) ξ) ξ) ξ) ξ) ξ)
instance OV{a0:be}{a1:ae}{r:be}:FC prog (mE a0 a1=ς r) 182 [.agg (i9 a0),.agg (aX a1)] [.agg (qM [.d,.o] (cH r))]:=⟨λH=>by
 refine fI func182 ntmps182 ?_
 refine aa H λr1 q1 H=>nA (ca (hF:=KW.h q1)) ?_
 refine aa H λr2 q2 H=>nA (ca (hF:=xq.h q2)) ?_
 refine aa H λv3 Hj H=>jR ⟨[(3,tP 1),(4,tP 2),(5,tP 5),(44,tB v3)],(oM [.w 3,.w 4] 5 43 (cH r1)++[(1,.var 167 (kM [.f] (eW a1))),(2,.var 43 (kM [.z,.z] (cH dy)))]),6⟩ ?_ ?_
 .refine gC Hj ?_ ?_<;>intro H
  .exact ai H
  refine gC H ?_ ?_<;>intro H
  .exact ai H
  refine aa H λr4 q4 H=>nG (ca (hF:=V2.h q4)) ?_
  refine gC H ?_ ?_<;>intro H
  .exact ai H
  refine aa H λr5 q5 H=>nG (ca (hF:=KV.h q5)) ?_
  exact az H
 refine cC H ?_ ?_<;>intro H
 .cases H
  refine G6 (g7 (o:=3)) ?_
  refine G6 (nE (o:=2)) ?_
  exact kn
 refine aa H λv9 Hj H=>jB ⟨[(3,tP 1),(4,tP 2),(5,tP 5),(6,tI v9)],(oM [.w 3,.w 4] 5 43 (cH r1)++[(1,.var 167 (kM [.f] (eW a1))),(2,.var 43 (kM [.z,.z] (cH dy)))]),6⟩ ?_ ?_
 .refine iT Hj (λq=>⟨[(3,tP 1),(4,tP 2),(5,tP 5),(6,tI q)],(oM [.w 3,.w 4] 5 43 (cH r1)++[(1,.var 167 (kM [.f] (eW a1))),(2,.var 43 (kM [.z,.z] (cH dy)))]),6⟩) ?_
  rintro v6 o H
  refine ad ?_
  refine dI ?_
  refine aa H λv10 Hj H=>Fd ⟨[(3,tP 1),(4,tP 2),(5,tP 5),(6,tI v6),(61,tB v10)],(oM [.w 3,.w 4] 5 43 (cH r1)++[(1,.var 167 (kM [.f] (eW a1))),(2,.var 43 (kM [.z,.z] (cH dy)))]),6⟩ ?_ ?_
  .have H:=Hj
   refine wI ?_
   refine dC H ?_ ?_<;>intro H
   .refine aa H λx11 hx11 H=>dG (xwT hx11) ?_
    refine dG (oe (he:=gk _ hx11)) ?_
    refine wI ?_
    exact ai H
   refine wI ?_
   exact ai H
  refine wI ?_
  refine cC H ?_ ?_<;>intro H
  .refine wI ?_
   exact aN H
  exact aE H
 refine zI [0,1,2,3,4,7,5,6,8] ?_
 obtain⟨h,H⟩:=rq H
 refine wA (E5 (enc:=eU8) (ys:=([]:List Int)) (zs:=a1.bb) [6] h) ?_
 refine wA (spx 100220) ?_
 refine oZ (ds:=[6]) (by kernel_rfl) (by kernel_rfl) rfl ?_
 refine wI ?_
 refine i8 (g7 (o:=8)) ?_
 refine i8 (fN (k:=69)) ?_
 refine i8 (fN (k:=70)) ?_
 refine i8 (nE (o:=7)) ?_
 refine zI [0,1,2,3,4,6,7,9,10,11,12,5,8,13,14,15] ?_
 obtain⟨hs10,H⟩:=rq H
 refine zA (Xo (enc:=aX) hs10 (by first|rfl|simp) rfl rfl rfl rfl) ?_
 obtain⟨hs11,H⟩:=rq H
 refine zA (Xp (enc:=aX) hs11 (by first|rfl|simp) rfl rfl rfl rfl) ?_
 obtain⟨h,H⟩:=rq H
 refine wA (apx (enc:=aX) (ys:=([]:List ae)) (zs:=r1.aO.take (v9).toNat) [9,3] h (hs:=M9 (enc:=aX) hs10 rfl)) ?_
 obtain⟨h,H⟩:=rq H
 refine wA (apx (enc:=aX) (ys:=(([]:List ae)++(r1.aO.take (v9).toNat))) (zs:=[(⟨a1.cZ,(([]:List Int)++a1.bb)⟩:ae)]) [11,10] h) ?_
 obtain⟨h,H⟩:=rq H
 refine wA (apx (enc:=aX) (ys:=((([]:List ae)++(r1.aO.take (v9).toNat))++[(⟨a1.cZ,(([]:List Int)++a1.bb)⟩:ae)])) (zs:=r1.aO.drop (v9).toNat) [12,3] h (hs:=I6 (enc:=aX) hs11 (by first|rfl|simp) rfl)) ?_
 refine wA (spx 100219) ?_
 refine oZ (ds:=[9,11,12]) (by kernel_rfl) (by kernel_rfl) rfl ?_
 refine wI ?_
 refine aa H λv22 Hj H=>jB ⟨[(4,tP 2),(5,tP 5)],(oM [.t,.w 4] 5 43 (cH v22)++[(2,.var 43 (kM [.z,.z] (cH dy)))]),14⟩ ?_ ?_
 .refine iT Hj (λq=>⟨[(4,tP 2),(5,tP 5)],(oM [.t,.w 4] 5 43 (cH q)++[(2,.var 43 (kM [.z,.z] (cH dy)))]),14⟩) ?_ (by refine aK (g7 (o:=13)) ?_;refine aK (fN (k:=84)) ?_;refine aK (nE (o:=5)) ?_;exact wo)
  rintro v15 o H
  refine ad ?_
  refine dI ?_
  refine aa H λv23 Hj H=>Fd ⟨[(4,tP 2),(5,tP 5),(105,tB v23)],(oM [.t,.w 4] 5 43 (cH v15)++[(2,.var 43 (kM [.z,.z] (cH dy)))]),14⟩ ?_ ?_
  .have H:=Hj
   refine wI ?_
   refine dC H ?_ ?_<;>intro H
   .refine aa H λx24 hx24 H=>dG (xdT (enc:=aX) hx24) ?_
    refine dC H ?_ ?_<;>intro H
    .refine wI ?_
     exact ai H
    refine wI ?_
    exact ai H
   refine wI ?_
   exact ai H
  refine wI ?_
  refine cC H ?_ ?_<;>intro H
  .refine zI (Zm 12) ?_
   refine aa H λx25 hx25 H=>zA (xdT (enc:=aX) hx25) ?_
   obtain⟨h,H⟩:=rq H
   refine zB cr (jP rfl (apT (enc:=de) (ys:=v15.aP) (zs:=[(⟨x25.bb⟩:bD)]) h)) cr ?_
   refine wA (spx 100218) ?_
   obtain⟨h,H⟩:=rq H
   refine nA (UB (enc:=aX) h (λ_=>rfl) rfl rfl rfl) ?_
   exact aN H
  exact aE H
 refine aa H λv26 Hj H=>jA ⟨[(4,tP 2),(5,tP 5)],(oM [.t,.w 4] 5 43 (cH {v22 with aO:=v26})++[(2,.var 43 (kM [.z,.z] (cH dy)))]),14⟩ ?_ ?_
 .refine cC Hj ?_ ?_<;>intro H
  .cases H
   refine aK (g7 (o:=14)) ?_
   refine aK (fN (k:=129)) ?_
   refine aK (nE (o:=5)) ?_
   exact wo
  exact ai H
 cases H
 exact kn⟩
def vd(a0:aC):Option bj:=
 cond (!eqB a0.bB 0) (abd (qF a0) λr1=>ς r1) (abd (iH a0) λr2=>abd (qE a0) λr3=>abd (lc {r2 with bB:=1} r3) λr4=>ς r4)
instance KH{a0:aC}{r:bj}:FC prog (vd a0=ς r) 74 [.agg (di a0)] [.agg (qM [.d,.d,.o] (eb r))]:=gG func74 ntmps74 (hz 5)
def t0(a0:aC):Option aC:=
 abd (iH a0) λr1=>abd (cond (eqB a0.bB 2) (ς 3) (ς r1.bB)) λ(v2:Int)=>ς {r1 with bB:=v2}
instance VM{a0:aC}{r:aC}:FC prog (t0 a0=ς r) 92 [.agg (di a0)] [.agg (qM [.o,.o] (qa r))]:=gG func92 ntmps92 (hC 8 (λ(v:Int) sl ob nx=>⟨xS [2,3] sl,uC 4 4 [.d η (.i .i64 v)] ob,nx⟩))
end Go.AM
