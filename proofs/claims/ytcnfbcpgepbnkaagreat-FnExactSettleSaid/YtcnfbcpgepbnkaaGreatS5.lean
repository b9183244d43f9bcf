/- A part. -/
import Derived.Test.YtcnfbcpgepbnkaaGreatS0
import Derived.Test.YtcnfbcpgepbnkaaGreatS1
import Derived.Test.YtcnfbcpgepbnkaaGreatS2
set_option linter.unusedVariables false
open Option renaming some->ς,none->ξ
open Bool renaming true->ζ,false->η
open True renaming intro->θ
open Option renaming bind->aeP
open List renaming range->f6
namespace Go.AM
open Go.Proofs
open Tryz
attribute [local irreducible] AWN NS AWO AWR AWC DR DZ cO eB iter
set_option maxRecDepth 100000
set_option maxHeartbeats 40000000
def Ag(a0:aB):Option aB:=
 aeP (wF a0.aA) λr1=>aeP (uq a0.aY) λr2=>ς (⟨a0.bw,r1,r2⟩:aB)
instance RA{a0:aB}{r:aB}:FC prog (Ag a0=ς r) 120 [.agg (dW a0)] [.agg (qM [.o,.o] (cr r))]:=gG func120 ntmps120 (hz 1)
def pC(a0:aF):Option aF:=
 aeP (Ag a0.ct) λr1=>ς {a0 with ct:=r1}
instance sl29Copy_c{a0:aF}{r:aF}:FC prog (pC a0=ς r) 63 [.agg (bG a0)] [.agg (qM [.o,.o] (ku r))]:=gG func63 ntmps63
def fm(a0:aj)(a1:cq):Option Bool:=
 aeP (gI a0) λr1=>aeP (cond r1 (aeP (g6 a1) λr3=>cond r3 (aeP (px a0 a1.ax) λr4=>ς (eqB r4 a1.cH)) (ς η)) (ς η)) λ(v2:Bool)=>ς v2
instance MM{a0:aj}{a1:cq}{r:Bool}:FC prog (fm a0 a1=ς r) 129 [.agg (bj a0),.agg (jT a1)] [.c (.d (.b r))]:=gG func129 ntmps129 (hb 7 4)
def EX(a0:Int)(a1:aV):Option Int:=
 aeP (sI a1.be) λr1=>cond (c8 8 ([a1.c7,a1.f8]++r1).length) (aeP (eM a0 ([a1.c7,a1.f8]++r1)) λr2=>ς r2) ξ
instance sl8Mac_c{a0:Int}{a1:aV}{r:Int}:FC prog (EX a0 a1=ς r) 370 [aI a0,.agg (dL a1)] [.c (.d (.i .i64 r))]:=⟨λH=>by
 refine fI func370 ntmps370 ?_
 refine zI (f6 12) ?_
 refine aa H λr1 q1 H=>zA (ca (hF:=IO.h q1)) ?_
 obtain⟨h,H⟩:=rq H
 refine wA (No (enc:=eI) (ys:=[a1.c7,a1.f8]) (zs:=r1) [1,2] h) ?_
 refine aa H λr2 q2 H=>zA (ca (hF:=MK.h q2)) ?_
 refine sb (ds:=[1]) (by kernel_rfl) (by kernel_rfl) rfl ?_
 refine wI ?_
 cases H
 exact iw⟩
def ul(a0:Int)(a1:aV):Option Bool:=
 aeP (EX a0 a1) λr1=>ς (eqB a1.nJ r1)
instance acI{a0:Int}{a1:aV}{r:Bool}:FC prog (ul a0 a1=ς r) 336 [aI a0,.agg (dL a1)] [.c (.d (.b r))]:=gG func336 ntmps336
def Ah(a0:aF):Option aZ:=
 aeP (pC a0) λr1=>ς (⟨r1,([]:List aD)⟩:aZ)
instance sl29None_c{a0:aF}{r:aZ}:FC prog (Ah a0=ς r) 215 [.agg (bG a0)] [.agg (qM [.o,.o,.o] (cU r))]:=gG func215 ntmps215
def lu(a1:ab)(r1:aB):Int->Option (bJ (Int) (Int))
 |v6=>aeP (cond (ltB v6 (r1.aA.length:Int)) (aeP (ix r1.aA v6) λx11=>ς (ltB x11.df a1.df)) (ς η)) λ(v10:Bool)=>cond v10 (ς (.next (WR (v6+1)))) (ς (.done v6))
def lv:aB->Option (bJ (aB) (aB))
 |v15=>aeP (cond (ltB 0 (v15.aA.length:Int)) (aeP (ix v15.aA 0) λx24=>cond (eqB x24.df v15.bw) (ς (ltB (v15.aY.length:Int) 24)) (ς η)) (ς η)) λ(v23:Bool)=>cond v23 (aeP (ix v15.aA 0) λx25=>cond (c8 24 (v15.aY++[(⟨x25.be⟩:aP)]).length) (cond (d6 v15.aA 1 v15.aA.length) (ς (.next (⟨WR (v15.bw+1),v15.aA.drop ((1:Int)).toNat,(v15.aY++[(⟨x25.be⟩:aP)])⟩:aB))) ξ) ξ) (ς (.done v15))
def pu(a0:aB)(a1:ab):Option aB:=
 aeP (Ag a0) λr1=>aeP (jJ a0) λr2=>aeP (cond (!r2) (ς ζ) (cond (ltB 60 (a1.be.length:Int)) (ς ζ) (aeP (dt a1.df a0.bw (WR ((WR (a0.bw+8))-1))) λr4=>cond (!r4) (ς ζ) (aeP (Ja a0.aA a1.df) λr5=>cond (leB 0 r5) (ς ζ) (ς (leB 24 (a0.aY.length:Int))))))) λ(v3:Bool)=>cond v3 (ς r1) (aeP (iter (lu a1 r1) FU 0) λ(v9:Int)=>cond (c8 1 (([]:List Int)++a1.be).length) (cond (d6 r1.aA 0 v9) (cond (d6 r1.aA v9 r1.aA.length) (cond (c8 32 (([]:List ab)++(r1.aA.take (v9).toNat)).length) (cond (c8 32 ((([]:List ab)++(r1.aA.take (v9).toNat))++[(⟨a1.df,(([]:List Int)++a1.be)⟩:ab)]).length) (cond (c8 32 (((([]:List ab)++(r1.aA.take (v9).toNat))++[(⟨a1.df,(([]:List Int)++a1.be)⟩:ab)])++(r1.aA.drop (v9).toNat)).length) (aeP (iter (lv) FU {r1 with aA:=(((([]:List ab)++(r1.aA.take (v9).toNat))++[(⟨a1.df,(([]:List Int)++a1.be)⟩:ab)])++(r1.aA.drop (v9).toNat))}) λ(v22:aB)=>aeP (cond (eqB (v22.aY.length:Int) 24) (ς ([]:List ab)) (ς v22.aA)) λ(v26:List ab)=>ς {v22 with aA:=v26}) ξ) ξ) ξ) ξ) ξ) ξ)
instance VQ{a0:aB}{a1:ab}{r:aB}:FC prog (pu a0 a1=ς r) 216 [.agg (dW a0),.agg (an a1)] [.agg (qM [.d,.o] (cr r))]:=⟨λH=>by
 refine fI func216 ntmps216 ?_
 refine aa H λr1 q1 H=>nA (ca (hF:=RA.h q1)) ?_
 refine aa H λr2 q2 H=>nA (ca (hF:=Ci.h q2)) ?_
 refine aa H λv3 Hj H=>jR ⟨[(3,tP 1),(4,tP 2),(5,tP 5),(44,tB v3)],(oM [.w 3,.w 4] 5 127 (cr r1)++[(1,.var 249 (kM [.f] (dv a1))),(2,.var 127 (kM [.z,.z] (cr eV)))]),6⟩ ?_ ?_
 .refine gC Hj ?_ ?_<;>intro H
  .exact ai H
  refine gC H ?_ ?_<;>intro H
  .exact ai H
  refine aa H λr4 q4 H=>nG (ca (hF:=acK.h q4)) ?_
  refine gC H ?_ ?_<;>intro H
  .exact ai H
  refine aa H λr5 q5 H=>nG (ca (hF:=Rz.h q5)) ?_
  exact az H
 refine cC H ?_ ?_<;>intro H
 .cases H
  refine NA (wN (o:=3)) ?_
  refine NA (nO (o:=2)) ?_
  exact iw
 refine aa H λv9 Hj H=>jB ⟨[(3,tP 1),(4,tP 2),(5,tP 5),(6,tI v9)],(oM [.w 3,.w 4] 5 127 (cr r1)++[(1,.var 249 (kM [.f] (dv a1))),(2,.var 127 (kM [.z,.z] (cr eV)))]),6⟩ ?_ ?_
 .refine iT Hj (λq=>⟨[(3,tP 1),(4,tP 2),(5,tP 5),(6,tI q)],(oM [.w 3,.w 4] 5 127 (cr r1)++[(1,.var 249 (kM [.f] (dv a1))),(2,.var 127 (kM [.z,.z] (cr eV)))]),6⟩) ?_
  rintro v6 o H
  refine ad ?_
  refine dI ?_
  refine aa H λv10 Hj H=>LB ⟨[(3,tP 1),(4,tP 2),(5,tP 5),(6,tI v6),(61,tB v10)],(oM [.w 3,.w 4] 5 127 (cr r1)++[(1,.var 249 (kM [.f] (dv a1))),(2,.var 127 (kM [.z,.z] (cr eV)))]),6⟩ ?_ ?_
  .have H:=Hj
   refine wI ?_
   refine dC H ?_ ?_<;>intro H
   .refine aa H λx11 hx11 H=>dG (xwT hx11) ?_
    refine dG (oe (he:=fK _ hx11)) ?_
    refine wI ?_
    exact ai H
   refine wI ?_
   exact ai H
  refine wI ?_
  refine cC H ?_ ?_<;>intro H
  .refine wI ?_
   exact aN H
  exact aE H
 refine zI [0,1,2,3,4,7,5,6,8] ?_
 obtain⟨h,H⟩:=rq H
 refine wA (No (enc:=eU8) (ys:=([]:List Int)) (zs:=a1.be) [6] h) ?_
 refine wA (spx 100140) ?_
 refine sb (ds:=[6]) (by kernel_rfl) (by kernel_rfl) rfl ?_
 refine wI ?_
 refine wa (wN (o:=8)) ?_
 refine wa (oo (k:=69)) ?_
 refine wa (oo (k:=70)) ?_
 refine wa (nO (o:=7)) ?_
 refine zI [0,1,2,3,4,6,7,9,10,11,12,5,8,13,14,15] ?_
 obtain⟨hs8,H⟩:=rq H
 refine zA (cwhT (enc:=an) hs8 (by first|rfl|simp) rfl rfl rfl rfl) ?_
 obtain⟨hs9,H⟩:=rq H
 refine zA (Ux (enc:=an) hs9 (by first|rfl|simp) rfl rfl rfl rfl) ?_
 obtain⟨h,H⟩:=rq H
 refine wA (apx (enc:=an) (ys:=([]:List ab)) (zs:=r1.aA.take (v9).toNat) [9,3] h (hs:=PF (enc:=an) hs8 rfl)) ?_
 obtain⟨h,H⟩:=rq H
 refine wA (apx (enc:=an) (ys:=(([]:List ab)++(r1.aA.take (v9).toNat))) (zs:=[(⟨a1.df,(([]:List Int)++a1.be)⟩:ab)]) [11,10] h) ?_
 obtain⟨h,H⟩:=rq H
 refine wA (apx (enc:=an) (ys:=((([]:List ab)++(r1.aA.take (v9).toNat))++[(⟨a1.df,(([]:List Int)++a1.be)⟩:ab)])) (zs:=r1.aA.drop (v9).toNat) [12,3] h (hs:=Jf (enc:=an) hs9 (by first|rfl|simp) rfl)) ?_
 refine wA (spx 100139) ?_
 refine sb (ds:=[9,11,12]) (by kernel_rfl) (by kernel_rfl) rfl ?_
 refine wI ?_
 refine aa H λv22 Hj H=>jB ⟨[(4,tP 2),(5,tP 5)],(oM [.t,.w 4] 5 127 (cr v22)++[(2,.var 127 (kM [.z,.z] (cr eV)))]),14⟩ ?_ ?_
 .refine iT Hj (λq=>⟨[(4,tP 2),(5,tP 5)],(oM [.t,.w 4] 5 127 (cr q)++[(2,.var 127 (kM [.z,.z] (cr eV)))]),14⟩) ?_ (by refine aK (wN (o:=13)) ?_;refine aK (oo (k:=84)) ?_;refine aK (nO (o:=5)) ?_;exact wo)
  rintro v15 o H
  refine ad ?_
  refine dI ?_
  refine aa H λv23 Hj H=>LB ⟨[(4,tP 2),(5,tP 5),(105,tB v23)],(oM [.t,.w 4] 5 127 (cr v15)++[(2,.var 127 (kM [.z,.z] (cr eV)))]),14⟩ ?_ ?_
  .have H:=Hj
   refine wI ?_
   refine dC H ?_ ?_<;>intro H
   .refine aa H λx24 hx24 H=>dG (xdT (enc:=an) hx24) ?_
    refine dC H ?_ ?_<;>intro H
    .refine wI ?_
     exact ai H
    refine wI ?_
    exact ai H
   refine wI ?_
   exact ai H
  refine wI ?_
  refine cC H ?_ ?_<;>intro H
  .refine zI (f6 12) ?_
   refine aa H λx25 hx25 H=>zA (xdT (enc:=an) hx25) ?_
   obtain⟨h,H⟩:=rq H
   refine zB dH (tj rfl (apT (enc:=b9) (ys:=v15.aY) (zs:=[(⟨x25.be⟩:aP)]) h)) dH ?_
   refine wA (spx 100138) ?_
   obtain⟨h,H⟩:=rq H
   refine nA (cdlT (enc:=an) h (λ_=>rfl) rfl rfl rfl) ?_
   exact aN H
  exact aE H
 refine aa H λv26 Hj H=>jA ⟨[(4,tP 2),(5,tP 5)],(oM [.t,.w 4] 5 127 (cr {v22 with aA:=v26})++[(2,.var 127 (kM [.z,.z] (cr eV)))]),14⟩ ?_ ?_
 .refine cC Hj ?_ ?_<;>intro H
  .cases H
   refine aK (wN (o:=14)) ?_
   refine aK (oo (k:=129)) ?_
   refine aK (nO (o:=5)) ?_
   exact wo
  exact ai H
 cases H
 exact iw⟩
def pq(a0:ag)(a1:Int):Option Int:=
 aeP (pp a0) λr1=>aeP (kJ a0.bM) λr2=>aeP (ML 0 (WR ((WR (r1+a1))-r2))) λr3=>ς r3
instance IS{a0:ag}{a1:Int}{r:Int}:FC prog (pq a0 a1=ς r) 326 [.agg (aM a0),aI a1] [.c (.d (.i .i64 r))]:=gG func326 ntmps326
def ra(a0:aG)(a1:List Int):Option (aG×ab×Bool):=
 aeP (nN a0) λr1=>cond (c8 1 (([]:List Int)++a1).length) (cond (c8 1 (([]:List Int)++a1).length) (cond (c8 32 (r1.ar++[(⟨a0.bw,(([]:List Int)++a1)⟩:ab)]).length) (aeP (lM (⟨WR (a0.bw+1),(r1.ar++[(⟨a0.bw,(([]:List Int)++a1)⟩:ab)])⟩:aG)) λr2=>cond (!r2) (aeP (nN a0) λr3=>ς (r3,bE,η)) (ς ((⟨WR (a0.bw+1),(r1.ar++[(⟨a0.bw,(([]:List Int)++a1)⟩:ab)])⟩:aG),(⟨a0.bw,(([]:List Int)++a1)⟩:ab),ζ))) ξ) ξ) ξ
theorem IW{a0:aG}{a1:List Int}{r:aG×ab×Bool}(H:ra a0 a1=ς r)(hflag:r.2.2=ζ):Fn prog 327 [.agg (ec a0),aL (a1.map eU8)] [.agg (qM [.o] (dF r.1)),.agg (qM [.o] (dv r.2.1)),.c (.d (.b r.2.2))]:=by
 refine fI func327 ntmps327 ?_
 refine aa H λr1 q1 H=>nA (ca (hF:=pB.h q1)) ?_
 refine zI [0,1,2,3,6,4,5,7] ?_
 obtain⟨h,H⟩:=rq H
 refine wA (No (enc:=eU8) (ys:=([]:List Int)) (zs:=a1) [5] h) ?_
 refine wA (spx 100278) ?_
 refine sb (ds:=[5]) (by kernel_rfl) (by kernel_rfl) rfl ?_
 refine wI ?_
 refine zI (f6 12) ?_
 obtain⟨h,H⟩:=rq H
 refine wA (Kb (enc:=eU8) (ys:=([]:List Int)) (zs:=a1) [8] h) ?_
 obtain⟨h,H⟩:=rq H
 refine uE (ds:=[8]) (by kernel_rfl) (by kernel_rfl) rfl (by kernel_rfl) dH (tj rfl (apT (enc:=an) (ys:=r1.ar) (zs:=[(⟨a0.bw,(([]:List Int)++a1)⟩:ab)]) h)) dH rfl ?_
 refine wI ?_
 refine wA (spx 100277) ?_
 refine aa H λr2 q2 H=>nA (ca (hF:=wC.h q2)) ?_
 refine cC H ?_ ?_<;>intro H
 .refine aa H λr3 q3 H=>nA (ca (hF:=pB.h q3)) ?_
  cases H
  cases hflag
 refine zI (f6 5) ?_
 refine wA (spx 100276) ?_
 refine wA (spx 100275) ?_
 exact ao H
theorem IV{a0:aG}{a1:List Int}{r:aG×ab×Bool}(H:ra a0 a1=ς r)(hflag:r.2.2=η):Fn prog 327 [.agg (ec a0),aL (a1.map eU8)] [.agg (qM [.o] (dF r.1)),.agg (qM [.z] (dv r.2.1)),.c (.d (.b r.2.2))]:=by
 refine fI func327 ntmps327 ?_
 refine aa H λr1 q1 H=>nA (ca (hF:=pB.h q1)) ?_
 refine zI [0,1,2,3,6,4,5,7] ?_
 obtain⟨h,H⟩:=rq H
 refine wA (No (enc:=eU8) (ys:=([]:List Int)) (zs:=a1) [5] h) ?_
 refine wA (spx 100282) ?_
 refine sb (ds:=[5]) (by kernel_rfl) (by kernel_rfl) rfl ?_
 refine wI ?_
 refine zI (f6 12) ?_
 obtain⟨h,H⟩:=rq H
 refine wA (Kb (enc:=eU8) (ys:=([]:List Int)) (zs:=a1) [8] h) ?_
 obtain⟨h,H⟩:=rq H
 refine uE (ds:=[8]) (by kernel_rfl) (by kernel_rfl) rfl (by kernel_rfl) dH (tj rfl (apT (enc:=an) (ys:=r1.ar) (zs:=[(⟨a0.bw,(([]:List Int)++a1)⟩:ab)]) h)) dH rfl ?_
 refine wI ?_
 refine wA (spx 100281) ?_
 refine aa H λr2 q2 H=>nA (ca (hF:=wC.h q2)) ?_
 refine cC H ?_ ?_<;>intro H
 .refine aa H λr3 q3 H=>nA (ca (hF:=pB.h q3)) ?_
  exact ao H
 refine zI (f6 5) ?_
 refine wA (spx 100280) ?_
 refine wA (spx 100279) ?_
 cases H
 cases hflag
end Go.AM
