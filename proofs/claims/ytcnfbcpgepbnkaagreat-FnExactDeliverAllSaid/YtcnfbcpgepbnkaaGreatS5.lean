/- A part. -/
import Derived.Test.YtcnfbcpgepbnkaaGreatS0
import Derived.Test.YtcnfbcpgepbnkaaGreatS1
import Derived.Test.YtcnfbcpgepbnkaaGreatS2
set_option linter.unusedVariables false
open Option renaming some->ς,none->ξ
open Bool renaming true->ζ,false->η
open True renaming intro->θ
open Option renaming bind->abX
namespace Go.AM
open Go.Proofs
open Tryz
attribute [local irreducible] AWN NS AWO AWR AWC DR DZ cp ec iter
set_option maxRecDepth 100000
set_option maxHeartbeats 40000000
def xa(a0:aj):Option aj:=
 abX (t6 a0.am) λr1=>abX (rW a0.aD) λr2=>ς (⟨a0.bK,r1,r2⟩:aj)
instance Np{a0:aj}{r:aj}:FC prog (xa a0=ς r) 120 [.agg (dw a0)] [.agg (qM [.o,.o] (bX r))]:=gG func120 ntmps120 (hz 1)
def pD(a0:av):Option av:=
 abX (xa a0.bY) λr1=>ς {a0 with bY:=r1}
instance sl29Copy_c{a0:av}{r:av}:FC prog (pD a0=ς r) 63 [.agg (aZ a0)] [.agg (qM [.o,.o] (gv r))]:=gG func63 ntmps63
def xb(a0:av):Option aK:=
 abX (pD a0) λr1=>ς (⟨r1,([]:List ar)⟩:aK)
instance sl29None_c{a0:av}{r:aK}:FC prog (xb a0=ς r) 215 [.agg (aZ a0)] [.agg (qM [.o,.o,.o] (cd r))]:=gG func215 ntmps215
def ka(a1:ab)(r1:aj):Int->Option (bN (Int) (Int))
 |v6=>abX (cond (ltB v6 (r1.am.length:Int)) (abX (ix r1.am v6) λx11=>ς (ltB x11.cP a1.cP)) (ς η)) λ(v10:Bool)=>cond v10 (ς (.next (WR (v6+1)))) (ς (.done v6))
def kc:aj->Option (bN (aj) (aj))
 |v15=>abX (cond (ltB 0 (v15.am.length:Int)) (abX (ix v15.am 0) λx24=>cond (eqB x24.cP v15.bK) (ς (ltB (v15.aD.length:Int) 24)) (ς η)) (ς η)) λ(v23:Bool)=>cond v23 (abX (ix v15.am 0) λx25=>cond (dH 24 (v15.aD++[(⟨x25.bk⟩:aC)]).length) (cond (fD v15.am 1 v15.am.length) (ς (.next (⟨WR (v15.bK+1),v15.am.drop ((1:Int)).toNat,(v15.aD++[(⟨x25.bk⟩:aC)])⟩:aj))) ξ) ξ) (ς (.done v15))
def oi(a0:aj)(a1:ab):Option aj:=
 abX (xa a0) λr1=>abX (iB a0) λr2=>abX (cond (!r2) (ς ζ) (cond (ltB 60 (a1.bk.length:Int)) (ς ζ) (abX (cX a1.cP a0.bK (WR ((WR (a0.bK+8))-1))) λr4=>cond (!r4) (ς ζ) (abX (EW a0.am a1.cP) λr5=>cond (leB 0 r5) (ς ζ) (ς (leB 24 (a0.aD.length:Int))))))) λ(v3:Bool)=>cond v3 (ς r1) (abX (iter (ka a1 r1) FU 0) λ(v9:Int)=>cond (dH 1 (([]:List Int)++a1.bk).length) (cond (fD r1.am 0 v9) (cond (fD r1.am v9 r1.am.length) (cond (dH 32 (([]:List ab)++(r1.am.take (v9).toNat)).length) (cond (dH 32 ((([]:List ab)++(r1.am.take (v9).toNat))++[(⟨a1.cP,(([]:List Int)++a1.bk)⟩:ab)]).length) (cond (dH 32 (((([]:List ab)++(r1.am.take (v9).toNat))++[(⟨a1.cP,(([]:List Int)++a1.bk)⟩:ab)])++(r1.am.drop (v9).toNat)).length) (abX (iter (kc) FU {r1 with am:=(((([]:List ab)++(r1.am.take (v9).toNat))++[(⟨a1.cP,(([]:List Int)++a1.bk)⟩:ab)])++(r1.am.drop (v9).toNat))}) λ(v22:aj)=>abX (cond (eqB (v22.aD.length:Int) 24) (ς ([]:List ab)) (ς v22.am)) λ(v26:List ab)=>ς {v22 with am:=v26}) ξ) ξ) ξ) ξ) ξ) ξ)
instance Rw{a0:aj}{a1:ab}{r:aj}:FC prog (oi a0 a1=ς r) 216 [.agg (dw a0),.agg (ah a1)] [.agg (qM [.d,.o] (bX r))]:=⟨λH=>by
 refine fI func216 ntmps216 ?_
 refine aa H λr1 q1 H=>nA (ca (hF:=Np.h q1)) ?_
 refine aa H λr2 q2 H=>nA (ca (hF:=zD.h q2)) ?_
 refine aa H λv3 Hj H=>jR ⟨[(3,tP 1),(4,tP 2),(5,tP 5),(44,tB v3)],(oM [.w 3,.w 4] 5 127 (bX r1)++[(1,.var 249 (kM [.f] (dR a1))),(2,.var 127 (kM [.z,.z] (bX eh)))]),6⟩ ?_ ?_
 .refine gC Hj ?_ ?_<;>intro H
  .exact ai H
  refine gC H ?_ ?_<;>intro H
  .exact ai H
  refine aa H λr4 q4 H=>nG (ca (hF:=YJ.h q4)) ?_
  refine gC H ?_ ?_<;>intro H
  .exact ai H
  refine aa H λr5 q5 H=>nG (ca (hF:=No.h q5)) ?_
  exact az H
 refine cC H ?_ ?_<;>intro H
 .cases H
  refine JC (xh (o:=3)) ?_
  refine JC (sh (o:=2)) ?_
  exact jK
 refine aa H λv9 Hj H=>jB ⟨[(3,tP 1),(4,tP 2),(5,tP 5),(6,tI v9)],(oM [.w 3,.w 4] 5 127 (bX r1)++[(1,.var 249 (kM [.f] (dR a1))),(2,.var 127 (kM [.z,.z] (bX eh)))]),6⟩ ?_ ?_
 .refine iT Hj (λq=>⟨[(3,tP 1),(4,tP 2),(5,tP 5),(6,tI q)],(oM [.w 3,.w 4] 5 127 (bX r1)++[(1,.var 249 (kM [.f] (dR a1))),(2,.var 127 (kM [.z,.z] (bX eh)))]),6⟩) ?_
  rintro v6 o H
  refine ad ?_
  refine dI ?_
  refine aa H λv10 Hj H=>Hx ⟨[(3,tP 1),(4,tP 2),(5,tP 5),(6,tI v6),(61,tB v10)],(oM [.w 3,.w 4] 5 127 (bX r1)++[(1,.var 249 (kM [.f] (dR a1))),(2,.var 127 (kM [.z,.z] (bX eh)))]),6⟩ ?_ ?_
  .have H:=Hj
   refine wI ?_
   refine dC H ?_ ?_<;>intro H
   .refine aa H λx11 hx11 H=>dG (xwT hx11) ?_
    refine dG (oe (he:=lh _ hx11)) ?_
    refine wI ?_
    exact ai H
   refine wI ?_
   exact ai H
  refine wI ?_
  refine cC H ?_ ?_<;>intro H
  .refine wI ?_
   exact aN H
  exact aE H
 refine zI [0,1,2,3,4,7,5,6,8] ?_
 obtain⟨h,H⟩:=rq H
 refine wA (Z1 (enc:=eU8) (ys:=([]:List Int)) (zs:=a1.bk) [6] h) ?_
 refine wA (spx 100140) ?_
 refine zY (ds:=[6]) (by kernel_rfl) (by kernel_rfl) rfl ?_
 refine wI ?_
 refine tG (xh (o:=8)) ?_
 refine tG (qH (k:=69)) ?_
 refine tG (qH (k:=70)) ?_
 refine tG (sh (o:=7)) ?_
 refine zI [0,1,2,3,4,6,7,9,10,11,12,5,8,13,14,15] ?_
 obtain⟨hs8,H⟩:=rq H
 refine zA (W7 (enc:=ah) hs8 (by first|rfl|simp) rfl rfl rfl rfl) ?_
 obtain⟨hs9,H⟩:=rq H
 refine zA (W8 (enc:=ah) hs9 (by first|rfl|simp) rfl rfl rfl rfl) ?_
 obtain⟨h,H⟩:=rq H
 refine wA (apx (enc:=ah) (ys:=([]:List ab)) (zs:=r1.am.take (v9).toNat) [9,3] h (hs:=Lz (enc:=ah) hs8 rfl)) ?_
 obtain⟨h,H⟩:=rq H
 refine wA (apx (enc:=ah) (ys:=(([]:List ab)++(r1.am.take (v9).toNat))) (zs:=[(⟨a1.cP,(([]:List Int)++a1.bk)⟩:ab)]) [11,10] h) ?_
 obtain⟨h,H⟩:=rq H
 refine wA (apx (enc:=ah) (ys:=((([]:List ab)++(r1.am.take (v9).toNat))++[(⟨a1.cP,(([]:List Int)++a1.bk)⟩:ab)])) (zs:=r1.am.drop (v9).toNat) [12,3] h (hs:=GZ (enc:=ah) hs9 (by first|rfl|simp) rfl)) ?_
 refine wA (spx 100139) ?_
 refine zY (ds:=[9,11,12]) (by kernel_rfl) (by kernel_rfl) rfl ?_
 refine wI ?_
 refine aa H λv22 Hj H=>jB ⟨[(4,tP 2),(5,tP 5)],(oM [.t,.w 4] 5 127 (bX v22)++[(2,.var 127 (kM [.z,.z] (bX eh)))]),14⟩ ?_ ?_
 .refine iT Hj (λq=>⟨[(4,tP 2),(5,tP 5)],(oM [.t,.w 4] 5 127 (bX q)++[(2,.var 127 (kM [.z,.z] (bX eh)))]),14⟩) ?_ (by refine bv (xh (o:=13)) ?_;refine bv (qH (k:=84)) ?_;refine bv (sh (o:=5)) ?_;exact wo)
  rintro v15 o H
  refine ad ?_
  refine dI ?_
  refine aa H λv23 Hj H=>Hx ⟨[(4,tP 2),(5,tP 5),(105,tB v23)],(oM [.t,.w 4] 5 127 (bX v15)++[(2,.var 127 (kM [.z,.z] (bX eh)))]),14⟩ ?_ ?_
  .have H:=Hj
   refine wI ?_
   refine dC H ?_ ?_<;>intro H
   .refine aa H λx24 hx24 H=>dG (xdT (enc:=ah) hx24) ?_
    refine dC H ?_ ?_<;>intro H
    .refine wI ?_
     exact ai H
    refine wI ?_
    exact ai H
   refine wI ?_
   exact ai H
  refine wI ?_
  refine cC H ?_ ?_<;>intro H
  .refine zI (List.range 12) ?_
   refine aa H λx25 hx25 H=>zA (xdT (enc:=ah) hx25) ?_
   obtain⟨h,H⟩:=rq H
   refine zB eG (yL rfl (apT (enc:=bQ) (ys:=v15.aD) (zs:=[(⟨x25.bk⟩:aC)]) h)) eG ?_
   refine wA (spx 100138) ?_
   obtain⟨h,H⟩:=rq H
   refine nA (cdlT (enc:=ah) h (λ_=>rfl) rfl rfl rfl) ?_
   exact aN H
  exact aE H
 refine aa H λv26 Hj H=>jA ⟨[(4,tP 2),(5,tP 5)],(oM [.t,.w 4] 5 127 (bX {v22 with am:=v26})++[(2,.var 127 (kM [.z,.z] (bX eh)))]),14⟩ ?_ ?_
 .refine cC Hj ?_ ?_<;>intro H
  .cases H
   refine bv (xh (o:=14)) ?_
   refine bv (qH (k:=129)) ?_
   refine bv (sh (o:=5)) ?_
   exact wo
  exact ai H
 cases H
 exact jK⟩
end Go.AM
