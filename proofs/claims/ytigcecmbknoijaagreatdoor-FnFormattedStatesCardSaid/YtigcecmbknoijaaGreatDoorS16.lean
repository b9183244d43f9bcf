/- A part. -/
import Derived.Test.YtigcecmbknoijaaGreatDoorS11
import Derived.Test.YtigcecmbknoijaaGreatDoorS12
set_option linter.unusedVariables false
open Option renaming some->ς,none->ξ
open Bool renaming true->ζ,false->η
open True renaming intro->θ
open Option renaming bind->ZS
namespace Go.AM
open Go.Proofs
open Tryz
attribute [local irreducible] AWN NS AWO AWR AWC DR DZ cM eN iter
set_option maxRecDepth 100000
set_option maxHeartbeats 40000000
def g7(F:List ab):(Int×Nat×List b8)->Option (cH (Int×Nat×List b8) (Int×Nat×List b8))
 |(n,k,dl)=>ZS (cond (ltB 0 ((F.length-k:Nat):Int)) (ZS (ix (F.drop k) 0) λx24=>cond (eqB x24.c9 n) (ς (ltB (dl.length:Int) 24)) (ς η)) (ς η)) λ(v23:Bool)=>cond v23 (ZS (ix (F.drop k) 0) λx25=>cond (cN 24 (dl++[(⟨x25.bm⟩:b8)]).length) (cond (fa (F.drop k) 1 (F.drop k).length) (ς (.next (WR (n+1),k+((1:Int)).toNat,(dl++[(⟨x25.bm⟩:b8)])))) ξ) ξ) (ς (.done (n,k,dl)))
def lG(a0:aX)(a1:ab):Option (aX×List ab×Nat):=
 ZS (sV a0) λr1=>ZS (gR a0) λr2=>ZS (cond (!r2) (ς ζ) (cond (ltB 60 (a1.bm.length:Int)) (ς ζ) (ZS (cU a1.c9 a0.bF (WR ((WR (a0.bF+8))-1))) λr4=>cond (!r4) (ς ζ) (ZS (yX a0.aA a1.c9) λr5=>cond (leB 0 r5) (ς ζ) (ς (leB 24 (a0.a8.length:Int))))))) λ(v3:Bool)=>cond v3 (ς (r1,r1.aA,0)) (ZS (iter (eK a1 r1) FU 0) λ(v9:Int)=>cond (cN 1 (([]:List Int)++a1.bm).length) (cond (fa r1.aA 0 v9) (cond (fa r1.aA v9 r1.aA.length) (cond (cN 32 (([]:List ab)++(r1.aA.take (v9).toNat)).length) (cond (cN 32 ((([]:List ab)++(r1.aA.take (v9).toNat))++[(⟨a1.c9,(([]:List Int)++a1.bm)⟩:ab)]).length) (cond (cN 32 (((([]:List ab)++(r1.aA.take (v9).toNat))++[(⟨a1.c9,(([]:List Int)++a1.bm)⟩:ab)])++(r1.aA.drop (v9).toNat)).length) (ZS (iter (g7 (((([]:List ab)++(r1.aA.take (v9).toNat))++[(⟨a1.c9,(([]:List Int)++a1.bm)⟩:ab)])++(r1.aA.drop (v9).toNat))) FU (r1.bF,0,r1.a8)) λ((v22,v24,v25):Int×Nat×List b8)=>cond (eqB (v25.length:Int) 24) (ς ((⟨v22,[],v25⟩:aX),[],0)) (ς ((⟨v22,(((([]:List ab)++(r1.aA.take (v9).toNat))++[(⟨a1.c9,(([]:List Int)++a1.bm)⟩:ab)])++(r1.aA.drop (v9).toNat)).drop v24,v25⟩:aX),(((([]:List ab)++(r1.aA.take (v9).toNat))++[(⟨a1.c9,(([]:List Int)++a1.bm)⟩:ab)])++(r1.aA.drop (v9).toNat)),v24))) ξ) ξ) ξ) ξ) ξ) ξ)
instance qW{a0:aX}{a1:ab}{r:aX×List ab×Nat}:FCV prog (lG a0 a1=ς r) 135 [] [.v (.agg (kM [.f,.f] (bP a0))),.v (.agg (kM [.f] (dR a1)))] [] (.v (.agg [cI r.1.bF,.s 210 2 r.2.2 (r.2.1.length-r.2.2),.d ζ (.l (r.1.a8.map er))])) [(210,I3 r.2.1)]:=⟨λH=>by
 refine fV func135 ntmps135 ?_
 refine aa H λr1 q1 H=>nA (ca (hF:=CH.h q1)) ?_
 refine aa H λr2 q2 H=>nA (ca (hF:=qk.h q2)) ?_
 refine aa H λv3 Hj H=>jR ⟨[(3,tP 211),(4,tP 212),(5,tP 215),(44,tB v3)],(oM [.w 213,.w 214] 215 58 (bP r1)++[(211,.var 163 (kM [.f] (dR a1))),(212,.var 58 (kM [.z,.z] (bP ct)))]),216⟩ ?_ ?_
 .refine gC Hj ?_ ?_<;>intro H
  .exact ai H
  refine gC H ?_ ?_<;>intro H
  .exact ai H
  refine aa H λr4 q4 H=>nG (ca (hF:=MC.h q4)) ?_
  refine gC H ?_ ?_<;>intro H
  .exact ai H
  refine aa H λr5 q5 H=>nG (ca (hF:=CG.h q5)) ?_
  exact az H
 refine cC H ?_ ?_<;>intro H
 .cases H
  refine cg (C0 (o:=212) (j:=1) (q:=213) rfl) ?_
  refine cg (eG (o:=214)) ?_
  refine cg (fP (o:=212)) ?_
  refine cg (wS 213 210) ?_
  exact dv
 refine aa H λv9 Hj H=>jB ⟨[(3,tP 211),(4,tP 212),(5,tP 215),(6,tI v9)],(oM [.w 213,.w 214] 215 58 (bP r1)++[(211,.var 163 (kM [.f] (dR a1))),(212,.var 58 (kM [.z,.z] (bP ct)))]),216⟩ ?_ ?_
 .refine iT Hj (λq=>⟨[(3,tP 211),(4,tP 212),(5,tP 215),(6,tI q)],(oM [.w 213,.w 214] 215 58 (bP r1)++[(211,.var 163 (kM [.f] (dR a1))),(212,.var 58 (kM [.z,.z] (bP ct)))]),216⟩) ?_
  rintro v6 o H
  refine ad ?_
  refine dI ?_
  refine aa H λv10 Hj H=>yl ⟨[(3,tP 211),(4,tP 212),(5,tP 215),(6,tI v6),(61,tB v10)],(oM [.w 213,.w 214] 215 58 (bP r1)++[(211,.var 163 (kM [.f] (dR a1))),(212,.var 58 (kM [.z,.z] (bP ct)))]),216⟩ ?_ ?_
  .have H:=Hj
   refine wI ?_
   refine dC H ?_ ?_<;>intro H
   .refine aa H λx11 hx11 H=>dG (xwT hx11) ?_
    refine dG (oe (he:=js _ hx11)) ?_
    refine wI ?_
    exact ai H
   refine wI ?_
   exact ai H
  refine wI ?_
  refine cC H ?_ ?_<;>intro H
  .refine wI ?_
   exact aN H
  exact aE H
 refine zI [0,1,2,3,4,7,5,6,8] ?_
 obtain⟨h,H⟩:=rq H
 refine wA (Db (enc:=eU8) (ys:=([]:List Int)) (zs:=a1.bm) [216] h) ?_
 refine wA (spx 100014) ?_
 refine lA (ds:=[216]) (by kernel_rfl) (by kernel_rfl) rfl ?_
 refine wI ?_
 refine fo (eG (o:=218)) ?_
 refine fo (fc (k:=69)) ?_
 refine fo (fc (k:=70)) ?_
 refine fo (fP (o:=217)) ?_
 refine zI [0,1,2,3,4,6,7,9,10,11,12,5,8,13,14,15] ?_
 obtain⟨hs4,H⟩:=rq H
 refine zA (TR (enc:=aY) hs4 (by first|rfl|simp) rfl rfl rfl rfl) ?_
 obtain⟨hs5,H⟩:=rq H
 refine zA (TS (enc:=aY) hs5 (by first|rfl|simp) rfl rfl rfl rfl) ?_
 obtain⟨h,H⟩:=rq H
 refine wA (apx (enc:=aY) (ys:=([]:List ab)) (zs:=r1.aA.take (v9).toNat) [219,213] h (hs:=IO (enc:=aY) hs4 rfl)) ?_
 obtain⟨h,H⟩:=rq H
 refine wA (apx (enc:=aY) (ys:=(([]:List ab)++(r1.aA.take (v9).toNat))) (zs:=[(⟨a1.c9,(([]:List Int)++a1.bm)⟩:ab)]) [221,220] h) ?_
 obtain⟨h,H⟩:=rq H
 refine wA (apx (enc:=aY) (ys:=((([]:List ab)++(r1.aA.take (v9).toNat))++[(⟨a1.c9,(([]:List Int)++a1.bm)⟩:ab)])) (zs:=r1.aA.drop (v9).toNat) [222,213] h (hs:=Et (enc:=aY) hs5 (by first|rfl|simp) rfl)) ?_
 refine wA (spx 100013) ?_
 refine lA (ds:=[219,221,222]) (by kernel_rfl) (by kernel_rfl) rfl ?_
 refine wI ?_
 obtain⟨⟨v22,v24,v25⟩,Hj,H⟩:=ob H
 refine jB ⟨[(4,tP 212),(5,tP 215)],[(215,.var 58 [cI v22,.s 223 2 v24 ((((([]:List ab)++(r1.aA.take (v9).toNat))++[(⟨a1.c9,(([]:List Int)++a1.bm)⟩:ab)])++(r1.aA.drop (v9).toNat)).length-v24),.w 214 v25.length]),(214,SM v25),(223,I3 (((([]:List ab)++(r1.aA.take (v9).toNat))++[(⟨a1.c9,(([]:List Int)++a1.bm)⟩:ab)])++(r1.aA.drop (v9).toNat))),(212,.var 58 (kM [.z,.z] (bP ct)))],224⟩ ?_ ?_
 .refine iT Hj (λq=>⟨[(4,tP 212),(5,tP 215)],[(215,.var 58 [cI q.1,.s 223 2 q.2.1 ((((([]:List ab)++(r1.aA.take (v9).toNat))++[(⟨a1.c9,(([]:List Int)++a1.bm)⟩:ab)])++(r1.aA.drop (v9).toNat)).length-q.2.1),.w 214 q.2.2.length]),(214,SM q.2.2),(223,I3 (((([]:List ab)++(r1.aA.take (v9).toNat))++[(⟨a1.c9,(([]:List Int)++a1.bm)⟩:ab)])++(r1.aA.drop (v9).toNat))),(212,.var 58 (kM [.z,.z] (bP ct)))],224⟩) ?_ (by refine aJ (C0 (o:=215) (j:=1) (q:=223) rfl) ?_;exact wo)
  rintro⟨n,k,dl⟩ o H
  refine ad ?_
  refine dI ?_
  refine aa H λv23 Hj H=>yl ⟨[(4,tP 212),(5,tP 215),(105,tB v23)],[(215,.var 58 [cI n,.s 223 2 k ((((([]:List ab)++(r1.aA.take (v9).toNat))++[(⟨a1.c9,(([]:List Int)++a1.bm)⟩:ab)])++(r1.aA.drop (v9).toNat)).length-k),.w 214 dl.length]),(214,SM dl),(223,I3 (((([]:List ab)++(r1.aA.take (v9).toNat))++[(⟨a1.c9,(([]:List Int)++a1.bm)⟩:ab)])++(r1.aA.drop (v9).toNat))),(212,.var 58 (kM [.z,.z] (bP ct)))],224⟩ ?_ ?_
  .have H:=Hj
   refine wI ?_
   refine dC H ?_ ?_<;>intro H
   .refine aa H λx24 hx24 H=>dG (xsT hx24 rfl rfl rfl rfl) ?_
    refine dG (oe (he:=js _ (Lt hx24))) ?_
    refine dC H ?_ ?_<;>intro H
    .refine wI ?_
     exact ai H
    refine wI ?_
    exact ai H
   refine wI ?_
   exact ai H
  refine wI ?_
  refine cC H ?_ ?_<;>intro H
  .refine zI (List.range 12) ?_
   refine aa H λx25 hx25 H=>zA (xsT hx25 rfl rfl rfl rfl) ?_
   refine zA (oe (he:=js _ (Lt hx25))) ?_
   obtain⟨h,H⟩:=rq H
   refine zB cz (kh rfl (apT (enc:=er) (ys:=dl) (zs:=[(⟨x25.bm⟩:b8)]) h)) cz ?_
   refine wA (spx 100912) ?_
   obtain⟨h,H⟩:=rq H
   refine nA (cslS h rfl rfl rfl rfl) ?_
   exact aN H
  exact aE H
 refine cC H ?_ ?_<;>intro H
 .cases H
  refine cg (C0 (o:=212) (j:=1) (q:=224) rfl) ?_
  refine cg (eG (o:=214)) ?_
  refine cg (fP (o:=212)) ?_
  refine cg (wS 224 210) ?_
  exact dv
 cases H
 refine cg (eG (o:=214)) ?_
 refine cg (fP (o:=212)) ?_
 refine cg (wS 223 210) ?_
 exact dv⟩
def A0(a0:ae)(a1:dF):Option (Bool×ae):=
 ZS (cU a1.cZ 0 (WR ((a0.av.length:Int)-1))) λr1=>cond (!r1) (ς (η,a0)) (ZS (ix a0.av a1.cZ) λx2=>cond (eqB a1.bp 5) (cond (!eqB x2.bB 0) (ς (η,a0)) (ZS (sN x2) λr3=>ZS (iK a0 a1.cZ r3) λr4=>ς (ζ,r4))) (cond (eqB a1.bp 6) (ZS (cond (eqB a1.bg x2.bg) (ς ζ) (ZS (cU a1.bg 0 (WR ((a0.d5.bI.length:Int)-1))) λr6=>ς (!r6))) λ(v5:Bool)=>cond v5 (ς (η,a0)) (ZS (oJ x2 a1.bg) λr7=>ZS (iK a0 a1.cZ r7) λr8=>ς (ζ,r8))) (cond (eqB a1.bp 7) (cond (!eqB x2.bB 2) (ς (η,a0)) (ZS (qj x2) λr9=>ZS (ix a0.av a1.cZ) λx10=>ς (ζ,{a0 with av:=(a0.av.set (a1.cZ).toNat r9)}))) (ZS (ix a0.aD a1.cZ) λx11=>ZS (jP x11 a1.bm) λr12=>ZS (ix a0.aD a1.cZ) λx13=>ς (r12.2,{a0 with aD:=(a0.aD.set (a1.cZ).toNat r12.1)})))))
instance sl33Own_c{a0:ae}{a1:dF}{r:Bool×ae}:FCV prog (A0 a0 a1=ς r) 157 (nS a0) [tP 200,.v (.agg (kM [.t,.t] (jp a1)))] (nS r.2) (.v (.c (.d η (.b r.1)))) []:=gV func157 ntmps157 (hb 67 79) (hz 20) (hz 7) (hz 6)
end Go.AM
