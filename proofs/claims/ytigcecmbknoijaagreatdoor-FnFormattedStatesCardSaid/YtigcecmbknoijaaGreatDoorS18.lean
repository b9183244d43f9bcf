/- A part. -/
import Derived.Test.YtigcecmbknoijaaGreatDoorS5
import Derived.Test.YtigcecmbknoijaaGreatDoorS6
import Derived.Test.YtigcecmbknoijaaGreatDoorS7
import Derived.Test.YtigcecmbknoijaaGreatDoorS12
set_option linter.unusedVariables false
open Option renaming some->ς,none->ξ
open Bool renaming true->ζ,false->η
open True renaming intro->θ
open Option renaming bind->ZU
namespace Go.AM
open Go.Proofs
open Tryz
attribute [local irreducible] AWN NS AWO AWR AWC DR DZ cM eN iter
set_option maxRecDepth 100000
set_option maxHeartbeats 40000000
def zy14(a0:aj):Option (be×aj):=
 ZU (nk a0) λr1=>ZU (a9 r1.2 8) λr2=>ZU (cond (eqB r2.1 0) (ZU (fg r2.2 [0,100000,100001,WR (r1.1.bF+1)]) λr10=>ς (r10.2,(⟨r10.1,r1.1.aM⟩:be))) (ZU (cond (eqB r2.1 1) (ZU (a9 r2.2 9) λr16=>cond (cN 32 (r1.1.aM++[(⟨r16.1,[]⟩:ab)]).length) (ς ((r1.1.aM++[(⟨r16.1,[]⟩:ab)]),r16.2)) ξ) (ς (r1.1.aM,r2.2))) λ((v14,v15):List ab×aj)=>ς (v15,(⟨r1.1.bF,v14⟩:be)))) λ((v8,v9):aj×be)=>ς (v9,v8)
instance zy15{a0:aj}{r:be×aj}:FCV prog (zy14 a0=ς r) 58 [(200,.var 115 (kM [.f] (aO a0)))] [tP 200] [(200,.var 115 (kM [.f] (aO r.2)))] (.v (.agg (kM [.n 210] (dt r.1)))) [(210,WK r.1.aM)]:=gV func58 ntmps58 (hC 8 (λ(v:aj×be) sl ob nx=>⟨xS [211] sl,oM [.n 211] 212 72 (dt v.2)++[(200,.var 115 (kM [.f] (aO v.1)))]++ob,nx⟩)) (hC 17 (λ(v:List ab×aj) sl ob nx=>⟨xS [211] sl,[(200,.var 115 (kM [.f] (aO v.2))),(211,WK v.1)]++(uC 212 1 [.wn 211 v.1.length] ob),nx⟩)) (hz 6)
def zy16(v20:Int):(Int×List ah×aj)->Option (cH (Int×List ah×aj) (List ah×aj))
 |(v118,v122,v123)=>cond (ltB 0 v118) (ZU (ix v122 v20) λx134=>ZU (a9 v123 4) λr135=>ZU (nj r135.2 r135.1) λr136=>ZU (jP x134 r136.1) λr137=>ZU (ix v122 v20) λx138=>ς (.next (WR (v118-1),(v122.set (v20).toNat r137.1),r136.2))) (ς (.done (v122,v123)))
def zy17(v20:Int)(r152:bv):(Int×ae)->Option (cH (Int×ae) (ae))
 |(v154,v165)=>cond (ltB v154 (r152.cT.length:Int)) (ZU (ix r152.cT v154) λx180=>ZU (ix r152.cT v154) λx181=>ZU (g8 v165 (⟨v20,ζ,η,x180.bg,x181,ez⟩:bJ)) λr182=>ς (.next (WR (v154+1),r182))) (ς (.done v165))
def zy18:(Int×aj×ae)->Option (cH (Int×aj×ae) (aj×ae))
 |(v20,v34,v35)=>cond (ltB v20 (v35.av.length:Int)) (ZU (a9 v34 7) λr117=>ZU (iter (zy16 v20) FU (r117.1,v35.aD,r117.2)) λ((v132,v133):List ah×aj)=>ZU (fD v133 5) λr139=>ZU (cond (!r139.1) (ZU (ix v35.av v20) λx151=>ZU (sN x151) λr152=>ZU (ix v35.av v20) λx153=>ZU (iter (zy17 v20 r152) FU (0,{v35 with av:=(v35.av.set (v20).toNat r152.bk),aD:=v132})) λ(v179:ae)=>ς v179) (ς {v35 with aD:=v132})) λ(v150:ae)=>ς (.next (WR (v20+1),r139.2,v150))) (ς (.done (v34,v35)))
def zy19(a0:aj):Option (ae×aj):=
 ZU (vI a0) λr1=>ZU (ZU (yU r1.2) λr16=>ZU (lH r16.2) λr17=>ZU (a9 r17.2 60) λr18=>ZU (qV r16.1 r17.1 r1.1 (WR (30+r18.1))) λr19=>ς (r19.cP,r19.lI,r19.Lost,r19.bD,r19.aD,r19.av,r19.d5.bI,r18.2,r19.gT)) λ((v5,v8,v9,v10,v11,v12,v13,v14,v15):Int×Int×Int×List an×List ah×List ax×List d6×aj×bQ)=>ZU (iter (zy18) FU (0,v14,(⟨(⟨v13⟩:bi),v12,v11,v10,([]:List bJ),v5,v15,v8,v9⟩:ae))) λ((v115,v116):aj×ae)=>ς (v116,v115)
instance zy20{a0:aj}{r:ae×aj}:FCV prog (zy19 a0=ς r) 100 [(200,.var 115 (kM [.f] (aO a0)))] [tP 200] [(200,.var 115 (kM [.f] (aO r.2)))] (.v (.agg (kM [.t,.n 210,.n 211,.n 212,.n 213] (bw r.1)))) [(210,n60 r.1.av),(211,n76 r.1.aD),(212,n26 r.1.bD),(213,n85 r.1.aV)]:=⟨λH=>by
 refine fV func100 ntmps100 ?_
 refine aa H λr1 q1 H=>sA (cwv [(200,200)] [(210,211)] 212 (Kp.h q1)) ?_
 refine wI ?_
 obtain⟨⟨v5,v8,v9,v10,v11,v12,v13,v14,v15⟩,Hj,H⟩:=ob H
 refine KT ⟨[(0,tP 200),(2,tP 210),(4,tP 214)],(oM [.n 215,.n 216,.n 217,.n 218,.z] 214 43 (bw (⟨(⟨v13⟩:bi),v12,v11,v10,[],v5,v15,v8,v9⟩:ae))++[(200,.var 115 (kM [.f] (aO v14))),(210,.var 43 (kM [.z,.z,.z,.z,.z] (bw {ec with d5:=(⟨[]⟩:bi)})))]),219⟩ Try.follows ?_ ?_
 .have H:=Hj
  refine DA 8 9 rfl ?_ ?_
  .refine EV [0,1,2,3,4,5,6,7,9,8,10] (by kernel_rfl) (by kernel_rfl) rfl ?_
   refine wI ?_
   refine aa H λr16 q16 H=>wA (cwx (o:=200) (FnV.frzW (CD.h q16) rfl rfl ⟨by first|rfl|simp,θ⟩ rfl)) ?_
   refine aa H λr17 q17 H=>wA (cwx (o:=200) (rA.h q17)) ?_
   refine aa H λr18 q18 H=>wA (cwx (o:=200) (bW.h q18)) ?_
   refine aa H λr19 q19 H=>zB (aJ (eG (o:=213)) (aJ (fc (k:=16)) (gm 211))) (kh rfl (cwv [] [(210,215),(211,216),(212,217),(213,218)] 219 (xi.h q19))) cz ?_
   refine wA (spx 100668) ?_
   exact ai H
  refine EV [0,1,2,3,4,5,6,7,8,9,10] (by kernel_rfl) (by kernel_rfl) rfl ?_
  refine wI ?_
  refine aa H λr16 q16 H=>wA (cwx (o:=200) (FnV.frzW (CD.h q16) rfl rfl ⟨by first|rfl|simp,θ⟩ rfl)) ?_
  refine aa H λr17 q17 H=>wA (cwx (o:=200) (rA.h q17)) ?_
  refine aa H λr18 q18 H=>wA (cwx (o:=200) (bW.h q18)) ?_
  refine aa H λr19 q19 H=>zB (aJ (eG (o:=213)) (aJ (fc (k:=16)) (gm 211))) (kh rfl (cwv [] [(210,214),(211,215),(212,216),(213,217)] 218 (xi.h q19))) cz ?_
  refine wA (spx 100669) ?_
  cases H
  refine aJ (wS 214 218) ?_
  refine aJ (wS 215 218) ?_
  refine aJ (wS 216 218) ?_
  refine aJ (wS 217 218) ?_
  exact wo
 refine wI ?_
 obtain⟨⟨v115,v116⟩,Hj,H⟩:=ob H
 refine jB ⟨[(2,tP 210),(4,tP 214)],(oM [.t,.n 216,.n 217,.n 218,.n 219] 214 43 (bw v116)++[(200,.var 115 (kM [.f] (aO v115))),(210,.var 43 (kM [.z,.z,.z,.z,.z] (bw {ec with d5:=(⟨[]⟩:bi)})))]),220⟩ ?_ ?_
 .refine iT Hj (λq=>⟨[(0,tP 200),(2,tP 210),(4,tP 214),(5,tI q.1)],(oM [.t,.n 216,.n 217,.n 218,.n 219] 214 43 (bw q.2.2)++[(200,.var 115 (kM [.f] (aO q.2.1))),(210,.var 43 (kM [.z,.z,.z,.z,.z] (bw {ec with d5:=(⟨[]⟩:bi)})))]),220⟩) ?_ (by refine aJ (gm 215) ?_;refine aJ (eo (o:=214) (j:=4) 85 21 ζ) ?_;refine aJ (wB 219 (([]:List bJ).length)) ?_;exact wo)
  rintro⟨v20,v34,v35⟩ o H
  refine ad ?_
  refine cC H ?_ ?_<;>intro H
  .refine aa H λr117 q117 H=>sA (cw (o:=200) (bW.h q117)) ?_
   obtain⟨⟨v132,v133⟩,Hj,H⟩:=ob H
   refine jB ⟨[(0,tP 200),(2,tP 210),(4,tP 214),(5,tI v20)],(oM [.t,.n 216,.n 217,.n 218,.n 219] 214 43 (bw {v35 with aD:=v132})++[(200,.var 115 (kM [.f] (aO v133))),(210,.var 43 (kM [.z,.z,.z,.z,.z] (bw {ec with d5:=(⟨[]⟩:bi)})))]),220⟩ ?_ ?_
   .refine iT Hj (λq=>⟨[(0,tP 200),(2,tP 210),(4,tP 214),(5,tI v20),(6,tI q.1)],(oM [.t,.n 216,.n 217,.n 218,.n 219] 214 43 (bw {v35 with aD:=q.2.1})++[(200,.var 115 (kM [.f] (aO q.2.2))),(210,.var 43 (kM [.z,.z,.z,.z,.z] (bw {ec with d5:=(⟨[]⟩:bi)})))]),220⟩) ?_
    rintro⟨v118,v122,v123⟩ o H
    refine ad ?_
    refine cC H ?_ ?_<;>intro H
    .refine zI (List.range 16) ?_
     refine aa H λx134 hx134 H=>zA (mb hx134) ?_
     refine zA (WU (he:=js _ hx134)) ?_
     refine aa H λr135 q135 H=>wA (cwx (o:=200) (bW.h q135)) ?_
     refine aa H λr136 q136 H=>wA (cwx (o:=200) (tZ.h q136)) ?_
     refine aa H λr137 q137 H=>zA (ca (hF:=Ax.h q137)) ?_
     refine wA (spx 100693) ?_
     refine aa H λx138 hx138 H=>eC (jL 217 (hne:=uq (enc:=cQ) hx138)) ?_
     refine nA (xwT hx138) ?_
     refine eC (eG (o:=221)) ?_
     refine eC (eG (o:=222)) ?_
     refine eC (eG (o:=223)) ?_
     refine eC (fc (k:=51)) ?_
     refine sA (soT (enc:=cQ) (a':=r137.1) hx138) ?_
     cases H
     refine qF ?_
     refine aJ (fE 217) ?_
     refine aJ (wB 217 ((v122.set (v20).toNat r137.1).length)) ?_
     exact wo
    exact aE H
   refine aa H λr139 q139 H=>sA (cw (o:=200) (jh.h q139)) ?_
   refine aa H λv150 Hj H=>jA ⟨[(0,tP 200),(2,tP 210),(4,tP 214),(5,tI v20)],(oM [.t,.n 216,.n 217,.n 218,.n 219] 214 43 (bw v150)++[(200,.var 115 (kM [.f] (aO r139.2))),(210,.var 43 (kM [.z,.z,.z,.z,.z] (bw {ec with d5:=(⟨[]⟩:bi)})))]),220⟩ ?_ ?_
   .refine cC Hj ?_ ?_<;>intro H
    .refine aa H λx151 hx151 H=>eC (jL 216 (hne:=uq (enc:=eh) hx151)) ?_
     refine nA (xwT hx151) ?_
     refine nA (oea (he:=js _ hx151)) ?_
     refine aa H λr152 q152 H=>nA (ca (hF:=Kg.h q152)) ?_
     refine aa H λx153 hx153 H=>nA (xwT hx153) ?_
     refine sA (soT (enc:=eh) (a':=r152.bk) hx153) ?_
     refine aa H λv179 Hj H=>jB ⟨[(0,tP 200),(2,tP 210),(4,tP 214),(5,tI v20)],(oM [.t,.n 216,.n 217,.n 218,.n 219] 214 43 (bw v179)++[(200,.var 115 (kM [.f] (aO r139.2))),(210,.var 43 (kM [.z,.z,.z,.z,.z] (bw {ec with d5:=(⟨[]⟩:bi)})))]),222⟩ ?_ ?_
     .refine iT Hj (λq=>⟨[(0,tP 200),(2,tP 210),(4,tP 214),(5,tI v20),(9,tP 221),(10,tI q.1)],(oM [.t,.n 216,.n 217,.n 218,.n 219] 214 43 (bw q.2)++(oM [.t,.t,.w 220] 221 151 (eE r152)++[(200,.var 115 (kM [.f] (aO r139.2))),(210,.var 43 (kM [.z,.z,.z,.z,.z] (bw {ec with d5:=(⟨[]⟩:bi)})))])),222⟩) ?_ (by refine aJ (fE 216) ?_;refine aJ (wB 216 ((v35.av.set (v20).toNat r152.bk).length)) ?_;exact wo)
      rintro⟨v154,v165⟩ o H
      refine ad ?_
      refine cC H ?_ ?_<;>intro H
      .refine zI (List.range 14) ?_
       refine aa H λx180 hx180 H=>zA (xwT hx180) ?_
       refine zA (oe (he:=js _ hx180)) ?_
       refine aa H λx181 hx181 H=>zA (xwT hx181) ?_
       refine zA (oea (he:=js _ hx181)) ?_
       refine aa H λr182 q182 H=>zB cz (kh rfl (cwu [(190,216),(191,217),(192,218),(193,219),(200,214)] [] 222 (Ks.h q182))) cz ?_
       exact aN H
      exact aE H
     exact ai H
    exact ai H
   exact aN H
  exact aE H
 cases H
 refine cg (wS 216 210) ?_
 refine cg (wS 217 211) ?_
 refine cg (wS 218 212) ?_
 refine cg (wS 219 213) ?_
 exact dv⟩
def CR(a0:aj):Option (Int×aF×aj):=
 ZU (o5 a0) λr1=>ZU (a9 r1.2 9) λr2=>ZU (a9 r2.2 2) λr3=>ZU (a9 r3.2 3) λr4=>ZU (sX (WR (1+r2.1))) λr5=>ZU (lY r1.1 (WR (1+r3.1)) r4.1 (⟨WR (1+r2.1),r5⟩:ab)) λr6=>ς (r1.1,r6,r4.2)
instance Xw{a0:aj}{r:Int×aF×aj}:FCW prog (CR a0=ς r) 61 (.var 115 (kM [.f] (aO a0))) [tP 200] (.var 115 (kM [.f] (aO r.2.2))) [.c (.d (.i .i64 r.1)),.agg (qM [.o] (gF r.2.1))]:=gW func61 ntmps61
end Go.AM
