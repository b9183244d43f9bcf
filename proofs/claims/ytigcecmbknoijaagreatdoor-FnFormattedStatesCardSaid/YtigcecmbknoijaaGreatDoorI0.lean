/- A part. -/
import Derived.Test.YtigcecmbknoijaaGreatDoorG
set_option linter.unusedVariables false
open Option renaming some->ς,none->ξ
open Bool renaming true->ζ,false->η
open True renaming intro->θ
open Option renaming bind->ZS
open List renaming replicate->Yo,range->v0
namespace Go.AM
open Go.Proofs
open Tryz
attribute [local irreducible] AWN NS AWO AWR AWC DR DZ cM eN iter
set_option maxRecDepth 100000
set_option maxHeartbeats 40000000
variable{a0:Int}{r:ByteArray}
def dP(a0:Int):Option ByteArray:=
 ZS (Lg a0) λr1=>ς r1
instance dL:FC prog (dP a0=ς r) 32 [aI a0] [.c (.d (.str r))]:=⟨λH=>by
 refine fI func32 ntmps32 ?_
 refine aa H λr1 q1 H=>nA (ca (hF:=Ud q1)) ?_
 cases H
 exact dK⟩
def tE(a0:List Int):(Int×List ByteArray)->Option (cH (Int×List ByteArray) (List ByteArray))
 |(v1,v2)=>cond (ltB v1 (a0.length:Int)) (ZS (ix a0 v1) λx7=>ZS (dP x7) λr8=>ZS (ix v2 v1) λx9=>ς (.next (WR (v1+1),(v2.set (v1).toNat r8)))) (ς (.done v2))
def nV(a0:List Int)(a1:ByteArray):Option ByteArray:=
 cond (u6 16 (a0.length:Int) (a0.length:Int)) (ZS (iter (tE a0) FU (0,(Yo ((a0.length:Int)).toNat (⟨#[]⟩:ByteArray)))) λ(v6:List ByteArray)=>ZS (w8 v6 a1) λr10=>ς r10) ξ
instance uV{a0:List Int}{a1:ByteArray} :FC prog (nV a0 a1=ς r) 30 [aL (a0.map eI),aS a1] [.c (.d (.str r))]:=⟨λH=>by
 refine fI func30 ntmps30 ?_
 obtain⟨h,H⟩:=rq H
 refine nA (mkT (enc:=eS) (za:=(⟨#[]⟩:ByteArray)) h (by rfl)) ?_
 refine aa H λv6 Hj H=>jB ⟨[(1,tS a1),(5,.v (.c (.w 0 v6.length)))],[(0,w9 v6)],1⟩ ?_ ?_
 .refine iT Hj (λq=>⟨[(1,tS a1),(5,.v (.c (.w 0 q.2.length))),(11,.v (.c (.d η (.l (a0.map eI))))),(12,tI (a0.length:Int)),(13,tI q.1)],[(0,w9 q.2)],1⟩) ?_
  rintro⟨v1,v2⟩ o H
  refine ad ?_
  refine cC H ?_ ?_<;>intro H
  .refine aa H λx7 hx7 H=>nA (xdT (enc:=eI) hx7) ?_
   refine aa H λr8 q8 H=>nA (ca (hF:=dL.h q8)) ?_
   refine aa H λx9 hx9 H=>nA (xwT hx9) ?_
   refine sA (soT (enc:=eS) (a':=r8) hx9) ?_
   exact aN H
  exact aE H
 refine aa H λr10 q10 H=>nA (ca (hF:=Fp q10)) ?_
 cases H
 exact dK⟩
def mJ(a0:an):(Int×Int)->Option (cH (Int×Int) (Int))
 |(v1,v2)=>cond (ltB v2 (a0.aC.length:Int)) (ZS (ix a0.aC v2) λx5=>ς (.next (WR (v1+x5.dV),WR (v2+1)))) (ς (.done v1))
def mI(a0:an):Option Int:=
 ZS (iter (mJ a0) FU (0,0)) λ(v4:Int)=>ς v4
instance zF{a0:an}{r:Int}:FC prog (mI a0=ς r) 31 [.agg (dX a0)] [.c (.d (.i .i64 r))]:=⟨λH=>by
 refine fI func31 ntmps31 ?_
 refine aa H λv4 Hj H=>jB ⟨[(3,tI v4)],[],1⟩ ?_ ?_
 .refine iT Hj (λq=>⟨[(3,tI q.1),(7,.v (.c (.d η (.l (a0.aC.map bT))))),(8,tI (a0.aC.length:Int)),(9,tI q.2)],[],1⟩) ?_
  rintro⟨v1,v2⟩ o H
  refine ad ?_
  refine cC H ?_ ?_<;>intro H
  .refine aa H λx5 hx5 H=>nA (xdT (enc:=bT) hx5) ?_
   exact aN H
  exact aE H
 cases H
 exact dK⟩
def mF(a0:an):Option ByteArray:=
 ZS (mI a0) λr1=>ZS (nV [a0.bN,r1,a0.fj] ⟨#[43]⟩) λr2=>cond (eT r2 (⟨#[61]⟩:ByteArray)) (ZS (dP a0.fL) λr3=>cond (eT (r2++(⟨#[61]⟩:ByteArray)) r3) (ς ((r2++(⟨#[61]⟩:ByteArray))++r3)) ξ) ξ
instance Nm{a0:an} :FC prog (mF a0=ς r) 11 [.agg (dX a0)] [.c (.d (.str r))]:=⟨λH=>by
 refine fI func11 ntmps11 ?_
 refine dI ?_
 refine aa H λr1 q1 H=>dA (ca (hF:=zF.h q1)) ?_
 refine aa H λr2 q2 H=>dA (ca (hF:=uV.h q2)) ?_
 obtain⟨h,H⟩:=rq H
 refine dA (saT h) ?_
 refine aa H λr3 q3 H=>dA (ca (hF:=dL.h q3)) ?_
 obtain⟨h,H⟩:=rq H
 refine dA (saT h) ?_
 refine wI ?_
 cases H
 exact dK⟩
def kZ(a0:List bV):(Int×List ByteArray)->Option (cH (Int×List ByteArray) (List ByteArray))
 |(v1,v2)=>cond (ltB v1 (a0.length:Int)) (ZS (ix a0 v1) λx9=>ZS (dP x9.GP) λr10=>cond (eT r10 (⟨#[62]⟩:ByteArray)) (ZS (dP x9.GO) λr11=>cond (eT (r10++(⟨#[62]⟩:ByteArray)) r11) (cond (eT ((r10++(⟨#[62]⟩:ByteArray))++r11) (⟨#[58]⟩:ByteArray)) (ZS (dP x9.dV) λr12=>cond (eT (((r10++(⟨#[62]⟩:ByteArray))++r11)++(⟨#[58]⟩:ByteArray)) r12) (ZS (ix v2 v1) λx13=>ς (.next (WR (v1+1),(v2.set (v1).toNat ((((r10++(⟨#[62]⟩:ByteArray))++r11)++(⟨#[58]⟩:ByteArray))++r12))))) ξ) ξ) ξ) ξ) (ς (.done v2))
def kN(a0:List bV):Option ByteArray:=
 cond (eqB (a0.length:Int) 0) (ς ⟨#[45]⟩) (cond (u6 16 (a0.length:Int) (a0.length:Int)) (ZS (iter (kZ a0) FU (0,(Yo ((a0.length:Int)).toNat (⟨#[]⟩:ByteArray)))) λ(v8:List ByteArray)=>ZS (w8 v8 ⟨#[32]⟩) λr14=>ς r14) ξ)
instance JF{a0:List bV} :FC prog (kN a0=ς r) 13 [aL (a0.map fH)] [.c (.d (.str r))]:=⟨λH=>by
 refine fI func13 ntmps13 ?_
 refine cC H ?_ ?_<;>intro H
 .exact ao H
 obtain⟨h,H⟩:=rq H
 refine nA (mkT (enc:=eS) (za:=(⟨#[]⟩:ByteArray)) h (by rfl)) ?_
 refine aa H λv8 Hj H=>jB ⟨[(3,.v (.c (.w 0 v8.length)))],[(0,w9 v8)],1⟩ ?_ ?_
 .refine iT Hj (λq=>⟨[(3,.v (.c (.w 0 q.2.length))),(12,.v (.c (.d η (.l (a0.map fH))))),(13,tI (a0.length:Int)),(14,tI q.1)],[(0,w9 q.2)],1⟩) ?_
  rintro⟨v1,v2⟩ o H
  refine ad ?_
  refine cC H ?_ ?_<;>intro H
  .refine aa H λx9 hx9 H=>nA (xdT (enc:=fH) hx9) ?_
   refine zI (v0 17) ?_
   refine aa H λr10 q10 H=>zA (ca (hF:=dL.h q10)) ?_
   obtain⟨h,H⟩:=rq H
   refine zA (saT h) ?_
   refine aa H λr11 q11 H=>zA (ca (hF:=dL.h q11)) ?_
   obtain⟨h,H⟩:=rq H
   refine zA (saT h) ?_
   obtain⟨h,H⟩:=rq H
   refine zA (saT h) ?_
   refine aa H λr12 q12 H=>zA (ca (hF:=dL.h q12)) ?_
   obtain⟨h,H⟩:=rq H
   refine zA (saT h) ?_
   refine aa H λx13 hx13 H=>zA (xwT hx13) ?_
   refine zB cz (kh rfl (soT (enc:=eS) (a':=(((r10++(⟨#[62]⟩:ByteArray))++r11)++(⟨#[58]⟩:ByteArray))++r12) hx13)) cz ?_
   exact aN H
  exact aE H
 refine aa H λr14 q14 H=>nA (ca (hF:=Fp q14)) ?_
 cases H
 exact dK⟩
def uU(a0:ae):(Int×List Int)->Option (cH (Int×List Int) (List Int))
 |(v1,v2)=>cond (ltB v1 (a0.av.length:Int)) (ZS (ix a0.av v1) λx5=>cond (cN 8 (v2++[(x5.bL.a8.length:Int)]).length) (ς (.next (WR (v1+1),(v2++[(x5.bL.a8.length:Int)])))) ξ) (ς (.done v2))
def yt(a0:ae):Option (List Int):=
 ZS (iter (uU a0) FU (0,[a0.lI,(a0.aV.length:Int),a0.Lost])) λ(v4:List Int)=>ς v4
instance JG{a0:ae}{r:List Int}:FC prog (yt a0=ς r) 34 [.agg (kK a0)] [.c (.own 3 1 (r.map eI) r.length)]:=⟨λH=>by
 refine fI func34 ntmps34 ?_
 refine aa H λv4 Hj H=>jB ⟨[(3,.v (.c (.w 1 v4.length)))],[(1,w3 v4)],2⟩ ?_ ?_
 .refine iT Hj (λq=>⟨[(3,.v (.c (.w 1 q.2.length))),(15,.v (.c (.d η (.l (a0.av.map eh))))),(16,tI (a0.av.length:Int)),(17,tI q.1)],[(1,w3 q.2)],2⟩) ?_
  rintro⟨v1,v2⟩ o H
  refine ad ?_
  refine cC H ?_ ?_<;>intro H
  .refine aa H λx5 hx5 H=>nA (xdT (enc:=eh) hx5) ?_
   obtain⟨h,H⟩:=rq H
   refine sA (apT (enc:=eI) (ys:=v2) (zs:=[(x5.bL.a8.length:Int)]) h) ?_
   exact aN H
  exact aE H
 cases H
 exact dK⟩
def mH(a0:ae):Option ByteArray:=
 ZS (yt a0) λr1=>ZS (nV r1 ⟨#[32]⟩) λr2=>ς r2
instance Nq{a0:ae} :FC prog (mH a0=ς r) 14 [.agg (kK a0)] [.c (.d (.str r))]:=⟨λH=>by
 refine fI func14 ntmps14 ?_
 refine aa H λr1 q1 H=>nA (ca (hF:=JG.h q1)) ?_
 refine aa H λr2 q2 H=>nA (ca (hF:=uV.h q2)) ?_
 cases H
 exact dK⟩
def im(a0:List Int):(Int×List Int)->Option (cH (Int×List Int) (List Int))
 |(v1,v2)=>cond (ltB v1 (a0.length:Int)) (ZS (ix a0 v1) λx7=>ZS (bIx (⟨#[48,49,50,51,52,53,54,55,56,57,97,98,99,100,101,102]⟩:ByteArray) (Ap .u8 x7 4)) λx8=>ZS (bIx (⟨#[48,49,50,51,52,53,54,55,56,57,97,98,99,100,101,102]⟩:ByteArray) (uL .u8 x7 15)) λx9=>cond (cN 1 (v2++[x8,x9]).length) (ς (.next (WR (v1+1),(v2++[x8,x9])))) ξ) (ς (.done v2))
def kr(a0:List Int):Option ByteArray:=
 cond (eqB (a0.length:Int) 0) (ς ⟨#[45]⟩) (cond (u6 1 0 (WR (2*(a0.length:Int)))) (ZS (iter (im a0) FU (0,(Yo ((0:Int)).toNat (0:Int)))) λ(v6:List Int)=>ς (mz v6)) ξ)
instance No{a0:List Int} :FC prog (kr a0=ς r) 20 [aL (a0.map eU8)] [.c (.d (.str r))]:=⟨λH=>by
 refine fI func20 ntmps20 ?_
 refine cC H ?_ ?_<;>intro H
 .exact ao H
 obtain⟨h,H⟩:=rq H
 refine nA (mkT (enc:=eU8) (za:=0) h (by rfl)) ?_
 refine aa H λv6 Hj H=>jB ⟨[(3,.v (.c (.w 0 v6.length)))],[(0,w5 v6)],1⟩ ?_ ?_
 .refine iT Hj (λq=>⟨[(3,.v (.c (.w 0 q.2.length))),(13,.v (.c (.d η (.l (a0.map eU8))))),(14,tI (a0.length:Int)),(15,tI q.1)],[(0,w5 q.2)],1⟩) ?_
  rintro⟨v1,v2⟩ o H
  refine ad ?_
  refine cC H ?_ ?_<;>intro H
  .refine aa H λx7 hx7 H=>nA (xdT (enc:=eU8) hx7) ?_
   refine zI (v0 10) ?_
   refine zA (ishL (b:=4) rfl rfl rfl rfl) ?_
   refine aa H λx8 hx8 H=>zA (xstT hx8) ?_
   refine aa H λx9 hx9 H=>zA (xstT hx9) ?_
   obtain⟨h,H⟩:=rq H
   refine wA (Db (enc:=eU8) (ys:=v2) (zs:=[x8,x9]) [0,1] h) ?_
   refine lA (ds:=[0]) (by kernel_rfl) (by kernel_rfl) rfl ?_
   refine wI ?_
   cases H
   refine qF ?_
   refine aJ (wS 0 2) ?_
   exact wo
  exact aE H
 refine nA (bt2 (xs:=v6) rfl rfl (by first|rfl|simp) rfl) ?_
 cases H
 exact dK⟩
def qP(a0:Int):Option ByteArray:=
 cond (eqB a0 1) (ς ⟨#[97,116,116,97,99,104]⟩) (cond (eqB a0 2) (ς ⟨#[99,104,97,108,108,101,110,103,101]⟩) (cond (eqB a0 3) (ς ⟨#[114,101,115,112,111,110,115,101]⟩) (cond (eqB a0 4) (ς ⟨#[97,99,99,101,112,116]⟩) (cond (eqB a0 5) (ς ⟨#[112,97,116,104,45,117,112,100,97,116,101]⟩) (cond (eqB a0 6) (ς ⟨#[112,97,116,104,45,97,99,107]⟩) (cond (eqB a0 7) (ς ⟨#[112,97,103,101]⟩) (cond (eqB a0 8) (ς ⟨#[100,97,116,97,45,97,99,107]⟩) (ς ⟨#[63]⟩))))))))
instance Df:FC prog (qP a0=ς r) 64 [aI a0] [.c (.d (.str r))]:=⟨λH=>by
 refine fI func64 ntmps64 ?_
 refine cC H ?_ ?_<;>intro H
 .exact ao H
 refine cC H ?_ ?_<;>intro H
 .exact ao H
 refine cC H ?_ ?_<;>intro H
 .exact ao H
 refine cC H ?_ ?_<;>intro H
 .exact ao H
 refine cC H ?_ ?_<;>intro H
 .exact ao H
 refine cC H ?_ ?_<;>intro H
 .exact ao H
 refine cC H ?_ ?_<;>intro H
 .exact ao H
 refine cC H ?_ ?_<;>intro H
 .exact ao H
 cases H
 exact dK⟩
def oh(a0:aT):Option ByteArray:=
 ZS (qP a0.bp) λr1=>cond (eT r1 (⟨#[64]⟩:ByteArray)) (ZS (dP a0.bg) λr2=>cond (eT (r1++(⟨#[64]⟩:ByteArray)) r2) (cond (eT ((r1++(⟨#[64]⟩:ByteArray))++r2) (⟨#[58]⟩:ByteArray)) (ZS (dP a0.ag) λr3=>cond (eT (((r1++(⟨#[64]⟩:ByteArray))++r2)++(⟨#[58]⟩:ByteArray)) r3) (cond (eT ((((r1++(⟨#[64]⟩:ByteArray))++r2)++(⟨#[58]⟩:ByteArray))++r3) (⟨#[46]⟩:ByteArray)) (ZS (dP a0.aZ) λr4=>cond (eT (((((r1++(⟨#[64]⟩:ByteArray))++r2)++(⟨#[58]⟩:ByteArray))++r3)++(⟨#[46]⟩:ByteArray)) r4) (ς ((((((r1++(⟨#[64]⟩:ByteArray))++r2)++(⟨#[58]⟩:ByteArray))++r3)++(⟨#[46]⟩:ByteArray))++r4)) ξ) ξ) ξ) ξ) ξ) ξ
instance Ar{a0:aT} :FC prog (oh a0=ς r) 46 [.agg (eM a0)] [.c (.d (.str r))]:=⟨λH=>by
 refine fI func46 ntmps46 ?_
 refine dI ?_
 refine aa H λr1 q1 H=>dA (ca (hF:=Df.h q1)) ?_
 obtain⟨h,H⟩:=rq H
 refine dA (saT h) ?_
 refine aa H λr2 q2 H=>dA (ca (hF:=dL.h q2)) ?_
 obtain⟨h,H⟩:=rq H
 refine dA (saT h) ?_
 obtain⟨h,H⟩:=rq H
 refine dA (saT h) ?_
 refine aa H λr3 q3 H=>dA (ca (hF:=dL.h q3)) ?_
 obtain⟨h,H⟩:=rq H
 refine dA (saT h) ?_
 obtain⟨h,H⟩:=rq H
 refine dA (saT h) ?_
 refine aa H λr4 q4 H=>dA (ca (hF:=dL.h q4)) ?_
 obtain⟨h,H⟩:=rq H
 refine dA (saT h) ?_
 refine wI ?_
 cases H
 exact dK⟩
def gH(a0:bJ):Option ByteArray:=
 ZS (dP a0.bk) λr1=>ZS (cond a0.dm (cond (eT r1 (⟨#[94]⟩:ByteArray)) (ς (r1++(⟨#[94]⟩:ByteArray))) ξ) (cond (eT r1 (⟨#[118]⟩:ByteArray)) (ς (r1++(⟨#[118]⟩:ByteArray))) ξ)) λ(v2:ByteArray)=>cond (!a0.cS) (ZS (oh a0.bh) λr3=>cond (eT v2 r3) (ς (v2++r3)) ξ) (cond (eT v2 (⟨#[100,97,116,97,64]⟩:ByteArray)) (ZS (dP a0.bg) λr4=>cond (eT (v2++(⟨#[100,97,116,97,64]⟩:ByteArray)) r4) (cond (eT ((v2++(⟨#[100,97,116,97,64]⟩:ByteArray))++r4) (⟨#[58]⟩:ByteArray)) (ZS (dP a0.cA.bH.eJ) λr5=>cond (eT (((v2++(⟨#[100,97,116,97,64]⟩:ByteArray))++r4)++(⟨#[58]⟩:ByteArray)) r5) (cond (eT ((((v2++(⟨#[100,97,116,97,64]⟩:ByteArray))++r4)++(⟨#[58]⟩:ByteArray))++r5) (⟨#[46]⟩:ByteArray)) (ZS (dP a0.cA.aZ) λr6=>cond (eT (((((v2++(⟨#[100,97,116,97,64]⟩:ByteArray))++r4)++(⟨#[58]⟩:ByteArray))++r5)++(⟨#[46]⟩:ByteArray)) r6) (ς ((((((v2++(⟨#[100,97,116,97,64]⟩:ByteArray))++r4)++(⟨#[58]⟩:ByteArray))++r5)++(⟨#[46]⟩:ByteArray))++r6)) ξ) ξ) ξ) ξ) ξ) ξ)
instance Aq{a0:bJ} :FC prog (gH a0=ς r) 25 [.agg (eW a0)] [.c (.d (.str r))]:=⟨λH=>by
 refine fI func25 ntmps25 ?_
 refine aa H λr1 q1 H=>nA (ca (hF:=dL.h q1)) ?_
 refine aa H λv2 Hj H=>jA ⟨[(1,tP 0),(3,tS v2)],[(0,.var 85 (kM [.f] (pY a0)))],1⟩ ?_ ?_
 .refine cC Hj ?_ ?_<;>intro H
  .obtain⟨h,H⟩:=rq H
   refine nA (saT h) ?_
   exact ai H
  obtain⟨h,H⟩:=rq H
  refine nA (saT h) ?_
  exact ai H
 refine cC H ?_ ?_<;>intro H
 .refine aa H λr3 q3 H=>nA (ca (hF:=Ar.h q3)) ?_
  obtain⟨h,H⟩:=rq H
  refine nA (saT h) ?_
  exact ao H
 refine dI ?_
 obtain⟨h,H⟩:=rq H
 refine dA (saT h) ?_
 refine aa H λr4 q4 H=>dA (ca (hF:=dL.h q4)) ?_
 obtain⟨h,H⟩:=rq H
 refine dA (saT h) ?_
 obtain⟨h,H⟩:=rq H
 refine dA (saT h) ?_
 refine aa H λr5 q5 H=>dA (ca (hF:=dL.h q5)) ?_
 obtain⟨h,H⟩:=rq H
 refine dA (saT h) ?_
 obtain⟨h,H⟩:=rq H
 refine dA (saT h) ?_
 refine aa H λr6 q6 H=>dA (ca (hF:=dL.h q6)) ?_
 obtain⟨h,H⟩:=rq H
 refine dA (saT h) ?_
 refine wI ?_
 cases H
 exact dK⟩
def mG(a0:ae):(Int×List ByteArray)->Option (cH (Int×List ByteArray) (List ByteArray))
 |(v1,v2)=>cond (ltB v1 (a0.aV.length:Int)) (ZS (ix a0.aV v1) λx7=>ZS (gH x7) λr8=>ZS (ix v2 v1) λx9=>ς (.next (WR (v1+1),(v2.set (v1).toNat r8)))) (ς (.done v2))
def gX(a0:ae):Option ByteArray:=
 cond (eqB (a0.aV.length:Int) 0) (ς ⟨#[45]⟩) (cond (u6 16 (a0.aV.length:Int) (a0.aV.length:Int)) (ZS (iter (mG a0) FU (0,(Yo ((a0.aV.length:Int)).toNat (⟨#[]⟩:ByteArray)))) λ(v6:List ByteArray)=>ZS (w8 v6 ⟨#[59,32]⟩) λr10=>ς r10) ξ)
instance Nn{a0:ae} :FC prog (gX a0=ς r) 22 [.agg (kK a0)] [.c (.d (.str r))]:=⟨λH=>by
 refine fI func22 ntmps22 ?_
 refine cC H ?_ ?_<;>intro H
 .exact ao H
 obtain⟨h,H⟩:=rq H
 refine nA (mkT (enc:=eS) (za:=(⟨#[]⟩:ByteArray)) h (by rfl)) ?_
 refine aa H λv6 Hj H=>jB ⟨[(3,.v (.c (.w 1 v6.length)))],[(1,w9 v6)],2⟩ ?_ ?_
 .refine iT Hj (λq=>⟨[(3,.v (.c (.w 1 q.2.length))),(15,.v (.c (.d η (.l (a0.aV.map eW))))),(16,tI (a0.aV.length:Int)),(17,tI q.1)],[(1,w9 q.2)],2⟩) ?_
  rintro⟨v1,v2⟩ o H
  refine ad ?_
  refine cC H ?_ ?_<;>intro H
  .refine aa H λx7 hx7 H=>nA (xdT (enc:=eW) hx7) ?_
   refine aa H λr8 q8 H=>nA (ca (hF:=Aq.h q8)) ?_
   refine aa H λx9 hx9 H=>nA (xwT hx9) ?_
   refine sA (soT (enc:=eS) (a':=r8) hx9) ?_
   exact aN H
  exact aE H
 refine aa H λr10 q10 H=>nA (ca (hF:=Fp q10)) ?_
 cases H
 exact dK⟩
def uT(a0:Int)(a1:Int)(a2:Int):Option Bool:=
 ZS (cond (leB a1 a0) (ς (leB a0 a2)) (ς η)) λ(v1:Bool)=>ς v1
instance BS{a1:Int}{a2:Int}{r:Bool}:FC prog (uT a0 a1 a2=ς r) 107 [aI a0,aI a1,aI a2] [.c (.d (.b r))]:=⟨λH=>by
 refine fI func107 ntmps107 ?_
 refine aa H λv1 Hj H=>jR ⟨[(6,tB v1)],[],0⟩ ?_ ?_
 .exact az Hj
 cases H
 exact dK⟩
def ip(a0:cG):Option Bool:=
 ZS (uT a0.dE 0 3) λr1=>ZS (cond r1 (ZS (uT a0.bZ 0 99) λr3=>ς r3) (ς η)) λ(v2:Bool)=>ς v2
instance tD{a0:cG}{r:Bool}:FC prog (ip a0=ς r) 63 [.agg (mB a0)] [.c (.d (.b r))]:=⟨λH=>by
 refine fI func63 ntmps63 ?_
 refine aa H λr1 q1 H=>nA (ca (hF:=BS.h q1)) ?_
 refine aa H λv2 Hj H=>jR ⟨[(2,tB v2)],[],1⟩ ?_ ?_
 .refine gC Hj ?_ ?_<;>intro H
  .refine aa H λr3 q3 H=>nG (ca (hF:=BS.h q3)) ?_
   exact ai H
  exact ai H
 cases H
 exact dK⟩
def iO(a0:cG):Option ByteArray:=
 ZS (ip a0) λr1=>cond (!r1) (ς ⟨#[]⟩) (ZS (dP a0.dE) λr2=>cond (eT r2 (⟨#[45]⟩:ByteArray)) (ZS (dP a0.bZ) λr3=>cond (eT (r2++(⟨#[45]⟩:ByteArray)) r3) (ς ((r2++(⟨#[45]⟩:ByteArray))++r3)) ξ) ξ)
instance uB{a0:cG} :FC prog (iO a0=ς r) 42 [.agg (mB a0)] [.c (.d (.str r))]:=⟨λH=>by
 refine fI func42 ntmps42 ?_
 refine aa H λr1 q1 H=>nA (ca (hF:=tD.h q1)) ?_
 refine cC H ?_ ?_<;>intro H
 .exact ao H
 refine dI ?_
 refine aa H λr2 q2 H=>dA (ca (hF:=dL.h q2)) ?_
 obtain⟨h,H⟩:=rq H
 refine dA (saT h) ?_
 refine aa H λr3 q3 H=>dA (ca (hF:=dL.h q3)) ?_
 obtain⟨h,H⟩:=rq H
 refine dA (saT h) ?_
 refine wI ?_
 cases H
 exact dK⟩
def kO(a0:Int):Option ByteArray:=
 cond (eqB a0 0) (ς ⟨#[111,102,102]⟩) (cond (eqB a0 1) (ς ⟨#[97,116,116,97,99,104,105,110,103]⟩) (cond (eqB a0 2) (ς ⟨#[99,111,110,110,101,99,116,101,100]⟩) (cond (eqB a0 3) (ς ⟨#[105,100,108,101]⟩) (ς ⟨#[63]⟩))))
instance xE:FC prog (kO a0=ς r) 43 [aI a0] [.c (.d (.str r))]:=⟨λH=>by
 refine fI func43 ntmps43 ?_
 refine cC H ?_ ?_<;>intro H
 .exact ao H
 refine cC H ?_ ?_<;>intro H
 .exact ao H
 refine cC H ?_ ?_<;>intro H
 .exact ao H
 refine cC H ?_ ?_<;>intro H
 .exact ao H
 cases H
 exact dK⟩
def iG(a0:ax):Option ByteArray:=
 ZS (iO a0.dZ.ID) λr1=>cond (eT r1 (⟨#[32]⟩:ByteArray)) (ZS (kO a0.bB) λr2=>cond (eT (r1++(⟨#[32]⟩:ByteArray)) r2) (cond (eT ((r1++(⟨#[32]⟩:ByteArray))++r2) (⟨#[64]⟩:ByteArray)) (ZS (dP a0.bg) λr3=>cond (eT (((r1++(⟨#[32]⟩:ByteArray))++r2)++(⟨#[64]⟩:ByteArray)) r3) (cond (eT ((((r1++(⟨#[32]⟩:ByteArray))++r2)++(⟨#[64]⟩:ByteArray))++r3) (⟨#[46]⟩:ByteArray)) (ZS (dP a0.aZ) λr4=>cond (eT (((((r1++(⟨#[32]⟩:ByteArray))++r2)++(⟨#[64]⟩:ByteArray))++r3)++(⟨#[46]⟩:ByteArray)) r4) (cond (eT ((((((r1++(⟨#[32]⟩:ByteArray))++r2)++(⟨#[64]⟩:ByteArray))++r3)++(⟨#[46]⟩:ByteArray))++r4) (⟨#[32]⟩:ByteArray)) (ZS (dP (a0.bL.a8.length:Int)) λr5=>cond (eT (((((((r1++(⟨#[32]⟩:ByteArray))++r2)++(⟨#[64]⟩:ByteArray))++r3)++(⟨#[46]⟩:ByteArray))++r4)++(⟨#[32]⟩:ByteArray)) r5) (ς ((((((((r1++(⟨#[32]⟩:ByteArray))++r2)++(⟨#[64]⟩:ByteArray))++r3)++(⟨#[46]⟩:ByteArray))++r4)++(⟨#[32]⟩:ByteArray))++r5)) ξ) ξ) ξ) ξ) ξ) ξ) ξ) ξ
instance OI{a0:ax} :FC prog (iG a0=ς r) 23 [.agg (eh a0)] [.c (.d (.str r))]:=⟨λH=>by
 refine fI func23 ntmps23 ?_
 refine dI ?_
 refine aa H λr1 q1 H=>dA (ca (hF:=uB.h q1)) ?_
 obtain⟨h,H⟩:=rq H
 refine dA (saT h) ?_
 refine aa H λr2 q2 H=>dA (ca (hF:=xE.h q2)) ?_
 obtain⟨h,H⟩:=rq H
 refine dA (saT h) ?_
 obtain⟨h,H⟩:=rq H
 refine dA (saT h) ?_
 refine aa H λr3 q3 H=>dA (ca (hF:=dL.h q3)) ?_
 obtain⟨h,H⟩:=rq H
 refine dA (saT h) ?_
 obtain⟨h,H⟩:=rq H
 refine dA (saT h) ?_
 refine aa H λr4 q4 H=>dA (ca (hF:=dL.h q4)) ?_
 obtain⟨h,H⟩:=rq H
 refine dA (saT h) ?_
 obtain⟨h,H⟩:=rq H
 refine dA (saT h) ?_
 refine aa H λr5 q5 H=>dA (ca (hF:=dL.h q5)) ?_
 obtain⟨h,H⟩:=rq H
 refine dA (saT h) ?_
 refine wI ?_
 cases H
 exact dK⟩
def kq(a0:ah):Option Int:=
 ς (WR ((WR (a0.aK.bF-1))-(a0.aK.aM.length:Int)))
instance tC{a0:ah}{r:Int}:FC prog (kq a0=ς r) 44 [.agg (cQ a0)] [.c (.d (.i .i64 r))]:=⟨λH=>by
 refine fI func44 ntmps44 ?_
 cases H
 exact dK⟩
def jW(a0:Int):Option ByteArray:=
 cond (eqB a0 0) (ς ⟨#[100,101,116,97,99,104,101,100]⟩) (cond (eqB a0 1) (ς ⟨#[97,99,116,105,118,101]⟩) (ς ⟨#[63]⟩))
instance wR:FC prog (jW a0=ς r) 45 [aI a0] [.c (.d (.str r))]:=⟨λH=>by
 refine fI func45 ntmps45 ?_
 refine cC H ?_ ?_<;>intro H
 .exact ao H
 refine cC H ?_ ?_<;>intro H
 .exact ao H
 cases H
 exact dK⟩
def gY(a0:ah):Option ByteArray:=
 ZS (kq a0) λr1=>ZS (jW a0.bB) λr2=>cond (eT r2 (⟨#[64]⟩:ByteArray)) (ZS (dP a0.bg) λr3=>cond (eT (r2++(⟨#[64]⟩:ByteArray)) r3) (cond (eT ((r2++(⟨#[64]⟩:ByteArray))++r3) (⟨#[46]⟩:ByteArray)) (ZS (dP a0.aZ) λr4=>cond (eT (((r2++(⟨#[64]⟩:ByteArray))++r3)++(⟨#[46]⟩:ByteArray)) r4) (cond (eT ((((r2++(⟨#[64]⟩:ByteArray))++r3)++(⟨#[46]⟩:ByteArray))++r4) (⟨#[32]⟩:ByteArray)) (ZS (nV [r1,WR (a0.aK.bF-1),(a0.aU.length:Int)] ⟨#[47]⟩) λr5=>cond (eT (((((r2++(⟨#[64]⟩:ByteArray))++r3)++(⟨#[46]⟩:ByteArray))++r4)++(⟨#[32]⟩:ByteArray)) r5) (ς ((((((r2++(⟨#[64]⟩:ByteArray))++r3)++(⟨#[46]⟩:ByteArray))++r4)++(⟨#[32]⟩:ByteArray))++r5)) ξ) ξ) ξ) ξ) ξ) ξ
instance Np{a0:ah} :FC prog (gY a0=ς r) 24 [.agg (cQ a0)] [.c (.d (.str r))]:=⟨λH=>by
 refine fI func24 ntmps24 ?_
 refine dI ?_
 refine aa H λr1 q1 H=>dA (ca (hF:=tC.h q1)) ?_
 refine wI ?_
 refine dI ?_
 refine aa H λr2 q2 H=>dA (ca (hF:=wR.h q2)) ?_
 obtain⟨h,H⟩:=rq H
 refine dA (saT h) ?_
 refine aa H λr3 q3 H=>dA (ca (hF:=dL.h q3)) ?_
 obtain⟨h,H⟩:=rq H
 refine dA (saT h) ?_
 obtain⟨h,H⟩:=rq H
 refine dA (saT h) ?_
 refine aa H λr4 q4 H=>dA (ca (hF:=dL.h q4)) ?_
 obtain⟨h,H⟩:=rq H
 refine dA (saT h) ?_
 obtain⟨h,H⟩:=rq H
 refine dA (saT h) ?_
 refine aa H λr5 q5 H=>dA (ca (hF:=uV.h q5)) ?_
 obtain⟨h,H⟩:=rq H
 refine dA (saT h) ?_
 refine wI ?_
 cases H
 exact dK⟩
end Go.AM
