/- A part. -/
import Derived.Test.YtfbpfflnhfcmaaaGreatS1
import Derived.Test.YtfbpfflnhfcmaaaGreatS2
import Derived.Test.YtfbpfflnhfcmaaaGreatS3
import Derived.Test.YtfbpfflnhfcmaaaGreatS4
set_option linter.unusedVariables false
open Option renaming some->ς,none->ξ
open Bool renaming true->ζ,false->η
open True renaming intro->θ
open Option renaming bind->acE
open List renaming range->v0
namespace Go.AM
open Go.Proofs
open Tryz
attribute [local irreducible] AWN NS AWO AWR AWC DR DZ du gr iter
set_option maxRecDepth 100000
set_option maxHeartbeats 40000000
variable{a0:Go.AM.aC}{r:Go.AM.a9}{a1:Go.AM.aG}
def wF(a0:aM):Option aM:=
 acE (wG a0.aA) λr1=>acE (tW a0.bi) λr2=>ς (⟨a0.bB,r1,r2⟩:aM)
instance G1{a0:aM}{r:aM}:FC prog (wF a0=ς r) 235 [.agg (fG a0)] [.agg (qM [.o,.o] (bV r))]:=gG func235 ntmps235 (hz 1)
def lr(a0:aC):Option aC:=
 acE (wF a0.bW) λr1=>ς {a0 with bW:=r1}
instance sl29Copy_c{r:aC}:FC prog (lr a0=ς r) 141 [.agg (dF a0)] [.agg (qM [.o,.o] (eW r))]:=gG func141 ntmps141
def tZ(a0:aC):Option a9:=
 acE (lr a0) λr1=>ς (⟨r1,([]:List aG)⟩:a9)
instance sl29None_c:FC prog (tZ a0=ς r) 232 [.agg (dF a0)] [.agg (qM [.o,.o,.o] (dx r))]:=gG func232 ntmps232
def wx(a0:aC):Option a9:=
 cond (!eqB a0.bz 0) (acE (tZ a0) λr1=>ς r1) (acE (lr a0) λr2=>acE (tY a0) λr3=>acE (nD {r2 with bz:=1} r3) λr4=>ς r4)
instance Ox:FC prog (wx a0=ς r) 138 [.agg (dF a0)] [.agg (qM [.d,.d,.o] (dx r))]:=gG func138 ntmps138 (hz 5)
def qo(a0:Int)(a1:Int):Option Int:=
 acE (fa a0 [9,a1]) λr1=>acE (GL 1 r1) λr2=>ς r2
instance Z7{a0:Int}{a1:Int}{r:Int}:FC prog (qo a0 a1=ς r) 257 [aI a0,aI a1] [.c (.d (.i .i64 r))]:=gG func257 ntmps257
def mt(a1:fB):(Int×Int)->Option (ci (Int×Int) (Int))
 |(v1,v2)=>cond (ltB v2 (a1.Steps.length:Int)) (acE (ix a1.Steps v2) λx6=>acE (qo v1 x6) λr7=>ς (.next (r7,WR (v2+1)))) (ς (.done v1))
def rm(a0:Int)(a1:fB):Option Int:=
 acE (iter (mt a1) FU (a0,0)) λ(v5:Int)=>ς v5
instance YC{a0:Int}{a1:fB}{r:Int}:FC prog (rm a0 a1=ς r) 155 [aI a0,.agg (Im a1)] [.c (.d (.i .i64 r))]:=gG func155 ntmps155 (hm 0 5 6) (he 0 5 6)
def s9(a0:Int)(a1:Int):Option Int:=
 acE (vJ a1) λr1=>acE (rm a0 r1) λr2=>ς r2
instance abj{a0:Int}{a1:Int}{r:Int}:FC prog (s9 a0 a1=ς r) 80 [aI a0,aI a1] [.c (.d (.i .i64 r))]:=gG func80 ntmps80
def tT(a0:Int)(a1:aG):Option Int:=
 acE (pJ) λr1=>acE (rm a0 r1) λr2=>acE (fa r2 [23,a1.bu,a1.bh,a1.ah,a1.aY,a1.bZ]) λr3=>ς r3
instance aac{a0:Int}{r:Int}:FC prog (tT a0 a1=ς r) 157 [aI a0,.agg (dM a1)] [.c (.d (.i .i64 r))]:=gG func157 ntmps157
def iC(a0:Int)(a1:aG):Option Bool:=
 acE (tT a0 a1) λr1=>ς (eqB a1.i7 r1)
instance T6{a0:Int}{r:Bool}:FC prog (iC a0 a1=ς r) 81 [aI a0,.agg (dM a1)] [.c (.d (.b r))]:=gG func81 ntmps81
def pU(a0:ag)(a1:aG):Option Bool:=
 cond (eqB a1.bu 3) (acE (cond (leB a1.ah a0.bT.cX) (cond (!eqB a1.ah a0.bG) (ς ζ) (ς (!eqB a1.bZ a0.aA.vP))) (ς η)) λ(v1:Bool)=>ς v1) (acE (cond (eqB a1.bu 5) (ς (eqB a1.bu 5)) (ς (eqB a1.bu 8))) λ(v2:Bool)=>cond v2 (acE (cond (ltB a1.ah a0.ah) (ς ζ) (cond (eqB a1.ah a0.ah) (acE (iC a0.bg a1) λr4=>ς (!r4)) (ς η))) λ(v3:Bool)=>ς v3) (ς ζ))
instance Ts{a0:ag}{r:Bool}:FC prog (pU a0 a1=ς r) 33 [.agg (cp a0),.agg (dM a1)] [.c (.d (.b r))]:=gG func33 ntmps33 (hb 15 4) (hc 30 30) (hb 38 4)
def mL(a0:aC)(a1:aG):Option Bool:=
 cond (eqB a1.bu 2) (acE (nC a0.dO.fA a0.dO.c8 a1.b8) λr1=>acE (cond (eqB r1 1) (ς ζ) (ς (eqB r1 2))) λ(v2:Bool)=>ς v2) (acE (cond (eqB a1.bu 4) (ς (eqB a1.bu 4)) (ς (eqB a1.bu 6))) λ(v3:Bool)=>cond v3 (acE (cond (ltB a1.ah a0.ah) (ς ζ) (cond (eqB a1.ah a0.ah) (acE (iC a0.bg a1) λr5=>ς (!r5)) (ς η))) λ(v4:Bool)=>ς v4) (ς ζ))
instance OL{r:Bool}:FC prog (mL a0 a1=ς r) 34 [.agg (dF a0),.agg (dM a1)] [.c (.d (.b r))]:=gG func34 ntmps34 (hb 21 4) (hc 25 25) (hb 33 4)
def js(a0:Int)(a1:aG):Option aG:=
 acE (tT a0 a1) λr1=>ς {a1 with i7:=r1}
instance YG{a0:Int}{r:aG}:FC prog (js a0 a1=ς r) 309 [aI a0,.agg (dM a1)] [.agg (qM [] (gL r))]:=gG func309 ntmps309
def wH(a0:aC):Option aG:=
 acE (js a0.bg (⟨5,a0.bh,a0.ah,a0.aY,0,cH,0⟩:aG)) λr1=>ς r1
instance sl29Path_c{r:aG}:FC prog (wH a0=ς r) 311 [.agg (dF a0)] [.agg (qM [] (gL r))]:=gG func311 ntmps311
def rv(a0:aC):Option a9:=
 acE (lr a0) λr1=>cond (ltB 0 a0.eU) (ς (⟨{r1 with eU:=WR (a0.eU-1)},([]:List aG)⟩:a9)) (cond (eqB a0.bz 1) (acE (tY a0) λr2=>acE (nD r1 r2) λr3=>ς r3) (acE (cond (eqB a0.bz 2) (ς (!a0.cj)) (ς η)) λ(v4:Bool)=>cond v4 (acE (wH a0) λr5=>acE (nD r1 r5) λr6=>ς r6) (ς (⟨r1,([]:List aG)⟩:a9))))
instance YH:FC prog (rv a0=ς r) 244 [.agg (dF a0)] [.agg (qM [.d,.d,.o] (dx r))]:=gG func244 ntmps244 (hz 5) (hb 26 22) (hz 7)
def jq(a0:aV)(a1:List Int):Option (aV×ab×Bool):=
 acE (oc a0) λr1=>cond (cW 1 (([]:List Int)++a1).length) (cond (cW 1 (([]:List Int)++a1).length) (cond (cW 32 (r1.aF++[(⟨a0.bB,(([]:List Int)++a1)⟩:ab)]).length) (acE (mq (⟨WR (a0.bB+1),(r1.aF++[(⟨a0.bB,(([]:List Int)++a1)⟩:ab)])⟩:aV)) λr2=>cond (!r2) (acE (oc a0) λr3=>ς (r3,bY,η)) (ς ((⟨WR (a0.bB+1),(r1.aF++[(⟨a0.bB,(([]:List Int)++a1)⟩:ab)])⟩:aV),(⟨a0.bB,(([]:List Int)++a1)⟩:ab),ζ))) ξ) ξ) ξ
theorem zl{a0:aV}{a1:List Int}{r:aV×ab×Bool}(H:jq a0 a1=ς r)(hflag:r.2.2=ζ):Fn prog 332 [.agg (fH a0),aL (a1.map eU8)] [.agg (qM [.o] (dw r.1)),.agg (qM [.o] (dv r.2.1)),.c (.d (.b r.2.2))]:=by
 refine fI func332 ntmps332 ?_
 refine aa H λr1 q1 H=>nA (ca (hF:=pP.h q1)) ?_
 refine zI [0,1,2,3,6,4,5,7] ?_
 obtain⟨h,H⟩:=rq H
 refine wA (Jq (enc:=eU8) (ys:=([]:List Int)) (zs:=a1) [5] h) ?_
 refine wA (spx 100368) ?_
 refine oK (ds:=[5]) (by kernel_rfl) (by kernel_rfl) rfl ?_
 refine wI ?_
 refine zI (v0 12) ?_
 obtain⟨h,H⟩:=rq H
 refine wA (Ic (enc:=eU8) (ys:=([]:List Int)) (zs:=a1) [8] h) ?_
 obtain⟨h,H⟩:=rq H
 refine qv (ds:=[8]) (by kernel_rfl) (by kernel_rfl) rfl (by kernel_rfl) cA (kz rfl (apT (enc:=aX) (ys:=r1.aF) (zs:=[(⟨a0.bB,(([]:List Int)++a1)⟩:ab)]) h)) cA rfl ?_
 refine wI ?_
 refine wA (spx 100367) ?_
 refine aa H λr2 q2 H=>nA (ca (hF:=ww.h q2)) ?_
 refine cC H ?_ ?_<;>intro H
 .refine aa H λr3 q3 H=>nA (ca (hF:=pP.h q3)) ?_
  cases H
  cases hflag
 refine zI (v0 5) ?_
 refine wA (spx 100366) ?_
 refine wA (spx 100365) ?_
 exact ao H
theorem zk{a0:aV}{a1:List Int}{r:aV×ab×Bool}(H:jq a0 a1=ς r)(hflag:r.2.2=η):Fn prog 332 [.agg (fH a0),aL (a1.map eU8)] [.agg (qM [.o] (dw r.1)),.agg (qM [.z] (dv r.2.1)),.c (.d (.b r.2.2))]:=by
 refine fI func332 ntmps332 ?_
 refine aa H λr1 q1 H=>nA (ca (hF:=pP.h q1)) ?_
 refine zI [0,1,2,3,6,4,5,7] ?_
 obtain⟨h,H⟩:=rq H
 refine wA (Jq (enc:=eU8) (ys:=([]:List Int)) (zs:=a1) [5] h) ?_
 refine wA (spx 100372) ?_
 refine oK (ds:=[5]) (by kernel_rfl) (by kernel_rfl) rfl ?_
 refine wI ?_
 refine zI (v0 12) ?_
 obtain⟨h,H⟩:=rq H
 refine wA (Ic (enc:=eU8) (ys:=([]:List Int)) (zs:=a1) [8] h) ?_
 obtain⟨h,H⟩:=rq H
 refine qv (ds:=[8]) (by kernel_rfl) (by kernel_rfl) rfl (by kernel_rfl) cA (kz rfl (apT (enc:=aX) (ys:=r1.aF) (zs:=[(⟨a0.bB,(([]:List Int)++a1)⟩:ab)]) h)) cA rfl ?_
 refine wI ?_
 refine wA (spx 100371) ?_
 refine aa H λr2 q2 H=>nA (ca (hF:=ww.h q2)) ?_
 refine cC H ?_ ?_<;>intro H
 .refine aa H λr3 q3 H=>nA (ca (hF:=pP.h q3)) ?_
  exact ao H
 refine zI (v0 5) ?_
 refine wA (spx 100370) ?_
 refine wA (spx 100369) ?_
 cases H
 cases hflag
def t0(a0:ag)(a1:Int):Option bN:=
 acE (js a0.bg (⟨a1,a0.bh,a0.ah,a0.aY,0,cH,0⟩:aG)) λr1=>ς (⟨a0,[r1]⟩:bN)
instance aam{a0:ag}{a1:Int}{r:bN}:FCV prog (t0 a0 a1=ς r) 368 [] [.v (.agg (kM [.f,.f,.f] (cU a0))),tI a1] [] (.v (.agg (kM [.f,.f,.f,.w 210] (eh r)))) [(210,w42 r.c9)]:=gV func368 ntmps368 (hz 2)
def wK(a0:ag)(a1:aG):Option Bool:=
 acE (cond (eqB a0.bz 1) (cond (eqB a1.ah a0.ah) (acE (iC a0.bg a1) λr2=>ς r2) (ς η)) (ς η)) λ(v1:Bool)=>ς v1
instance abt{a0:ag}{r:Bool}:FC prog (wK a0 a1=ς r) 383 [.agg (cp a0),.agg (dM a1)] [.c (.d (.b r))]:=gG func383 ntmps383 (hb 8 4)
def fw(a1:ab)(r1:aM):Int->Option (ci (Int) (Int))
 |v6=>acE (cond (ltB v6 (r1.aA.length:Int)) (acE (ix r1.aA v6) λx11=>ς (ltB x11.cX a1.cX)) (ς η)) λ(v10:Bool)=>cond v10 (ς (.next (WR (v6+1)))) (ς (.done v6))
def uT:aM->Option (ci (aM) (aM))
 |v15=>acE (cond (ltB 0 (v15.aA.length:Int)) (acE (ix v15.aA 0) λx24=>cond (eqB x24.cX v15.bB) (ς (ltB (v15.bi.length:Int) 24)) (ς η)) (ς η)) λ(v23:Bool)=>cond v23 (acE (ix v15.aA 0) λx25=>cond (cW 24 (v15.bi++[(⟨x25.bk⟩:bI)]).length) (cond (em v15.aA 1 v15.aA.length) (ς (.next (⟨WR (v15.bB+1),v15.aA.drop ((1:Int)).toNat,(v15.bi++[(⟨x25.bk⟩:bI)])⟩:aM))) ξ) ξ) (ς (.done v15))
def pH(a0:aM)(a1:ab):Option aM:=
 acE (wF a0) λr1=>acE (iH a0) λr2=>acE (cond (!r2) (ς ζ) (cond (ltB 60 (a1.bk.length:Int)) (ς ζ) (acE (dD a1.cX a0.bB (WR ((WR (a0.bB+8))-1))) λr4=>cond (!r4) (ς ζ) (acE (CM a0.aA a1.cX) λr5=>cond (leB 0 r5) (ς ζ) (ς (leB 24 (a0.bi.length:Int))))))) λ(v3:Bool)=>cond v3 (ς r1) (acE (iter (fw a1 r1) FU 0) λ(v9:Int)=>cond (cW 1 (([]:List Int)++a1.bk).length) (cond (em r1.aA 0 v9) (cond (em r1.aA v9 r1.aA.length) (cond (cW 32 (([]:List ab)++(r1.aA.take (v9).toNat)).length) (cond (cW 32 ((([]:List ab)++(r1.aA.take (v9).toNat))++[(⟨a1.cX,(([]:List Int)++a1.bk)⟩:ab)]).length) (cond (cW 32 (((([]:List ab)++(r1.aA.take (v9).toNat))++[(⟨a1.cX,(([]:List Int)++a1.bk)⟩:ab)])++(r1.aA.drop (v9).toNat)).length) (acE (iter (uT) FU {r1 with aA:=(((([]:List ab)++(r1.aA.take (v9).toNat))++[(⟨a1.cX,(([]:List Int)++a1.bk)⟩:ab)])++(r1.aA.drop (v9).toNat))}) λ(v22:aM)=>acE (cond (eqB (v22.bi.length:Int) 24) (ς ([]:List ab)) (ς v22.aA)) λ(v26:List ab)=>ς {v22 with aA:=v26}) ξ) ξ) ξ) ξ) ξ) ξ)
instance SZ{a0:aM}{a1:ab}{r:aM}:FC prog (pH a0 a1=ς r) 361 [.agg (fG a0),.agg (aX a1)] [.agg (qM [.d,.o] (bV r))]:=⟨λH=>by
 refine fI func361 ntmps361 ?_
 refine aa H λr1 q1 H=>nA (ca (hF:=G1.h q1)) ?_
 refine aa H λr2 q2 H=>nA (ca (hF:=tQ.h q2)) ?_
 refine aa H λv3 Hj H=>jR ⟨[(3,tP 1),(4,tP 2),(5,tP 5),(44,tB v3)],(oM [.w 3,.w 4] 5 65 (bV r1)++[(1,.var 100 (kM [.f] (dv a1))),(2,.var 65 (kM [.z,.z] (bV cS)))]),6⟩ ?_ ?_
 .refine gC Hj ?_ ?_<;>intro H
  .exact ai H
  refine gC H ?_ ?_<;>intro H
  .exact ai H
  refine aa H λr4 q4 H=>nG (ca (hF:=QW.h q4)) ?_
  refine gC H ?_ ?_<;>intro H
  .exact ai H
  refine aa H λr5 q5 H=>nG (ca (hF:=GZ.h q5)) ?_
  exact az H
 refine cC H ?_ ?_<;>intro H
 .cases H
  refine Lj (dK (o:=3)) ?_
  refine Lj (dE (o:=2)) ?_
  exact jJ
 refine aa H λv9 Hj H=>jB ⟨[(3,tP 1),(4,tP 2),(5,tP 5),(6,tI v9)],(oM [.w 3,.w 4] 5 65 (bV r1)++[(1,.var 100 (kM [.f] (dv a1))),(2,.var 65 (kM [.z,.z] (bV cS)))]),6⟩ ?_ ?_
 .refine iT Hj (λq=>⟨[(3,tP 1),(4,tP 2),(5,tP 5),(6,tI q)],(oM [.w 3,.w 4] 5 65 (bV r1)++[(1,.var 100 (kM [.f] (dv a1))),(2,.var 65 (kM [.z,.z] (bV cS)))]),6⟩) ?_
  rintro v6 o H
  refine ad ?_
  refine dI ?_
  refine aa H λv10 Hj H=>B0 ⟨[(3,tP 1),(4,tP 2),(5,tP 5),(6,tI v6),(61,tB v10)],(oM [.w 3,.w 4] 5 65 (bV r1)++[(1,.var 100 (kM [.f] (dv a1))),(2,.var 65 (kM [.z,.z] (bV cS)))]),6⟩ ?_ ?_
  .have H:=Hj
   refine wI ?_
   refine dC H ?_ ?_<;>intro H
   .refine aa H λx11 hx11 H=>dG (xwT hx11) ?_
    refine dG (oe (he:=kK _ hx11)) ?_
    refine wI ?_
    exact ai H
   refine wI ?_
   exact ai H
  refine wI ?_
  refine cC H ?_ ?_<;>intro H
  .refine wI ?_
   exact aN H
  exact aE H
 refine zI [0,1,2,3,4,7,5,6,8] ?_
 obtain⟨h,H⟩:=rq H
 refine wA (Jq (enc:=eU8) (ys:=([]:List Int)) (zs:=a1.bk) [6] h) ?_
 refine wA (spx 100450) ?_
 refine oK (ds:=[6]) (by kernel_rfl) (by kernel_rfl) rfl ?_
 refine wI ?_
 refine f9 (dK (o:=8)) ?_
 refine f9 (di (k:=69)) ?_
 refine f9 (di (k:=70)) ?_
 refine f9 (dE (o:=7)) ?_
 refine zI [0,1,2,3,4,6,7,9,10,11,12,5,8,13,14,15] ?_
 obtain⟨hs10,H⟩:=rq H
 refine zA (YZ (enc:=aX) hs10 (by first|rfl|simp) rfl rfl rfl rfl) ?_
 obtain⟨hs11,H⟩:=rq H
 refine zA (Y0 (enc:=aX) hs11 (by first|rfl|simp) rfl rfl rfl rfl) ?_
 obtain⟨h,H⟩:=rq H
 refine wA (apx (enc:=aX) (ys:=([]:List ab)) (zs:=r1.aA.take (v9).toNat) [9,3] h (hs:=MV (enc:=aX) hs10 rfl)) ?_
 obtain⟨h,H⟩:=rq H
 refine wA (apx (enc:=aX) (ys:=(([]:List ab)++(r1.aA.take (v9).toNat))) (zs:=[(⟨a1.cX,(([]:List Int)++a1.bk)⟩:ab)]) [11,10] h) ?_
 obtain⟨h,H⟩:=rq H
 refine wA (apx (enc:=aX) (ys:=((([]:List ab)++(r1.aA.take (v9).toNat))++[(⟨a1.cX,(([]:List Int)++a1.bk)⟩:ab)])) (zs:=r1.aA.drop (v9).toNat) [12,3] h (hs:=IZ (enc:=aX) hs11 (by first|rfl|simp) rfl)) ?_
 refine wA (spx 100449) ?_
 refine oK (ds:=[9,11,12]) (by kernel_rfl) (by kernel_rfl) rfl ?_
 refine wI ?_
 refine aa H λv22 Hj H=>jB ⟨[(4,tP 2),(5,tP 5)],(oM [.t,.w 4] 5 65 (bV v22)++[(2,.var 65 (kM [.z,.z] (bV cS)))]),14⟩ ?_ ?_
 .refine iT Hj (λq=>⟨[(4,tP 2),(5,tP 5)],(oM [.t,.w 4] 5 65 (bV q)++[(2,.var 65 (kM [.z,.z] (bV cS)))]),14⟩) ?_ (by refine aP (dK (o:=13)) ?_;refine aP (di (k:=84)) ?_;refine aP (dE (o:=5)) ?_;exact wo)
  rintro v15 o H
  refine ad ?_
  refine dI ?_
  refine aa H λv23 Hj H=>B0 ⟨[(4,tP 2),(5,tP 5),(105,tB v23)],(oM [.t,.w 4] 5 65 (bV v15)++[(2,.var 65 (kM [.z,.z] (bV cS)))]),14⟩ ?_ ?_
  .have H:=Hj
   refine wI ?_
   refine dC H ?_ ?_<;>intro H
   .refine aa H λx24 hx24 H=>dG (xdT (enc:=aX) hx24) ?_
    refine dC H ?_ ?_<;>intro H
    .refine wI ?_
     exact ai H
    refine wI ?_
    exact ai H
   refine wI ?_
   exact ai H
  refine wI ?_
  refine cC H ?_ ?_<;>intro H
  .refine zI (v0 12) ?_
   refine aa H λx25 hx25 H=>zA (xdT (enc:=aX) hx25) ?_
   obtain⟨h,H⟩:=rq H
   refine zB cA (kz rfl (apT (enc:=d8) (ys:=v15.bi) (zs:=[(⟨x25.bk⟩:bI)]) h)) cA ?_
   refine wA (spx 100448) ?_
   obtain⟨h,H⟩:=rq H
   refine nA (UE (enc:=aX) h (λ_=>rfl) rfl rfl rfl) ?_
   exact aN H
  exact aE H
 refine aa H λv26 Hj H=>jA ⟨[(4,tP 2),(5,tP 5)],(oM [.t,.w 4] 5 65 (bV {v22 with aA:=v26})++[(2,.var 65 (kM [.z,.z] (bV cS)))]),14⟩ ?_ ?_
 .refine cC Hj ?_ ?_<;>intro H
  .cases H
   refine aP (dK (o:=14)) ?_
   refine aP (di (k:=129)) ?_
   refine aP (dE (o:=5)) ?_
   exact wo
  exact ai H
 cases H
 exact jJ⟩
def zD(a0:aC):Option a9:=
 acE (wH {a0 with aY:=WR (a0.aY+1),cj:=η}) λr1=>acE (nD {a0 with aY:=WR (a0.aY+1),cj:=η} r1) λr2=>ς r2
instance sl29Next_c:FCV prog (zD a0=ς r) 321 [] [.v (.agg (kM [.f,.f] (eW a0)))] [] (.v (.agg (kM [.f,.f,.w 210] (dx r)))) [(210,w42 r.c9)]:=gV func321 ntmps321 (hz 3)
def ro(a0:aC)(a1:Int):Option a9:=
 acE (cond (eqB a1 a0.bh) (ς ζ) (acE (dD a1 0 5) λr2=>ς (!r2))) λ(v1:Bool)=>cond v1 (acE (tZ a0) λr3=>ς r3) (acE (lr a0) λr4=>acE (cond (eqB a0.bz 2) (ς (ltB a0.aY 999999)) (ς η)) λ(v5:Bool)=>cond v5 (acE (zD {r4 with bh:=a1}) λr6=>ς r6) (ς (⟨{r4 with bh:=a1},([]:List aG)⟩:a9)))
instance YD{a1:Int} :FC prog (ro a0 a1=ς r) 249 [.agg (dF a0),aI a1] [.agg (qM [.d,.d,.o] (dx r))]:=gG func249 ntmps249 (hb 10 14) (hb 24 28)
def iS(F:List ab):(Int×Nat×List bI)->Option (ci (Int×Nat×List bI) (Int×Nat×List bI))
 |(n,k,dl)=>acE (cond (ltB 0 ((F.length-k:Nat):Int)) (acE (ix (F.drop k) 0) λx24=>cond (eqB x24.cX n) (ς (ltB (dl.length:Int) 24)) (ς η)) (ς η)) λ(v23:Bool)=>cond v23 (acE (ix (F.drop k) 0) λx25=>cond (cW 24 (dl++[(⟨x25.bk⟩:bI)]).length) (cond (em (F.drop k) 1 (F.drop k).length) (ς (.next (WR (n+1),k+((1:Int)).toNat,(dl++[(⟨x25.bk⟩:bI)])))) ξ) ξ) (ς (.done (n,k,dl)))
def nO(a0:aM)(a1:ab):Option (aM×List ab×Nat):=
 acE (wF a0) λr1=>acE (iH a0) λr2=>acE (cond (!r2) (ς ζ) (cond (ltB 60 (a1.bk.length:Int)) (ς ζ) (acE (dD a1.cX a0.bB (WR ((WR (a0.bB+8))-1))) λr4=>cond (!r4) (ς ζ) (acE (CM a0.aA a1.cX) λr5=>cond (leB 0 r5) (ς ζ) (ς (leB 24 (a0.bi.length:Int))))))) λ(v3:Bool)=>cond v3 (ς (r1,r1.aA,0)) (acE (iter (fw a1 r1) FU 0) λ(v9:Int)=>cond (cW 1 (([]:List Int)++a1.bk).length) (cond (em r1.aA 0 v9) (cond (em r1.aA v9 r1.aA.length) (cond (cW 32 (([]:List ab)++(r1.aA.take (v9).toNat)).length) (cond (cW 32 ((([]:List ab)++(r1.aA.take (v9).toNat))++[(⟨a1.cX,(([]:List Int)++a1.bk)⟩:ab)]).length) (cond (cW 32 (((([]:List ab)++(r1.aA.take (v9).toNat))++[(⟨a1.cX,(([]:List Int)++a1.bk)⟩:ab)])++(r1.aA.drop (v9).toNat)).length) (acE (iter (iS (((([]:List ab)++(r1.aA.take (v9).toNat))++[(⟨a1.cX,(([]:List Int)++a1.bk)⟩:ab)])++(r1.aA.drop (v9).toNat))) FU (r1.bB,0,r1.bi)) λ((v22,v24,v25):Int×Nat×List bI)=>cond (eqB (v25.length:Int) 24) (ς ((⟨v22,[],v25⟩:aM),[],0)) (ς ((⟨v22,(((([]:List ab)++(r1.aA.take (v9).toNat))++[(⟨a1.cX,(([]:List Int)++a1.bk)⟩:ab)])++(r1.aA.drop (v9).toNat)).drop v24,v25⟩:aM),(((([]:List ab)++(r1.aA.take (v9).toNat))++[(⟨a1.cX,(([]:List Int)++a1.bk)⟩:ab)])++(r1.aA.drop (v9).toNat)),v24))) ξ) ξ) ξ) ξ) ξ) ξ)
instance uS{a0:aM}{a1:ab}{r:aM×List ab×Nat}:FCV prog (nO a0 a1=ς r) 361 [] [.v (.agg (kM [.f,.f] (bV a0))),.v (.agg (kM [.f] (dv a1)))] [] (.v (.agg [cI r.1.bB,.s 210 2 r.2.2 (r.2.1.length-r.2.2),.d ζ (.l (r.1.bi.map d8))])) [(210,C0 r.2.1)]:=⟨λH=>by
 refine fV func361 ntmps361 ?_
 refine aa H λr1 q1 H=>nA (ca (hF:=G1.h q1)) ?_
 refine aa H λr2 q2 H=>nA (ca (hF:=tQ.h q2)) ?_
 refine aa H λv3 Hj H=>jR ⟨[(3,tP 211),(4,tP 212),(5,tP 215),(44,tB v3)],(oM [.w 213,.w 214] 215 65 (bV r1)++[(211,.var 100 (kM [.f] (dv a1))),(212,.var 65 (kM [.z,.z] (bV cS)))]),216⟩ ?_ ?_
 .refine gC Hj ?_ ?_<;>intro H
  .exact ai H
  refine gC H ?_ ?_<;>intro H
  .exact ai H
  refine aa H λr4 q4 H=>nG (ca (hF:=QW.h q4)) ?_
  refine gC H ?_ ?_<;>intro H
  .exact ai H
  refine aa H λr5 q5 H=>nG (ca (hF:=GZ.h q5)) ?_
  exact az H
 refine cC H ?_ ?_<;>intro H
 .cases H
  refine bM (Hn (o:=212) (j:=1) (q:=213) rfl) ?_
  refine bM (dK (o:=214)) ?_
  refine bM (dE (o:=212)) ?_
  refine bM (wS 213 210) ?_
  exact dy
 refine aa H λv9 Hj H=>jB ⟨[(3,tP 211),(4,tP 212),(5,tP 215),(6,tI v9)],(oM [.w 213,.w 214] 215 65 (bV r1)++[(211,.var 100 (kM [.f] (dv a1))),(212,.var 65 (kM [.z,.z] (bV cS)))]),216⟩ ?_ ?_
 .refine iT Hj (λq=>⟨[(3,tP 211),(4,tP 212),(5,tP 215),(6,tI q)],(oM [.w 213,.w 214] 215 65 (bV r1)++[(211,.var 100 (kM [.f] (dv a1))),(212,.var 65 (kM [.z,.z] (bV cS)))]),216⟩) ?_
  rintro v6 o H
  refine ad ?_
  refine dI ?_
  refine aa H λv10 Hj H=>B0 ⟨[(3,tP 211),(4,tP 212),(5,tP 215),(6,tI v6),(61,tB v10)],(oM [.w 213,.w 214] 215 65 (bV r1)++[(211,.var 100 (kM [.f] (dv a1))),(212,.var 65 (kM [.z,.z] (bV cS)))]),216⟩ ?_ ?_
  .have H:=Hj
   refine wI ?_
   refine dC H ?_ ?_<;>intro H
   .refine aa H λx11 hx11 H=>dG (xwT hx11) ?_
    refine dG (oe (he:=kK _ hx11)) ?_
    refine wI ?_
    exact ai H
   refine wI ?_
   exact ai H
  refine wI ?_
  refine cC H ?_ ?_<;>intro H
  .refine wI ?_
   exact aN H
  exact aE H
 refine zI [0,1,2,3,4,7,5,6,8] ?_
 obtain⟨h,H⟩:=rq H
 refine wA (Jq (enc:=eU8) (ys:=([]:List Int)) (zs:=a1.bk) [216] h) ?_
 refine wA (spx 100014) ?_
 refine oK (ds:=[216]) (by kernel_rfl) (by kernel_rfl) rfl ?_
 refine wI ?_
 refine f9 (dK (o:=218)) ?_
 refine f9 (di (k:=69)) ?_
 refine f9 (di (k:=70)) ?_
 refine f9 (dE (o:=217)) ?_
 refine zI [0,1,2,3,4,6,7,9,10,11,12,5,8,13,14,15] ?_
 obtain⟨hs4,H⟩:=rq H
 refine zA (YZ (enc:=aX) hs4 (by first|rfl|simp) rfl rfl rfl rfl) ?_
 obtain⟨hs5,H⟩:=rq H
 refine zA (Y0 (enc:=aX) hs5 (by first|rfl|simp) rfl rfl rfl rfl) ?_
 obtain⟨h,H⟩:=rq H
 refine wA (apx (enc:=aX) (ys:=([]:List ab)) (zs:=r1.aA.take (v9).toNat) [219,213] h (hs:=MV (enc:=aX) hs4 rfl)) ?_
 obtain⟨h,H⟩:=rq H
 refine wA (apx (enc:=aX) (ys:=(([]:List ab)++(r1.aA.take (v9).toNat))) (zs:=[(⟨a1.cX,(([]:List Int)++a1.bk)⟩:ab)]) [221,220] h) ?_
 obtain⟨h,H⟩:=rq H
 refine wA (apx (enc:=aX) (ys:=((([]:List ab)++(r1.aA.take (v9).toNat))++[(⟨a1.cX,(([]:List Int)++a1.bk)⟩:ab)])) (zs:=r1.aA.drop (v9).toNat) [222,213] h (hs:=IZ (enc:=aX) hs5 (by first|rfl|simp) rfl)) ?_
 refine wA (spx 100013) ?_
 refine oK (ds:=[219,221,222]) (by kernel_rfl) (by kernel_rfl) rfl ?_
 refine wI ?_
 obtain⟨⟨v22,v24,v25⟩,Hj,H⟩:=ob H
 refine jB ⟨[(4,tP 212),(5,tP 215)],[(215,.var 65 [cI v22,.s 223 2 v24 ((((([]:List ab)++(r1.aA.take (v9).toNat))++[(⟨a1.cX,(([]:List Int)++a1.bk)⟩:ab)])++(r1.aA.drop (v9).toNat)).length-v24),.w 214 v25.length]),(214,M9 v25),(223,C0 (((([]:List ab)++(r1.aA.take (v9).toNat))++[(⟨a1.cX,(([]:List Int)++a1.bk)⟩:ab)])++(r1.aA.drop (v9).toNat))),(212,.var 65 (kM [.z,.z] (bV cS)))],224⟩ ?_ ?_
 .refine iT Hj (λq=>⟨[(4,tP 212),(5,tP 215)],[(215,.var 65 [cI q.1,.s 223 2 q.2.1 ((((([]:List ab)++(r1.aA.take (v9).toNat))++[(⟨a1.cX,(([]:List Int)++a1.bk)⟩:ab)])++(r1.aA.drop (v9).toNat)).length-q.2.1),.w 214 q.2.2.length]),(214,M9 q.2.2),(223,C0 (((([]:List ab)++(r1.aA.take (v9).toNat))++[(⟨a1.cX,(([]:List Int)++a1.bk)⟩:ab)])++(r1.aA.drop (v9).toNat))),(212,.var 65 (kM [.z,.z] (bV cS)))],224⟩) ?_ (by refine aP (Hn (o:=215) (j:=1) (q:=223) rfl) ?_;exact wo)
  rintro⟨n,k,dl⟩ o H
  refine ad ?_
  refine dI ?_
  refine aa H λv23 Hj H=>B0 ⟨[(4,tP 212),(5,tP 215),(105,tB v23)],[(215,.var 65 [cI n,.s 223 2 k ((((([]:List ab)++(r1.aA.take (v9).toNat))++[(⟨a1.cX,(([]:List Int)++a1.bk)⟩:ab)])++(r1.aA.drop (v9).toNat)).length-k),.w 214 dl.length]),(214,M9 dl),(223,C0 (((([]:List ab)++(r1.aA.take (v9).toNat))++[(⟨a1.cX,(([]:List Int)++a1.bk)⟩:ab)])++(r1.aA.drop (v9).toNat))),(212,.var 65 (kM [.z,.z] (bV cS)))],224⟩ ?_ ?_
  .have H:=Hj
   refine wI ?_
   refine dC H ?_ ?_<;>intro H
   .refine aa H λx24 hx24 H=>dG (xsT hx24 rfl rfl rfl rfl) ?_
    refine dG (oe (he:=kK _ (PT hx24))) ?_
    refine dC H ?_ ?_<;>intro H
    .refine wI ?_
     exact ai H
    refine wI ?_
    exact ai H
   refine wI ?_
   exact ai H
  refine wI ?_
  refine cC H ?_ ?_<;>intro H
  .refine zI (v0 12) ?_
   refine aa H λx25 hx25 H=>zA (xsT hx25 rfl rfl rfl rfl) ?_
   refine zA (oe (he:=kK _ (PT hx25))) ?_
   obtain⟨h,H⟩:=rq H
   refine zB cA (kz rfl (apT (enc:=d8) (ys:=dl) (zs:=[(⟨x25.bk⟩:bI)]) h)) cA ?_
   refine wA (spx 100912) ?_
   obtain⟨h,H⟩:=rq H
   refine nA (cslS h rfl rfl rfl rfl) ?_
   exact aN H
  exact aE H
 refine cC H ?_ ?_<;>intro H
 .cases H
  refine bM (Hn (o:=212) (j:=1) (q:=224) rfl) ?_
  refine bM (dK (o:=214)) ?_
  refine bM (dE (o:=212)) ?_
  refine bM (wS 224 210) ?_
  exact dy
 cases H
 refine bM (dK (o:=214)) ?_
 refine bM (dE (o:=212)) ?_
 refine bM (wS 223 210) ?_
 exact dy⟩
end Go.AM
