/- A part. -/
import Derived.Test.YtfbpfflnhfcmaaaGreatS1
import Derived.Test.YtfbpfflnhfcmaaaGreatS2
import Derived.Test.YtfbpfflnhfcmaaaGreatS3
set_option linter.unusedVariables false
open Option renaming some->ς,none->ξ
open Bool renaming true->ζ,false->η
open True renaming intro->θ
open Option renaming bind->acE
namespace Go.AM
open Go.Proofs
open Tryz
attribute [local irreducible] AWN NS AWO AWR AWC DR DZ du gr iter
set_option maxRecDepth 100000
set_option maxHeartbeats 40000000
variable{r:Bool}{a1:Int}
def lF(a0:ag):Int->Option (ci (Int) (Bool))
 |v5=>cond (ltB v5 (a0.aK.aF.length:Int)) (acE (ix a0.aK.aF v5) λx6=>acE (ix a0.aS (WR (x6.cX-1))) λx7=>acE (rf x6.bk x7.bk) λr8=>cond (!r8) (dn (ς η)) (ς (.next (WR (v5+1))))) (dn (acE (oC a0.aK.aF) λr9=>acE (je a0.bX) λr10=>ς (leB r9 r10)))
def qN(a0:ag):Int->Option (ci (Int) (Bool))
 |v1=>cond (ltB v1 (a0.aS.length:Int)) (acE (ix a0.aS v1) λx2=>cond (ltB 60 (x2.bk.length:Int)) (dn (ς η)) (ς (.next (WR (v1+1))))) (dn (acE (cond (ltB 24 (a0.aS.length:Int)) (ς ζ) (acE (mq a0.aK) λr4=>cond (!r4) (ς ζ) (ς (ltB (WR ((a0.aS.length:Int)+1)) a0.aK.bB)))) λ(v3:Bool)=>cond v3 (ς η) (iter (lF a0) FU 0)))
def xN(a0:ag):Option Bool:=
 iter (qN a0) FU 0
instance aan{a0:ag} :FC prog (xN a0=ς r) 197 [.agg (cp a0)] [.c (.d (.b r))]:=gG func197 ntmps197 (hl 0 3) (hb 25 40) (hl 2 4)
def lp(a0:ag):Option Bool:=
 acE (cond (eqB a0.bz 1) (acE (iA a0.bg) λr2=>cond (!r2) (ς ζ) (cond (ltB 0 a0.bG) (acE (iA a0.aA.fA) λr3=>cond (!r3) (ς ζ) (acE (dD a0.bz 0 1) λr4=>ς (!r4))) (acE (dD a0.bz 0 1) λr5=>ς (!r5)))) (cond (ltB 0 a0.bG) (acE (iA a0.aA.fA) λr6=>cond (!r6) (ς ζ) (acE (dD a0.bz 0 1) λr7=>ς (!r7))) (acE (dD a0.bz 0 1) λr8=>ς (!r8)))) λ(v1:Bool)=>cond v1 (ς η) (acE (eK a0.bT) λr9=>acE (cond (!r9) (ς ζ) (acE (gX a0.gB) λr11=>cond (!r11) (ς ζ) (acE (pB a0.f6) λr12=>cond (!r12) (ς ζ) (acE (iB a0.bX) λr13=>cond (!r13) (ς ζ) (acE (xN a0) λr14=>ς (!r14)))))) λ(v10:Bool)=>cond v10 (ς η) (acE (dD a0.bG 0 999999) λr15=>acE (cond (!r15) (ς ζ) (acE (dD a0.ah 0 999999) λr17=>cond (!r17) (ς ζ) (acE (dD a0.aY 0 999999) λr18=>cond (!r18) (ς ζ) (acE (dD a0.bg 0 2147483646) λr19=>ς (!r19))))) λ(v16:Bool)=>cond v16 (ς η) (acE (dD a0.bh 0 5) λr20=>acE (cond r20 (acE (dD a0.dQ 0 5) λr22=>cond r22 (acE (dD a0.dL 0 3) λr23=>ς r23) (ς η)) (ς η)) λ(v21:Bool)=>ς v21)))
instance QM{a0:ag} :FC prog (lp a0=ς r) 110 [.agg (cp a0)] [.c (.d (.b r))]:=gG func110 ntmps110 (hb 6 29) (hb 34 56) (hb 61 78) (hb 82 2)
def DC(a0:Int)(a1:bw):Option Int:=
 acE (sP a1.bk) λr1=>cond (cW 8 ([a1.dt,a1.gk]++r1).length) (acE (fa a0 ([a1.dt,a1.gk]++r1)) λr2=>ς r2) ξ
instance sl8Mac_c{a0:Int}{a1:bw}{r:Int}:FC prog (DC a0 a1=ς r) 154 [aI a0,.agg (eg a1)] [.c (.d (.i .i64 r))]:=⟨λH=>by
 refine fI func154 ntmps154 ?_
 refine zI (List.range 12) ?_
 refine aa H λr1 q1 H=>zA (ca (hF:=GH.h q1)) ?_
 obtain⟨h,H⟩:=rq H
 refine wA (Jq (enc:=eI) (ys:=[a1.dt,a1.gk]) (zs:=r1) [1,2] h) ?_
 refine aa H λr2 q2 H=>zA (ca (hF:=KB.h q2)) ?_
 refine oK (ds:=[1]) (by kernel_rfl) (by kernel_rfl) rfl ?_
 refine wI ?_
 cases H
 exact jJ⟩
def tU(a0:Int)(a1:bw):Option Bool:=
 acE (DC a0 a1) λr1=>ς (eqB a1.i7 r1)
instance aae{a0:Int}{a1:bw} :FC prog (tU a0 a1=ς r) 79 [aI a0,.agg (eg a1)] [.c (.d (.b r))]:=gG func79 ntmps79
def gY(a0:Int)(a1:Int)(a2:Int):Option cy:=
 acE (dD a2 0 999999) λr1=>cond (!r1) (ς cH) (acE (nB a0 a1) λr2=>acE (H3 (WR (a2+r2)) 1000000) λr3=>acE (fa a0 [2,a1,a2]) λr4=>acE (fa a0 [3,a1]) λr5=>acE (fa a0 [4,a1,a2]) λr6=>acE (GL 1 r6) λr7=>ς (⟨a1,r3,r4,r5,r7⟩:cy))
instance SX{a0:Int}{a2:Int}{r:cy}:FC prog (gY a0 a1 a2=ς r) 306 [aI a0,aI a1,aI a2] [.agg (qM [] (kA r))]:=gG func306 ntmps306
def Av(a0:av):Option (cy×av):=
 acE (vL a0) λr1=>acE (bC r1.2 50) λr2=>acE (KR r2.2) λr3=>acE (gY r1.1 r2.1 r3.1) λr4=>acE (bC r3.2 8) λr5=>acE (cond (eqB r5.1 0) (acE (Au r5.2) λr16=>ς (r16.2,{r4 with i7:=r16.1})) (acE (cond (eqB r5.1 1) (acE (g4 r5.2 [WR (r4.f7+1),-1,1000000,WR (r4.f7+1000000)]) λr24=>ς (r24.2,{r4 with f7:=r24.1})) (acE (cond (eqB r5.1 2) (ς (WR (r4.ez+1))) (ς r4.ez)) λ(v25:Int)=>ς (r5.2,{r4 with ez:=v25}))) λ((v22,v23):av×cy)=>ς (v22,v23))) λ((v14,v15):av×cy)=>ς (v15,v14)
instance abu{a0:av}{r:cy×av}:FCW prog (Av a0=ς r) 308 (.var 124 (kM [.f] (be a0))) [tP 200] (.var 124 (kM [.f] (be r.2))) [.agg (qM [] (kA r.1))]:=gW func308 ntmps308 (hC 17 (λ(v:av×cy) sl ob nx=>⟨sl,[(200,.var 124 (kM [.f] (be v.1))),(211,.var 40 (kM [] (kA v.2)))]++ob,nx⟩)) (hC 22 (λ(v:av×cy) sl ob nx=>⟨sl,[(200,.var 124 (kM [.f] (be v.1))),(211,.var 40 (kM [] (kA v.2)))]++ob,nx⟩)) (hC 34 (λ(v:Int) sl ob nx=>⟨sl,uC 211 0 [.d η (.i .i64 v)] ob,nx⟩))
def zE(a0:ag):Option Bool:=
 acE (cond (!eqB a0.bz 1) (ς ζ) (acE (lp a0) λr2=>ς (!r2))) λ(v1:Bool)=>ς v1
instance G5{a0:ag} :FC prog (zE a0=ς r) 312 [.agg (cp a0)] [.c (.d (.b r))]:=gG func312 ntmps312 (hb 6 2)
def pG(a0:ag)(a1:Int):Option Int:=
 acE (pF a0) λr1=>acE (je a0.bX) λr2=>acE (GL 0 (WR ((WR (r1+a1))-r2))) λr3=>ς r3
instance GO{a0:ag}{r:Int}:FC prog (pG a0 a1=ς r) 355 [.agg (cp a0),aI a1] [.c (.d (.i .i64 r))]:=gG func355 ntmps355
def wv(a0:ae)(a1:Int):Option Bool:=
 acE (GM (a0.d7.bp.length:Int) 6) λr1=>acE (dD a1 0 (WR (r1-1))) λr2=>acE (cond r2 (cond (leB 0 a1) (ς (eqB (AC .i64 (Eb .i64 a0.cF a1) 1) 0)) ξ) (ς η)) λ(v3:Bool)=>ς v3
instance abi{a0:ae} :FC prog (wv a0 a1=ς r) 52 [.agg (g5 a0),aI a1] [.c (.d (.b r))]:=gG func52 ntmps52 (hb 13 4)
def rS(a0:aU)(a1:Int):Option (aU×cy):=
 acE (eK a0) λr1=>acE (cond (!r1) (ς ζ) (ς (eqB a0.cX 999999))) λ(v2:Bool)=>cond v2 (ς (a0,cH)) (acE (gY a0.fA a1 (WR (a0.cX+1))) λr3=>ς ({a0 with cX:=WR (a0.cX+1)},r3))
instance QN{a0:aU}{r:aU×cy}:FC prog (rS a0 a1=ς r) 366 [.agg (er a0),aI a1] [.agg (qM [] (nT r.1)),.agg (qM [] (kA r.2))]:=gG func366 ntmps366 (hb 10 14) (hz 5)
def mT(a0:jG)(a1:cy):Option (jG×gD):=
 acE (pC a0) λr1=>cond (!r1) (ς (a0,{iX with Code:=1})) (acE (nC a0.fA a0.c8 a1) λr2=>cond (eqB r2 0) (acE (lq a0.fA a1.ez a1.f7) λr3=>acE (fa a0.fA [3,a1.ez]) λr4=>acE (gY a0.fA a1.ez r3) λr5=>ς ({a0 with c8:=r3},{iX with vP:=r4,wO:=r5.fA})) (acE (cond (eqB r2 2) (ς (eqB r2 2)) (ς (eqB r2 3))) λ(v6:Bool)=>cond v6 (acE (sV a0.fA a1.ez a0.c8) λr7=>ς (a0,{iX with Code:=r2,Uh:=r7})) (ς (a0,{iX with Code:=r2}))))
instance K7{a0:jG}{a1:cy}{r:jG×gD}:FC prog (mT a0 a1=ς r) 387 [.agg (FB a0),.agg (mE a1)] [.agg (qM [] (FJ r.1)),.agg (qM [] (tu r.2))]:=gG func387 ntmps387 (hz 9) (hc 48 48) (hz 12)
def CQ(a0:ae)(a1:Int)(a2:Bool):Option (Bool×ae):=
 acE (dD a1 0 (WR ((a0.d7.bp.length:Int)-1))) λr1=>acE (cond (!r1) (ς ζ) (acE (wv a0 a1) λr3=>ς (booB r3 a2))) λ(v2:Bool)=>cond v2 (ς (η,a0)) (cond (leB 0 a1) (ς (ζ,{a0 with cF:=Jv .i64 a0.cF (mD .i64 1 a1)})) ξ)
instance sl33Cell_c{a0:ae}{a2:Bool}{r:Bool×ae}:FCV prog (CQ a0 a1 a2=ς r) 151 (nS a0) [tP 200,tI a1,tB a2] (nS r.2) (.v (.c (.d η (.b r.1)))) []:=gV func151 ntmps151 (hb 17 25) (hz 3)
end Go.AM
