/- A part. -/
import Derived.Test.YtcnfbcpgepbnkaaGreatS3
import Derived.Test.YtcnfbcpgepbnkaaGreatS4
import Derived.Test.YtcnfbcpgepbnkaaGreatS5
set_option linter.unusedVariables false
open Option renaming some->ς,none->ξ
open Bool renaming true->ζ,false->η
open True renaming intro->θ
open Option renaming bind->abX
namespace Go.AM
open Go.Proofs
open Tryz
attribute [local irreducible] AWN NS AWO AWR AWC DR DZ cp ec iter
set_option maxRecDepth 100000
set_option maxHeartbeats 40000000
def sT(a0:ae):(Int×List av)->Option (bN (Int×List av) (List av))
 |(v2,v3)=>cond (ltB v2 (a0.aO.length:Int)) (abX (ix a0.aO v2) λx7=>abX (pD x7) λr8=>cond (dH 144 (v3++[r8]).length) (ς (.next (WR (v2+1),(v3++[r8])))) ξ) (ς (.done v3))
def sV(a0:ae):(Int×List ag)->Option (bN (Int×List ag) (List ag))
 |(v9,v10)=>cond (ltB v9 (a0.a8.length:Int)) (abX (ix a0.a8 v9) λx14=>abX (ov x14) λr15=>cond (dH 288 (v10++[r15]).length) (ς (.next (WR (v9+1),(v10++[r15])))) ξ) (ς (.done v10))
def sW(a0:ae):(Int×List an)->Option (bN (Int×List an) (List an))
 |(v16,v17)=>cond (ltB v16 (a0.bU.length:Int)) (abX (ix a0.bU v16) λx21=>abX (AK x21) λr22=>cond (dH 48 (v17++[r22]).length) (ς (.next (WR (v16+1),(v17++[r22])))) ξ) (ς (.done v17))
def sX(a0:ae):(Int×List aH)->Option (bN (Int×List aH) (List aH))
 |(v23,v24)=>cond (ltB v23 (a0.ax.length:Int)) (abX (ix a0.ax v23) λx28=>abX (sa x28) λr29=>cond (dH 176 (v24++[r29]).length) (ς (.next (WR (v23+1),(v24++[r29])))) ξ) (ς (.done v24))
def AP(a0:ae):Option ae:=
 abX (wZ a0.gr) λr1=>abX (iter (sT a0) FU (0,([]:List av))) λ(v6:List av)=>abX (iter (sV a0) FU (0,([]:List ag))) λ(v13:List ag)=>abX (iter (sW a0) FU (0,([]:List an))) λ(v20:List an)=>abX (iter (sX a0) FU (0,([]:List aH))) λ(v27:List aH)=>ς (⟨r1,v6,v13,v20,v27,a0.dy,a0.kG,a0.Fr,a0.lb⟩:ae)
instance sl32Copy_c{a0:ae}{r:ae}:FCV prog (AP a0=ς r) 25 [] [.v (.agg (kM [.f,.f,.f,.f,.f] (c7 a0)))] [] (.v (.agg (kM [.t,.n 210,.n 211,.n 212,.n 213] (c7 r)))) [(210,X8 r.aO),(211,X9 r.a8),(212,Ya r.bU),(213,Yb r.ax)]:=gV func25 ntmps25 (hL 0 (λ(v:Int×List av) sl ob nx=>⟨(4,tI v.1)::xS [213] sl,[(213,X8 v.2)]++(uC 212 1 [.wn 213 v.2.length] ob),214⟩)) (hB 0 (λ(v:List av) sl ob nx=>⟨(4,.any)::xS [213] sl,[(213,X8 v)]++(uC 212 1 [.wn 213 v.length] ob),214⟩)) (hx 34) (hz 5) (hL 2 (λ(v:Int×List ag) sl ob nx=>⟨(5,tI v.1)::xS [214,213] sl,[(214,X9 v.2)]++(uC 212 2 [.wn 214 v.2.length] ob),215⟩)) (hB 2 (λ(v:List ag) sl ob nx=>⟨(5,.any)::xS [214,213] sl,[(214,X9 v)]++(uC 212 2 [.wn 214 v.length] ob),215⟩)) (hx 52) (hz 9) (hL 4 (λ(v:Int×List an) sl ob nx=>⟨(6,tI v.1)::xS [215,213,214] sl,[(215,Ya v.2)]++(uC 212 3 [.wn 215 v.2.length] ob),216⟩)) (hB 4 (λ(v:List an) sl ob nx=>⟨(6,.any)::xS [215,213,214] sl,[(215,Ya v)]++(uC 212 3 [.wn 215 v.length] ob),216⟩)) (hx 70) (hz 13) (hL 6 (λ(v:Int×List aH) sl ob nx=>⟨(7,tI v.1)::xS [216,213,214,215] sl,[(216,Yb v.2)]++(uC 212 4 [.wn 216 v.2.length] ob),217⟩)) (hB 6 (λ(v:List aH) sl ob nx=>⟨(7,.any)::xS [216,213,214,215] sl,[(216,Yb v)]++(uC 212 4 [.wn 216 v.length] ob),217⟩)) (hx 88) (hz 17) (hx 10) (hz 1)
def xQ(a0:av)(a1:ar):Option aK:=
 abX (lk a0.dJ a1.cy) λr1=>abX (pD a0) λr2=>cond (!eqB r1.2.Code 0) (ς (⟨r2,([]:List ar)⟩:aK)) (ς (⟨{r2 with dJ:=r1.1,ak:=a1.ak,bj:=r1.2.ue},[(⟨3,a0.bJ,a1.ak,0,r1.2.A2,cF,0⟩:ar)]⟩:aK))
instance ZL{a0:av}{a1:ar}{r:aK}:FC prog (xQ a0 a1=ς r) 218 [.agg (aZ a0),.agg (cb a1)] [.agg (qM [.o,.o,.o] (cd r))]:=gG func218 ntmps218
def ol(a0:av)(a1:ar):Option aK:=
 abX (kw a1) λr1=>abX (cond (!r1) (ς ζ) (cond (!eqB a1.bJ a0.bJ) (ς ζ) (ς (eqB a0.bV 0)))) λ(v2:Bool)=>cond v2 (abX (xb a0) λr3=>ς r3) (abX (pD a0) λr4=>abX (cond (eqB a1.d9 2) (ς (eqB a0.bV 1)) (ς η)) λ(v5:Bool)=>cond v5 (abX (xQ a0 a1) λr6=>ς r6) (abX (cond (eqB a1.d9 4) (cond (eqB a0.bV 1) (abX (fT a0.bj) λr8=>cond r8 (cond (eqB a1.ak a0.ak) (abX (jF a0.bj a1) λr9=>ς r9) (ς η)) (ς η)) (ς η)) (ς η)) λ(v7:Bool)=>cond v7 (ς (⟨{r4 with bV:=2,aU:=a1.aU,bZ:=ζ},([]:List ar)⟩:aK)) (abX (cond (eqB a1.d9 6) (cond (eqB a0.bV 2) (cond (eqB a1.ak a0.ak) (cond (eqB a1.aU a0.aU) (abX (jF a0.bj a1) λr11=>ς r11) (ς η)) (ς η)) (ς η)) (ς η)) λ(v10:Bool)=>cond v10 (ς (⟨{r4 with bZ:=ζ},([]:List ar)⟩:aK)) (abX (cond (eqB a1.d9 7) (cond (eqB a0.bV 3) (ς (ltB a0.aU 999999)) (ς η)) (ς η)) λ(v12:Bool)=>cond v12 (abX (AN {r4 with bV:=2}) λr13=>ς r13) (abX (cond (eqB a1.d9 7) (ς (eqB a0.bV 2)) (ς η)) λ(v14:Bool)=>cond v14 (abX (xc a0) λr15=>abX (xe {r4 with bZ:=η} r15) λr16=>ς r16) (ς (⟨r4,([]:List ar)⟩:aK)))))))
instance Rx{a0:av}{a1:ar}{r:aK}:FC prog (ol a0 a1=ς r) 136 [.agg (aZ a0),.agg (cb a1)] [.agg (qM [.d,.d,.o] (cd r))]:=gG func136 ntmps136 (hb 9 20) (hb 29 25) (hb 41 37) (hb 73 69) (hb 103 99) (hb 120 116) (hz 17)
end Go.AM
