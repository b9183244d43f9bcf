/- A part. -/
import Derived.Test.YtfbpfflnhfcmaaaGreatS10
import Derived.Test.YtfbpfflnhfcmaaaGreatS11
import Derived.Test.YtfbpfflnhfcmaaaGreatS12
import Derived.Test.YtfbpfflnhfcmaaaGreatS13
import Derived.Test.YtfbpfflnhfcmaaaGreatS14
set_option linter.unusedVariables false
open Option renaming some->ς,none->ξ
open Bool renaming true->ζ,false->η
open True renaming intro->θ
open Option renaming bind->acE
namespace Go.AM
open Go.Proofs
open Tryz
attribute [local irreducible] AWN NS AWO AWR AWC DR DZ du gr iter
set_option maxRecDepth 100000
set_option maxHeartbeats 40000000
def pI(a0:ag)(a1:aG):Option bN:=
 acE (mr a1) λr1=>cond (!r1) (acE (pQ a0) λr2=>ς r2) (cond (eqB a1.bu 1) (acE (mu a0 a1) λr3=>ς r3) (cond (eqB a1.bu 3) (acE (kh a0 a1) λr4=>ς r4) (cond (eqB a1.bu 5) (acE (kQ a0 a1) λr5=>ς r5) (cond (eqB a1.bu 8) (acE (nN a0 a1) λr6=>ς r6) (acE (pQ a0) λr7=>ς r7)))))
instance Tb{a0:ag}{a1:aG}{r:bN}:FC prog (pI a0 a1=ς r) 318 [.agg (cp a0),.agg (dM a1)] [.agg (qM [.d,.d,.d,.o] (eh r))]:=gG func318 ntmps318
def vf(a0:ae)(a1:Int):Option ae:=
 acE (zK a0 a1) λr1=>acE (wv r1.2 r1.1.bh) λr2=>acE (cond (!r2) (ς {r1.2 with Lost:=WR (r1.2.Lost+1)}) (acE (cond r1.1.ey (cond (!r1.1.dB) (ς (eqB r1.1.a8.bh r1.1.bh)) (ς η)) (ς η)) λ(v14:Bool)=>acE (cond v14 (acE (ix r1.2.aJ r1.1.bj) λx26=>acE (pI x26 r1.1.a8) λr27=>acE (ix r1.2.aJ r1.1.bj) λx28=>acE (mz {r1.2 with aJ:=(r1.2.aJ.set (r1.1.bj).toNat r27.bb)} r1.1.bj η r27.c9) λr29=>ς r29) (acE (cond r1.1.ey (ς r1.2) (acE (ix r1.2.ax r1.1.bj) λx41=>acE (cond (!eqB x41.bh r1.1.bh) (ς {r1.2 with Lost:=WR (r1.2.Lost+1)}) (acE (cond r1.1.dB (acE (ix r1.2.ax r1.1.bj) λx64=>acE (ny x64 r1.1.ct) λr65=>acE (jF r1.2 r1.1.bj r65) λr66=>ς r66) (acE (ix r1.2.ax r1.1.bj) λx67=>acE (ki x67 r1.1.a8) λr68=>acE (jF r1.2 r1.1.bj r68) λr69=>ς r69)) λ(v63:ae)=>ς v63)) λ(v52:ae)=>ς v52)) λ(v40:ae)=>ς v40)) λ(v25:ae)=>ς v25)) λ(v13:ae)=>ς v13
instance YL{a0:ae}{a1:Int}{r:ae}:FCV prog (vf a0 a1=ς r) 247 (nS a0) [tP 200,tI a1] (nS r) (.tup []) []:=gV func247 ntmps247 (hC 25 (λ(v:ae) sl ob nx=>⟨xS [193,192,191,190] sl,nS v++fO [210] ob,nx⟩)) (hb 44 41) (hC 41 (λ(v:ae) sl ob nx=>⟨xS [193,192,191,190] sl,nS v++fO [210] ob,nx⟩)) (hz 7) (hz 6) (hC 80 (λ(v:ae) sl ob nx=>⟨xS [193,192,191,190] sl,nS v++fO [210] ob,nx⟩)) (hC 83 (λ(v:ae) sl ob nx=>⟨xS [193,192,191,190] sl,nS v++fO [210] ob,nx⟩)) (hC 103 (λ(v:ae) sl ob nx=>⟨xS [193,192,191,190] sl,nS v++ob,nx⟩)) (hz 13) (hz 2)
def xP(a0:ae)(a1:dJ):Option (Bool×ae):=
 acE (dD a1.da 0 (WR ((a0.aT.length:Int)-1))) λr1=>cond (!r1) (ς (η,a0)) (cond (eqB a1.bu 2) (acE (vf a0 a1.da) λr2=>ς (ζ,r2)) (cond (eqB a1.bu 3) (acE (zK a0 a1.da) λr3=>ς (ζ,{r3.2 with Lost:=WR (r3.2.Lost+1)})) (cond (leB 200 (a0.aT.length:Int)) (ς (η,a0)) (acE (ix a0.aT a1.da) λx4=>acE (iU a0 x4) λr5=>ς (ζ,r5)))))
instance aaq{a0:ae}{a1:dJ}{r:Bool×ae}:FCV prog (xP a0 a1=ς r) 149 (nS a0) [tP 200,.v (.agg (kM [.t,.t] (g6 a1)))] (nS r.2) (.v (.c (.d η (.b r.1)))) []:=gV func149 ntmps149 (hz 6)
end Go.AM
