/- A part. -/
import Derived.Test.YtcnfbcpgepbnkaaGreatS8
import Derived.Test.YtcnfbcpgepbnkaaGreatS9
import Derived.Test.YtcnfbcpgepbnkaaGreatS10
set_option linter.unusedVariables false
open Option renaming some->ς,none->ξ
open Bool renaming true->ζ,false->η
open True renaming intro->θ
open Option renaming bind->abX
namespace Go.AM
open Go.Proofs
open Tryz
attribute [local irreducible] AWN NS AWO AWR AWC DR DZ cp ec iter
set_option maxRecDepth 100000
set_option maxHeartbeats 40000000
def sY(a0:ae)(a1:Int):Option ae:=
 abX (AS a0 a1) λr1=>abX (xO r1.2 r1.1.bJ) λr2=>abX (cond (!r2) (ς {r1.2 with lb:=WR (r1.2.lb+1)}) (abX (cond r1.1.oE (cond (!r1.1.iJ) (ς (eqB r1.1.bS.bJ r1.1.bJ)) (ς η)) (ς η)) λ(v14:Bool)=>abX (cond v14 (abX (ix r1.2.a8 r1.1.bC) λx26=>abX (om x26 r1.1.bS) λr27=>abX (ix r1.2.a8 r1.1.bC) λx28=>abX (mF {r1.2 with a8:=(r1.2.a8.set (r1.1.bC).toNat r27.ck)} r1.1.bC η r27.dQ) λr29=>ς r29) (abX (cond r1.1.oE (ς r1.2) (abX (ix r1.2.aO r1.1.bC) λx41=>abX (cond (!eqB x41.bJ r1.1.bJ) (ς {r1.2 with lb:=WR (r1.2.lb+1)}) (abX (cond r1.1.iJ (abX (ix r1.2.aO r1.1.bC) λx64=>abX (pj x64 r1.1.cY) λr65=>abX (mt r1.2 r1.1.bC r65) λr66=>ς r66) (abX (ix r1.2.aO r1.1.bC) λx67=>abX (ol x67 r1.1.bS) λr68=>abX (mt r1.2 r1.1.bC r68) λr69=>ς r69)) λ(v63:ae)=>ς v63)) λ(v52:ae)=>ς v52)) λ(v40:ae)=>ς v40)) λ(v25:ae)=>ς v25)) λ(v13:ae)=>ς v13
instance WP{a0:ae}{a1:Int}{r:ae}:FCV prog (sY a0 a1=ς r) 70 (nS a0) [tP 200,tI a1] (nS r) (.tup []) []:=gV func70 ntmps70 (hC 25 (λ(v:ae) sl ob nx=>⟨xS [193,192,191,190] sl,nS v++fO [210] ob,nx⟩)) (hb 44 41) (hC 41 (λ(v:ae) sl ob nx=>⟨xS [193,192,191,190] sl,nS v++fO [210] ob,nx⟩)) (hz 7) (hz 6) (hC 80 (λ(v:ae) sl ob nx=>⟨xS [193,192,191,190] sl,nS v++fO [210] ob,nx⟩)) (hC 83 (λ(v:ae) sl ob nx=>⟨xS [193,192,191,190] sl,nS v++fO [210] ob,nx⟩)) (hC 103 (λ(v:ae) sl ob nx=>⟨xS [193,192,191,190] sl,nS v++ob,nx⟩)) (hz 13) (hz 2)
def kB(a1:Int):(Int×ae)->Option (bN (Int×ae) (ae))
 |(v1,v12)=>abX (cond (ltB v1 a1) (ς (ltB 0 (v12.ax.length:Int))) (ς η)) λ(v26:Bool)=>cond v26 (abX (sY v12 0) λr27=>ς (.next (WR (v1+1),r27))) (ς (.done v12))
def sZ(a0:ae)(a1:Int):Option ae:=
 abX (iter (kB a1) FU (0,a0)) λ(v25:ae)=>ς v25
instance WU{a0:ae}{a1:Int}{r:ae}:FCV prog (sZ a0 a1=ς r) 28 (nS a0) [tP 200,tI a1] (nS r) (.tup []) []:=gV func28 ntmps28 (hL 0 (λ(v:Int×ae) sl ob nx=>⟨(4,tI v.1)::xS [193,192,191,190] sl,nS v.2++ob,nx⟩)) (hB 0 (λ(v:ae) sl ob nx=>⟨(4,.any)::xS [193,192,191,190] sl,nS v++ob,nx⟩)) (hb 8 15)
def sN(a0:ae)(a1:Int):Option ae:=
 abX (AP a0) λr1=>abX (mb a0) λr2=>abX (cond r2 (abX (cX a1 0 4000) λr4=>ς r4) (ς η)) λ(v3:Bool)=>abX (cond v3 (abX (sZ r1 a1) λr16=>ς r16) (ς r1)) λ(v15:ae)=>ς v15
instance FX{a0:ae}{a1:Int}{r:ae}:FCV prog (sN a0 a1=ς r) 8 [] [.v (.agg (kM [.f,.f,.f,.f,.f] (c7 a0))),tI a1] [] (.v (.agg (kM [.t,.n 210,.n 211,.n 212,.n 213] (c7 r)))) [(210,X8 r.aO),(211,X9 r.a8),(212,Ya r.bU),(213,Yb r.ax)]:=gV func8 ntmps8 (hb 10 13) (hC 13 (λ(v:ae) sl ob nx=>⟨xS [215,214,213,212] sl,oM [.t,.n 212,.n 213,.n 214,.n 215] 216 43 (c7 v)++ob,nx⟩))
end Go.AM
