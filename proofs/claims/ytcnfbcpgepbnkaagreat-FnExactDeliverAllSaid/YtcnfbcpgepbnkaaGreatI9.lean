/- A part. -/
import Derived.Test.YtcnfbcpgepbnkaaGreatI6
import Derived.Test.YtcnfbcpgepbnkaaGreatI7
import Derived.Test.YtcnfbcpgepbnkaaGreatI8
set_option linter.unusedVariables false
open Option renaming some->ς,none->ξ
open Bool renaming true->ζ,false->η
open True renaming intro->θ
open Option renaming bind->abX
namespace Go.AM
open Go.Proofs
open Tryz
attribute [local irreducible] AWN NS AWO AWR AWC DR DZ cp ec iter
set_option maxRecDepth 100000
set_option maxHeartbeats 40000000
def km(a0:ag)(a1:ar):Option aP:=
 abX (kg a1) λr1=>cond r1 (cond (eqB a1.d9 1) (abX (ki a0 a1) λr2=>ς r2) (cond (eqB a1.d9 3) (abX (iu a0 a1) λr3=>ς r3) (cond (eqB a1.d9 5) (abX (f8 a0 a1) λr4=>ς r4) (cond (eqB a1.d9 8) (abX (jl a0 a1) λr5=>ς r5) (abX (cM a0 []) λr6=>ς r6))))) (abX (cM a0 []) λr7=>ς r7)
instance Qo{a0:ag}{a1:ar}{r:aP}:FC prog (km a0 a1=ς r) 165 [.agg (aB a0),.agg (cb a1)] [.agg (qM [.o,.o,.o,.o] (bP r))]:=gG func165 ntmps165
def vZ(a0:ae)(a1:Int):Option ae:=
 abX (kt a0 a1) λr1=>abX (xt r1.2 r1.1.bJ) λr2=>abX (cond (!r2) (ς {r1.2 with lb:=WR (r1.2.lb+1)}) (abX (cond r1.1.oE (cond r1.1.iJ (ς ζ) (ς (!eqB r1.1.bS.bJ r1.1.bJ))) (ς η)) λ(v14:Bool)=>abX (cond v14 (ς r1.2) (abX (cond r1.1.oE (abX (ix r1.2.a8 r1.1.bC) λx37=>abX (km x37 r1.1.bS) λr38=>abX (ix r1.2.a8 r1.1.bC) λx39=>abX (jE {r1.2 with a8:=(r1.2.a8.set (r1.1.bC).toNat r38.ck)} r1.1.bC r38.dQ) λr40=>ς r40) (abX (ix r1.2.aO r1.1.bC) λx41=>abX (cond (!eqB x41.bJ r1.1.bJ) (ς {r1.2 with lb:=WR (r1.2.lb+1)}) (abX (cond r1.1.iJ (abX (ix r1.2.aO r1.1.bC) λx64=>abX (lx x64 r1.1.cY) λr65=>abX (gE r1.2 r1.1.bC r65) λr66=>ς r66) (abX (ix r1.2.aO r1.1.bC) λx67=>abX (kj x67 r1.1.bS) λr68=>abX (gE r1.2 r1.1.bC r68) λr69=>ς r69)) λ(v63:ae)=>ς v63)) λ(v52:ae)=>ς v52)) λ(v36:ae)=>ς v36)) λ(v25:ae)=>ς v25)) λ(v13:ae)=>ς v13
instance ideliver_c{a0:ae}{a1:Int}{r:ae}:FCV prog (vZ a0 a1=ς r) 89 (nI a0) [tP 200,tI a1] (nI r) (.tup []) []:=gV func89 ntmps89 (hC 25 (λ(v:ae) sl ob nx=>⟨xS [193,192,191,190] sl,nI v++fO [210] ob,nx⟩)) (hb 43 40) (hC 40 (λ(v:ae) sl ob nx=>⟨xS [193,192,191,190] sl,nI v++fO [210] ob,nx⟩)) (hC 55 (λ(v:ae) sl ob nx=>⟨xS [193,192,191,190] sl,nI v++fO [210] ob,nx⟩)) (hz 8) (hz 7) (hC 81 (λ(v:ae) sl ob nx=>⟨xS [193,192,191,190] sl,nI v++fO [210] ob,nx⟩)) (hC 100 (λ(v:ae) sl ob nx=>⟨xS [193,192,191,190] sl,nI v++ob,nx⟩)) (hz 13) (hz 2)
def iw(a1:Int):(Int×ae)->Option (bN (Int×ae) (ae))
 |(v1,v12)=>abX (cond (ltB v1 a1) (ς (ltB 0 (v12.ax.length:Int))) (ς η)) λ(v26:Bool)=>cond v26 (abX (vZ v12 0) λr27=>ς (.next (WR (v1+1),r27))) (ς (.done v12))
def lB(a0:ae)(a1:Int):Option ae:=
 abX (iter (iw a1) FU (0,a0)) λ(v25:ae)=>ς v25
instance R4{a0:ae}{a1:Int}{r:ae}:FCV prog (lB a0 a1=ς r) 38 (nI a0) [tP 200,tI a1] (nI r) (.tup []) []:=gV func38 ntmps38 (hL 0 (λ(v:Int×ae) sl ob nx=>⟨(4,tI v.1)::xS [193,192,191,190] sl,nI v.2++ob,nx⟩)) (hB 0 (λ(v:ae) sl ob nx=>⟨(4,.any)::xS [193,192,191,190] sl,nI v++ob,nx⟩)) (hb 8 15)
def mw(a0:ae)(a1:Int):Option ae:=
 abX (m9 a0) λr1=>abX (lL a0) λr2=>abX (cond r2 (abX (bM a1 0 4000) λr4=>ς r4) (ς η)) λ(v3:Bool)=>abX (cond v3 (abX (lB r1 a1) λr16=>ς r16) (ς r1)) λ(v15:ae)=>ς v15
instance Ws{a0:ae}{a1:Int}{r:ae}:FC prog (mw a0 a1=ς r) 10 [.agg (ev a0),aI a1] [.agg (qM [.d,.o,.o,.o,.o] (c7 r))]:=gG func10 ntmps10 (hb 10 13) (hC 13 (λ(v:ae) sl ob nx=>⟨xS [6,5,4,3,2] sl,oM [.t,.w 3,.w 4,.w 5,.w 6] 7 43 (c7 v)++fO [2] ob,nx⟩))
end Go.AM
