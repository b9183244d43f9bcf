/- A part. -/
import Derived.Test.YtcnfbcpgepbnkaaGreatI3
import Derived.Test.YtcnfbcpgepbnkaaGreatI4
import Derived.Test.YtcnfbcpgepbnkaaGreatI5
set_option linter.unusedVariables false
open Option renaming some->ς,none->ξ
open Bool renaming true->ζ,false->η
open True renaming intro->θ
open Option renaming bind->abX
namespace Go.AM
open Go.Proofs
open Tryz
attribute [local irreducible] AWN NS AWO AWR AWC DR DZ cp ec iter
set_option maxRecDepth 100000
set_option maxHeartbeats 40000000
def iM(a0:ag)(a1:ar):(Int×Int)->Option (bN (Int×Int) (Int))
 |(v4,v5)=>cond (ltB v5 (a0.aY.aJ.length:Int)) (abX (ix a0.aY.aJ v5) λx9=>abX (cond (ltB x9.cP a1.bW) (ς (WR (v4+(x9.bk.length:Int)))) (ς v4)) λ(v10:Int)=>ς (.next (v10,WR (v5+1)))) (ς (.done v4))
def jl(a0:ag)(a1:ar):Option aP:=
 abX (cond (!eqB a0.bV 1) (ς ζ) (cond (!eqB a1.ak a0.ak) (ς ζ) (abX (gQ a0.bj a1) λr2=>cond (!r2) (ς ζ) (ς (ltB a0.aY.bK a1.bW))))) λ(v1:Bool)=>cond v1 (abX (cM a0 []) λr3=>ς r3) (abX (iter (iM a0 a1) FU (0,0)) λ(v8:Int)=>abX (oZ a0.dq v8) λr11=>abX (jL a0.aY a1.bW) λr12=>abX (cM {a0 with kY:=0,aY:=r12,dq:=r11.1} []) λr13=>ς r13)
instance Oz{a0:ag}{a1:ar}{r:aP}:FC prog (jl a0 a1=ς r) 251 [.agg (aB a0),.agg (cb a1)] [.agg (qM [.o,.o,.o,.o] (bP r))]:=gG func251 ntmps251 (hb 11 32) (hm 0 5 39) (he 0 5 39) (hi 47 5)
def fR(a0:av):Option aK:=
 abX (sD {a0 with bZ:=η,mH:=3}) λr1=>abX (cO {a0 with bZ:=η,mH:=3} [r1]) λr2=>ς r2
instance RX{a0:av}{r:aK}:FC prog (fR a0=ς r) 258 [.agg (aZ a0)] [.agg (qM [.o,.o,.o] (cd r))]:=gG func258 ntmps258 (hz 3)
def kj(a0:av)(a1:ar):Option aK:=
 abX (kg a1) λr1=>abX (cond (!r1) (ς ζ) (cond (!eqB a1.bJ a0.bJ) (ς ζ) (ς (eqB a0.bV 0)))) λ(v2:Bool)=>cond v2 (abX (cO a0 []) λr3=>ς r3) (cond (eqB a1.d9 2) (cond (eqB a0.bV 1) (abX (iv a0 a1) λr4=>ς r4) (abX (cO a0 []) λr5=>ς r5)) (cond (eqB a1.d9 4) (abX (cond (eqB a0.bV 1) (abX (eY a0.bj) λr7=>cond r7 (cond (eqB a1.ak a0.ak) (abX (gQ a0.bj a1) λr8=>ς r8) (ς η)) (ς η)) (ς η)) λ(v6:Bool)=>abX (cond v6 (ς {a0 with bV:=2,aU:=a1.aU,bZ:=ζ}) (ς a0)) λ(v12:av)=>abX (cO v12 []) λr13=>ς r13) (cond (eqB a1.d9 6) (abX (cond (eqB a0.bV 2) (cond (eqB a1.ak a0.ak) (cond (eqB a1.aU a0.aU) (abX (gQ a0.bj a1) λr15=>ς r15) (ς η)) (ς η)) (ς η)) λ(v14:Bool)=>abX (cond v14 (ς ζ) (ς a0.bZ)) λ(v16:Bool)=>abX (cO {a0 with bZ:=v16} []) λr17=>ς r17) (cond (eqB a1.d9 7) (abX (cond (eqB a0.bV 3) (ς (ltB a0.aU 999999)) (ς η)) λ(v18:Bool)=>cond v18 (abX (fR {a0 with bV:=2,aU:=WR (a0.aU+1)}) λr19=>ς r19) (cond (eqB a0.bV 2) (abX (fR a0) λr20=>ς r20) (abX (cO a0 []) λr21=>ς r21))) (abX (cO a0 []) λr22=>ς r22)))))
instance Qn{a0:av}{a1:ar}{r:aK}:FC prog (kj a0 a1=ς r) 167 [.agg (aZ a0),.agg (cb a1)] [.agg (qM [.o,.o,.o] (cd r))]:=gG func167 ntmps167 (hb 8 19) (hb 37 54) (hC 54 (λ(v:av) sl ob nx=>⟨sl,[(0,.var 129 (kM [.f,.f] (gv v)))]++ob,nx⟩)) (hb 65 84) (hC 84 (λ(v:Bool) sl ob nx=>⟨sl,[(0,.var 129 (kM [.f,.f] (gv {a0 with bZ:=v})))]++ob,nx⟩)) (hb 91 95)
end Go.AM
