/- A part. -/
import Derived.Test.YtgbcdgihmgapeaaGreatS11
import Derived.Test.YtgbcdgihmgapeaaGreatS12
import Derived.Test.YtgbcdgihmgapeaaGreatS13
import Derived.Test.YtgbcdgihmgapeaaGreatS14
set_option linter.unusedVariables false
open Option renaming some->ς,none->ξ
open Bool renaming true->ζ,false->η
open True renaming intro->θ
open Option renaming bind->abd
namespace Go.AM
open Go.Proofs
open Tryz
attribute [local irreducible] AWN NS AWO AWR AWC DR DZ cB eZ iter
set_option maxRecDepth 100000
set_option maxHeartbeats 40000000
def mG(a0:ah)(a1:aM):Option bU:=
 abd (jX a1) λr1=>cond (!r1) (abd (mN a0) λr2=>ς r2) (cond (eqB a1.bk 1) (abd (mD a0 a1) λr3=>ς r3) (cond (eqB a1.bk 3) (abd (kw a0 a1) λr4=>ς r4) (cond (eqB a1.bk 5) (abd (iV a0 a1) λr5=>ς r5) (cond (eqB a1.bk 8) (abd (lp a0 a1) λr6=>ς r6) (abd (mN a0) λr7=>ς r7)))))
instance OX{a0:ah}{a1:aM}{r:bU}:FC prog (mG a0 a1=ς r) 143 [.agg (cO a0),.agg (eB a1)] [.agg (qM [.d,.d,.d,.o] (fQ r))]:=gG func143 ntmps143
def rQ(a0:ab)(a1:Int):Option ab:=
 abd (vp a0 a1) λr1=>abd (th r1.2 r1.1.bv) λr2=>abd (cond (!r2) (ς {r1.2 with jM:=WR (r1.2.jM+1)}) (abd (cond r1.1.eH (cond (!r1.1.dL) (ς (eqB r1.1.bw.bv r1.1.bv)) (ς η)) (ς η)) λ(v14:Bool)=>abd (cond v14 (abd (ix r1.2.an r1.1.bA) λx26=>abd (mG x26 r1.1.bw) λr27=>abd (ix r1.2.an r1.1.bA) λx28=>abd (jZ {r1.2 with an:=(r1.2.an.set (r1.1.bA).toNat r27.a8)} r1.1.bA η r27.dF) λr29=>ς r29) (abd (cond r1.1.eH (ς r1.2) (abd (ix r1.2.aj r1.1.bA) λx41=>abd (cond (!eqB x41.bv r1.1.bv) (ς {r1.2 with jM:=WR (r1.2.jM+1)}) (abd (cond r1.1.dL (abd (ix r1.2.aj r1.1.bA) λx64=>abd (nP x64 r1.1.cz) λr65=>abd (ic r1.2 r1.1.bA r65) λr66=>ς r66) (abd (ix r1.2.aj r1.1.bA) λx67=>abd (mF x67 r1.1.bw) λr68=>abd (ic r1.2 r1.1.bA r68) λr69=>ς r69)) λ(v63:ab)=>ς v63)) λ(v52:ab)=>ς v52)) λ(v40:ab)=>ς v40)) λ(v25:ab)=>ς v25)) λ(v13:ab)=>ς v13
instance Uo{a0:ab}{a1:Int}{r:ab}:FCV prog (rQ a0 a1=ς r) 89 (nS a0) [tP 200,tI a1] (nS r) (.tup []) []:=gV func89 ntmps89 (hC 25 (λ(v:ab) sl ob nx=>⟨xS [193,192,191,190] sl,nS v++fO [210] ob,nx⟩)) (hb 44 41) (hC 41 (λ(v:ab) sl ob nx=>⟨xS [193,192,191,190] sl,nS v++fO [210] ob,nx⟩)) (hz 7) (hz 6) (hC 80 (λ(v:ab) sl ob nx=>⟨xS [193,192,191,190] sl,nS v++fO [210] ob,nx⟩)) (hC 83 (λ(v:ab) sl ob nx=>⟨xS [193,192,191,190] sl,nS v++fO [210] ob,nx⟩)) (hC 103 (λ(v:ab) sl ob nx=>⟨xS [193,192,191,190] sl,nS v++ob,nx⟩)) (hz 13) (hz 2)
def ui(a0:ab)(a1:cY):Option (Bool×ab):=
 abd (cQ a1.cV 0 (WR ((a0.aZ.length:Int)-1))) λr1=>cond (!r1) (ς (η,a0)) (cond (eqB a1.bk 2) (abd (rQ a0 a1.cV) λr2=>ς (ζ,r2)) (cond (eqB a1.bk 3) (abd (vp a0 a1.cV) λr3=>ς (ζ,{r3.2 with jM:=WR (r3.2.jM+1)})) (cond (leB 200 (a0.aZ.length:Int)) (ς (η,a0)) (abd (ix a0.aZ a1.cV) λx4=>abd (gz a0 x4) λr5=>ς (ζ,r5)))))
instance V9{a0:ab}{a1:cY}{r:Bool×ab}:FCV prog (ui a0 a1=ς r) 54 (nS a0) [tP 200,.v (.agg (kM [.t,.t] (lg a1)))] (nS r.2) (.v (.c (.d η (.b r.1)))) []:=gV func54 ntmps54 (hz 6)
end Go.AM
