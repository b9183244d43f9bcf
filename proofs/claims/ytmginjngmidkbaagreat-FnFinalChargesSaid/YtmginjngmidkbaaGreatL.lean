/- A part. -/
import Derived.Test.YtmginjngmidkbaaGreatI9
import Derived.Test.YtmginjngmidkbaaGreatM0
import Derived.Test.YtmginjngmidkbaaGreatS12
set_option linter.unusedVariables false
set_option linter.unusedSimpArgs false
open Option renaming bind->abU
namespace Go.AM
open Go.Proofs
open Tryz
attribute [local irreducible] AWN NS AWO AWR AWC DR DZ dS gp iter
set_option maxRecDepth 100000
set_option maxHeartbeats 40000000
def nM (r3:ab):Int->Option (ct (Int) (Bool))
 |v4=>abU (bif ltB v4 (r3.av.length:Int) then(bif ltB v4 (r3.aF.length:Int) then(some (ltB v4 (r3.bk.length:Int))) else(some false)) else(some false)) λ(v5:Bool)=>bif v5 then(abU (ix r3.bk v4) λx6=>abU (ix r3.aF v4) λx7=>abU (p4 x6 x7.bU) λr8=>abU (fM r8) λr9=>abU (bif !r9 then(some true) else(abU (ix r3.bk v4) λx11=>bif !eqB r8.eE x11.eE then(some true) else(abU (p3 r3 v4) λr12=>bif !eqB r8.eg r12 then(some true) else(abU (ml r8 v4) λr13=>some (!eqB r13 0))))) λ(v10:Bool)=>bif v10 then(dn (some false)) else(abU (yU r3 v4) λr14=>abU (bif r14 then(abU (ix r3.aF v4) λx16=>abU (mY x16 24) λr17=>some (!eqB r8.bz (WR (r8.eE-r17)))) else(some false)) λ(v15:Bool)=>bif v15 then(dn (some false)) else(some (.next (WR (v4+1)))))) else(dn (abU (kC r3) λr18=>some r18))
def qW (a0:List Int):Option Bool:=
 abU (ZV a0) λr1=>bif r1 then(some true) else(abU (rN a0) λr2=>abU (Js r2) λr3=>iter (nM r3) FU 0)
instance Bm {a0:List Int} {r:Bool}:FC prog (qW a0=some r) 4 [aL (a0.map eU8)] [.c (.d (.b r))]:=gF func4 ntmps4 (hl 0 4) (hb 16 29) (hb 47 71) (hb 75 88) (hz 7)
end Go.AM
