/- A part. -/
import Derived.Test.YtfbpfflnhfcmaaaGreatI1
import Derived.Test.YtfbpfflnhfcmaaaGreatM0
import Derived.Test.YtfbpfflnhfcmaaaGreatS20
set_option linter.unusedVariables false
set_option linter.unusedSimpArgs false
open Option renaming some->ς,none->ξ
open Bool renaming true->ζ,false->η
open True renaming intro->θ
open Option renaming bind->acE
namespace Go.AM
open Go.Proofs
open Tryz
attribute [local irreducible] AWN NS AWO AWR AWC DR DZ du gr iter
set_option maxRecDepth 100000
set_option maxHeartbeats 40000000
def zz406(a0:List Int):Option Bool:=
 acE (lbig a0) λr1=>cond r1 (ς ζ) (acE (zz452 a0) λr2=>acE (lj r2) λr3=>cond (!r3) (acE (Bk r2) λr4=>acE (kN r4 r2) λr5=>acE (cond r5 (acE (jj r2 2) λr7=>acE (kN r7 r2) λr8=>ς r8) (ς η)) λ(v6:Bool)=>ς v6) (acE (lat a0 0) λr9=>acE (jj r2 (Int.tmod r9 3)) λr10=>acE (Bk r2) λr11=>acE (jj r2 (WR ((Int.tmod r9 3)+2))) λr12=>acE (jj r10 2) λr13=>acE (kN r12 r13) λr14=>acE (cond r14 (acE (xc r11) λr16=>cond r16 (acE (jj r2 1) λr17=>acE (kN r11 r17) λr18=>cond r18 (cond (eqB r11.lV (WR (r2.lV+1))) (acE (kW r11) λr19=>ς r19) (ς η)) (ς η)) (ς η)) (ς η)) λ(v15:Bool)=>ς v15))
instance zz26{a0:List Int}{r:Bool}:FC prog (zz406 a0=ς r) 5 [aL (a0.map eU8)] [.c (.d (.b r))]:=gG func5 ntmps5 (hb 18 2) (hb 39 2)
end Go.AM
