/- A part. -/
import Derived.Test.YtcnfbcpgepbnkaaGreatS0
import Derived.Test.YtcnfbcpgepbnkaaGreatS1
import Derived.Test.YtcnfbcpgepbnkaaGreatS2
set_option linter.unusedVariables false
open Option renaming some->ς,none->ξ
open Bool renaming true->ζ,false->η
open True renaming intro->θ
open Option renaming bind->aeP
namespace Go.AM
open Go.Proofs
open Tryz
attribute [local irreducible] AWN NS AWO AWR AWC DR DZ cO eB iter
set_option maxRecDepth 100000
set_option maxHeartbeats 40000000
def kN(a0:ag):Option ag:=
 aeP (DL a0.fr) λr1=>aeP (uq a0.aS) λr2=>aeP (nN a0.aC) λr3=>ς {a0 with fr:=r1,aS:=r2,aC:=r3}
instance RB{a0:ag}{r:ag}:FC prog (kN a0=ς r) 64 [.agg (aM a0)] [.agg (qM [.o,.o,.o] (dh r))]:=gG func64 ntmps64
def pD(a0:ag):Option bm:=
 aeP (kN a0) λr1=>ς (⟨r1,([]:List aD)⟩:bm)
instance sl30None_c{a0:ag}{r:bm}:FC prog (pD a0=ς r) 209 [.agg (aM a0)] [.agg (qM [.o,.o,.o,.o] (cV r))]:=gG func209 ntmps209
def ut(a0:ag)(a1:aj):Option bk:=
 aeP (kN a0) λr1=>aeP (mU a1) λr2=>ς {bU with aX:=r1,eu:=r2}
instance Jc{a0:ag}{a1:aj}{r:bk}:FC prog (ut a0 a1=ς r) 267 [.agg (aM a0),.agg (bj a1)] [.agg (qM [.o,.o,.o,.o,.o,.o] (bv r))]:=gG func267 ntmps267 (hz 1)
end Go.AM
