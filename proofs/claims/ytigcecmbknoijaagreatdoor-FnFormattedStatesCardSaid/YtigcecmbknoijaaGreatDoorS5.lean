/- A part. -/
import Derived.Test.YtigcecmbknoijaaGreatDoorS1
import Derived.Test.YtigcecmbknoijaaGreatDoorS2
import Derived.Test.YtigcecmbknoijaaGreatDoorS3
import Derived.Test.YtigcecmbknoijaaGreatDoorS4
set_option linter.unusedVariables false
open Option renaming some->ς,none->ξ
open Bool renaming true->ζ,false->η
open True renaming intro->θ
open Option renaming bind->ZS
namespace Go.AM
open Go.Proofs
open Tryz
attribute [local irreducible] AWN NS AWO AWR AWC DR DZ cM eN iter
set_option maxRecDepth 100000
set_option maxHeartbeats 40000000
variable{a0:Go.AM.ah}
def iF(a0:ah):Option ah:=
 ZS (s8 a0.jj) λr1=>ZS (qq a0.aU) λr2=>ZS (lZ a0.aK) λr3=>ς {a0 with jj:=r1,aU:=r2,aK:=r3}
instance Kq{r:ah}:FC prog (iF a0=ς r) 139 [.agg (cQ a0)] [.agg (qM [.o,.o,.o] (df r))]:=gG func139 ntmps139
def jP(a0:ah)(a1:List Int):Option (ah×Bool):=
 ZS (iF a0) λr1=>ZS (cond (leB 24 (a0.aU.length:Int)) (ς ζ) (ς (ltB 60 (a1.length:Int)))) λ(v2:Bool)=>cond v2 (ς (r1,η)) (ZS (CJ a1) λr3=>cond (cN 24 (r1.aU++[r3]).length) (ς ({r1 with aU:=(r1.aU++[r3])},ζ)) ξ)
instance Ax{a1:List Int}{r:ah×Bool}:FC prog (jP a0 a1=ς r) 93 [.agg (cQ a0),aL (a1.map eU8)] [.agg (qM [.o,.o,.o] (df r.1)),.c (.d (.b r.2))]:=gG func93 ntmps93 (hb 13 17) (hx 22) (hz 4)
def nr(a0:ah):Option bU:=
 ZS (iF a0) λr1=>ς (⟨r1,([]:List aT)⟩:bU)
instance XB{r:bU}:FC prog (nr a0=ς r) 142 [.agg (cQ a0)] [.agg (qM [.o,.o,.o,.o] (gp r))]:=gG func142 ntmps142
def qv(a0:ah)(a1:an):Option cp:=
 ZS (iF a0) λr1=>ZS (kB a1) λr2=>ς {dT with bb:=r1,fk:=r2}
instance CM{a1:an}{r:cp}:FC prog (qv a0 a1=ς r) 220 [.agg (cQ a0),.agg (dX a1)] [.agg (qM [.o,.o,.o,.o,.o,.o] (dH r))]:=gG func220 ntmps220 (hz 1)
def wv(a0:ah):Option ah:=
 ZS (iF a0) λr1=>ς {r1 with aA:=c8,bO:=0,eg:=0,jn:=gM,d9:=0}
instance VO{r:ah}:FC prog (wv a0=ς r) 199 [.agg (cQ a0)] [.agg (qM [.o,.o,.o] (df r))]:=gG func199 ntmps199
end Go.AM
