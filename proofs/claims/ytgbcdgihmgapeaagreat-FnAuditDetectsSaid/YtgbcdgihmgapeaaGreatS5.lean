/- A part. -/
import Derived.Test.YtgbcdgihmgapeaaGreatS0
import Derived.Test.YtgbcdgihmgapeaaGreatS1
import Derived.Test.YtgbcdgihmgapeaaGreatS2
import Derived.Test.YtgbcdgihmgapeaaGreatS3
set_option linter.unusedVariables false
open Option renaming some->ς,none->ξ
open Bool renaming true->ζ,false->η
open True renaming intro->θ
open Option renaming bind->abd
namespace Go.AM
open Go.Proofs
open Tryz
attribute [local irreducible] AWN NS AWO AWR AWC DR DZ cB eZ iter
set_option maxRecDepth 100000
set_option maxHeartbeats 40000000
variable{a0:Go.AM.ah}
def gZ(a0:ah):Option ah:=
 abd (tv a0.ip) λr1=>abd (nB a0.av) λr2=>abd (lE a0.ax) λr3=>ς {a0 with ip:=r1,av:=r2,ax:=r3}
instance CO{r:ah}:FC prog (gZ a0=ς r) 27 [.agg (cO a0)] [.agg (qM [.o,.o,.o] (eC r))]:=gG func27 ntmps27
def qH(a0:ah)(a1:am):Option b8:=
 abd (gZ a0) λr1=>abd (lb a1) λr2=>ς {dB with a8:=r1,eo:=r2}
instance CQ{a1:am}{r:b8}:FC prog (qH a0 a1=ς r) 138 [.agg (cO a0),.agg (cS a1)] [.agg (qM [.o,.o,.o,.o,.o,.o] (dm r))]:=gG func138 ntmps138 (hz 1)
def mN(a0:ah):Option bU:=
 abd (gZ a0) λr1=>ς (⟨r1,([]:List aM)⟩:bU)
instance YO{r:bU}:FC prog (mN a0=ς r) 176 [.agg (cO a0)] [.agg (qM [.o,.o,.o,.o] (fQ r))]:=gG func176 ntmps176
def kY(a0:ah)(a1:List Int):Option (ah×Bool):=
 abd (gZ a0) λr1=>abd (cond (leB 24 (a0.av.length:Int)) (ς ζ) (ς (ltB 60 (a1.length:Int)))) λ(v2:Bool)=>cond v2 (ς (r1,η)) (abd (CN a1) λr3=>cond (cW 24 (r1.av++[r3]).length) (ς ({r1 with av:=(r1.av++[r3])},ζ)) ξ)
instance AB{a1:List Int}{r:ah×Bool}:FC prog (kY a0 a1=ς r) 71 [.agg (cO a0),aL (a1.map eU8)] [.agg (qM [.o,.o,.o] (eC r.1)),.c (.d (.b r.2))]:=gG func71 ntmps71 (hb 13 17) (hx 22) (hz 4)
def vX(a0:ah):Option ah:=
 abd (gZ a0) λr1=>ς {r1 with aO:=df,bG:=0,d9:=0,jw:=f8,d6:=0}
instance WP{r:ah}:FC prog (vX a0=ς r) 97 [.agg (cO a0)] [.agg (qM [.o,.o,.o] (eC r))]:=gG func97 ntmps97
def nX(a0:ab)(r1:bW):(Int×List ah)->Option (ct (Int×List ah) (List ah))
 |(v5,v6)=>cond (ltB v5 (v6.length:Int)) (abd (kW a0.d8 v5) λr14=>abd (kW r1 v5) λr15=>abd (cond (!eqB r14 r15) (abd (ix v6 v5) λx17=>abd (vX x17) λr18=>abd (ix v6 v5) λx19=>ς (v6.set (v5).toNat r18)) (ς v6)) λ(v16:List ah)=>ς (.next (WR (v5+1),v16))) (ς (.done v6))
def uj(a0:ab)(a1:Int)(a2:Bool):Option (Bool×ab):=
 abd (px a0.d8 a1 a2) λr1=>abd (cQ a1 0 (WR (a0.d8.fD-1))) λr2=>abd (cond (!r2) (ς ζ) (abd (oo a0.d8 a1) λr4=>cond (booB r4 a2) (ς ζ) (ς (eqB r1.eG 0)))) λ(v3:Bool)=>cond v3 (ς (η,a0)) (abd (iter (nX a0 r1) FU (0,a0.an)) λ(v13:List ah)=>ς (ζ,{a0 with an:=v13,d8:=r1}))
instance Wa{a0:ab}{a1:Int}{a2:Bool}{r:Bool×ab}:FCV prog (uj a0 a1 a2=ς r) 57 (nS a0) [tP 200,tI a1,tB a2] (nS r.2) (.v (.c (.d η (.b r.1)))) []:=gV func57 ntmps57 (hb 26 40) (hL 0 (λ(v:Int×List ah) sl ob nx=>⟨(9,tI v.1)::xS [191,190,192,193] sl,[(191,n87 v.2)]++(uC 200 2 [.wn 191 v.2.length] ob),nx⟩)) (hB 0 (λ(v:List ah) sl ob nx=>⟨(9,.any)::xS [191,190,192,193] sl,[(191,n87 v)]++(uC 200 2 [.wn 191 v.length] ob),nx⟩)) (hC 64 (λ(v:List ah) sl ob nx=>⟨xS [191,190,192,193] sl,[(191,n87 v)]++(uC 200 2 [.wn 191 v.length] ob),nx⟩)) (hz 10)
end Go.AM
