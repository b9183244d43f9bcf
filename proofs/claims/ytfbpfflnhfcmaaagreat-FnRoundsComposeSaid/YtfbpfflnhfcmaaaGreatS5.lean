/- A part. -/
import Derived.Test.YtfbpfflnhfcmaaaGreatS1
import Derived.Test.YtfbpfflnhfcmaaaGreatS2
import Derived.Test.YtfbpfflnhfcmaaaGreatS3
import Derived.Test.YtfbpfflnhfcmaaaGreatS4
set_option linter.unusedVariables false
open Option renaming some->ς,none->ξ
open Bool renaming true->ζ,false->η
open True renaming intro->θ
open Option renaming bind->acE
namespace Go.AM
open Go.Proofs
open Tryz
attribute [local irreducible] AWN NS AWO AWR AWC DR DZ du gr iter
set_option maxRecDepth 100000
set_option maxHeartbeats 40000000
variable{a0:Go.AM.ag}
def ju(a0:ag):Option ag:=
 acE (wL a0.gB) λr1=>acE (tW a0.aS) λr2=>acE (oc a0.aK) λr3=>ς {a0 with gB:=r1,aS:=r2,aK:=r3}
instance OI{r:ag}:FC prog (ju a0=ς r) 142 [.agg (cp a0)] [.agg (qM [.o,.o,.o] (cU r))]:=gG func142 ntmps142
def lE(a0:ag)(a1:List Int):Option (ag×Bool):=
 acE (ju a0) λr1=>acE (cond (leB 24 (a0.aS.length:Int)) (ς ζ) (ς (ltB 60 (a1.length:Int)))) λ(v2:Bool)=>cond v2 (ς (r1,η)) (acE (G4 a1) λr3=>cond (cW 24 (r1.aS++[r3]).length) (ς ({r1 with aS:=(r1.aS++[r3])},ζ)) ξ)
instance Ei{a1:List Int}{r:ag×Bool}:FC prog (lE a0 a1=ς r) 135 [.agg (cp a0),aL (a1.map eU8)] [.agg (qM [.o,.o,.o] (cU r.1)),.c (.d (.b r.2))]:=gG func135 ntmps135 (hb 13 17) (hx 22) (hz 4)
def t6(a0:ag)(a1:aj):Option bR:=
 acE (ju a0) λr1=>acE (mw a1) λr2=>ς {cB with bb:=r1,eN:=r2}
instance G6{a1:aj}{r:bR}:FC prog (t6 a0 a1=ς r) 313 [.agg (cp a0),.agg (dh a1)] [.agg (qM [.o,.o,.o,.o,.o,.o] (b9 r))]:=gG func313 ntmps313 (hz 1)
def D7(r5:cV×List Int):(Int×List aG)->Option (ci (Int×List aG) (List aG))
 |(v6,v7)=>cond (ltB v6 (r5.2.length:Int)) (acE (ix r5.2 v6) λx10=>cond (cW 88 (v7++[{fc with bu:=7,bh:=x10}]).length) (ς (.next (WR (v6+1),(v7++[{fc with bu:=7,bh:=x10}])))) ξ) (ς (.done v7))
def zF(a0:ag)(a1:aj)(a2:aZ):Option bR:=
 acE (t6 a0 a1) λr1=>acE (dD a0.bh 0 (WR ((a2.bp.length:Int)-1))) λr2=>acE (cond r2 (acE (ix a2.bp a0.bh) λx4=>ς x4.fF) (ς 0)) λ(v3:Int)=>acE (uV {a0.f6 with fF:=v3} a2) λr5=>acE (iter (D7 r5) FU (0,r1.lW)) λ(v9:List aG)=>ς {r1 with bb:={r1.bb with f6:=r5.1},lW:=v9}
instance G7{a1:aj}{a2:aZ}{r:bR}:FC prog (zF a0 a1 a2=ς r) 315 [.agg (cp a0),.agg (dh a1),.agg (fT a2)] [.agg (qM [.o,.o,.o,.o,.o,.o] (b9 r))]:=gG func315 ntmps315 (hC 24 (λ(v:Int) sl ob nx=>⟨sl,[(11,.var 87 (kM [] (mV {a0.f6 with fF:=v})))]++ob,nx⟩)) (hL 0 (λ(v:Int×List aG) sl ob nx=>⟨(11,tI v.1)::xS [8,4,5,6,7,9] sl,[(8,w42 v.2)]++(uC 10 34 [.w 8 v.2.length] ob),nx⟩)) (hB 0 (λ(v:List aG) sl ob nx=>⟨(11,.any)::xS [8,4,5,6,7,9] sl,[(8,w42 v)]++(uC 10 34 [.w 8 v.length] ob),nx⟩)) (hz 11)
def pQ(a0:ag):Option bN:=
 acE (ju a0) λr1=>ς (⟨r1,([]:List aG)⟩:bN)
instance sl30None_c{r:bN}:FC prog (pQ a0=ς r) 357 [.agg (cp a0)] [.agg (qM [.o,.o,.o,.o] (eh r))]:=gG func357 ntmps357
def Aj(a0:ag):Option ag:=
 acE (ju a0) λr1=>ς {r1 with aA:=cH,bG:=0,dQ:=0,f6:=ev,dL:=0}
instance abh{r:ag}:FC prog (Aj a0=ς r) 254 [.agg (cp a0)] [.agg (qM [.o,.o,.o] (cU r))]:=gG func254 ntmps254
end Go.AM
