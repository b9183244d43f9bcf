/- A part. -/
import Derived.Test.YtigcecmbknoijaaGreatDoorS5
set_option linter.unusedVariables false
open Option renaming some->ς,none->ξ
open Bool renaming true->ζ,false->η
open True renaming intro->θ
open Option renaming bind->ZS
namespace Go.AM
open Go.Proofs
open Tryz
attribute [local irreducible] AWN NS AWO AWR AWC DR DZ cM eN iter
set_option maxRecDepth 100000
set_option maxHeartbeats 40000000
def Al(r5:dr×List Int):(Int×List aT)->Option (cH (Int×List aT) (List aT))
 |(v6,v7)=>cond (ltB v6 (r5.2.length:Int)) (ZS (ix r5.2 v6) λx10=>cond (cN 88 (v7++[{eB with bp:=7,bg:=x10}]).length) (ς (.next (WR (v6+1),(v7++[{eB with bp:=7,bg:=x10}])))) ξ) (ς (.done v7))
def vL(a0:ah)(a1:an)(a2:bi):Option cp:=
 ZS (qv a0 a1) λr1=>ZS (cU a0.bg 0 (WR ((a2.bI.length:Int)-1))) λr2=>ZS (cond r2 (ZS (ix a2.bI a0.bg) λx4=>ς x4.g9) (ς 0)) λ(v3:Int)=>ZS (qZ {a0.jn with g9:=v3} a2) λr5=>ZS (iter (Al r5) FU (0,r1.nJ)) λ(v9:List aT)=>ς {r1 with bb:={r1.bb with jn:=r5.1},nJ:=v9}
instance CN{a0:ah}{a1:an}{a2:bi}{r:cp}:FC prog (vL a0 a1 a2=ς r) 222 [.agg (cQ a0),.agg (dX a1),.agg (nR a2)] [.agg (qM [.o,.o,.o,.o,.o,.o] (dH r))]:=gG func222 ntmps222 (hC 24 (λ(v:Int) sl ob nx=>⟨sl,[(11,.var 70 (kM [] (rP {a0.jn with g9:=v})))]++ob,nx⟩)) (hL 0 (λ(v:Int×List aT) sl ob nx=>⟨(11,tI v.1)::xS [8,4,5,6,7,9] sl,[(8,w79 v.2)]++(uC 10 34 [.w 8 v.2.length] ob),nx⟩)) (hB 0 (λ(v:List aT) sl ob nx=>⟨(11,.any)::xS [8,4,5,6,7,9] sl,[(8,w79 v)]++(uC 10 34 [.w 8 v.length] ob),nx⟩)) (hz 11)
end Go.AM
