/- A part. -/
import Derived.Test.YtgbcdgihmgapeaaGreatS5
import Derived.Test.YtgbcdgihmgapeaaGreatS6
set_option linter.unusedVariables false
open Option renaming some->ς,none->ξ
open Bool renaming true->ζ,false->η
open True renaming intro->θ
open Option renaming bind->abd
namespace Go.AM
open Go.Proofs
open Tryz
attribute [local irreducible] AWN NS AWO AWR AWC DR DZ cB eZ iter
set_option maxRecDepth 100000
set_option maxHeartbeats 40000000
def At(r5:cP×List Int):(Int×List aM)->Option (ct (Int×List aM) (List aM))
 |(v6,v7)=>cond (ltB v6 (r5.2.length:Int)) (abd (ix r5.2 v6) λx10=>cond (cW 88 (v7++[{iJ with bk:=7,bv:=x10}]).length) (ς (.next (WR (v6+1),(v7++[{iJ with bk:=7,bv:=x10}])))) ξ) (ς (.done v7))
def vk(a0:ah)(a1:am)(a2:aV):Option b8:=
 abd (qH a0 a1) λr1=>abd (cQ a0.bv 0 (WR ((a2.bp.length:Int)-1))) λr2=>abd (cond r2 (abd (ix a2.bp a0.bv) λx4=>ς x4.gB) (ς 0)) λ(v3:Int)=>abd (rE {a0.jw with gB:=v3} a2) λr5=>abd (iter (At r5) FU (0,r1.lF)) λ(v9:List aM)=>ς {r1 with a8:={r1.a8 with jw:=r5.1},lF:=v9}
instance CR{a0:ah}{a1:am}{a2:aV}{r:b8}:FC prog (vk a0 a1 a2=ς r) 140 [.agg (cO a0),.agg (cS a1),.agg (js a2)] [.agg (qM [.o,.o,.o,.o,.o,.o] (dm r))]:=gG func140 ntmps140 (hC 24 (λ(v:Int) sl ob nx=>⟨sl,[(11,.var 81 (kM [] (sD {a0.jw with gB:=v})))]++ob,nx⟩)) (hL 0 (λ(v:Int×List aM) sl ob nx=>⟨(11,tI v.1)::xS [8,4,5,6,7,9] sl,[(8,w65 v.2)]++(uC 10 34 [.w 8 v.2.length] ob),nx⟩)) (hB 0 (λ(v:List aM) sl ob nx=>⟨(11,.any)::xS [8,4,5,6,7,9] sl,[(8,w65 v)]++(uC 10 34 [.w 8 v.length] ob),nx⟩)) (hz 11)
end Go.AM
