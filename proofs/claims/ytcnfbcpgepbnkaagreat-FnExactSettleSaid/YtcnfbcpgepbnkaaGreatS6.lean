/- A part. -/
import Derived.Test.YtcnfbcpgepbnkaaGreatS3
import Derived.Test.YtcnfbcpgepbnkaaGreatS4
import Derived.Test.YtcnfbcpgepbnkaaGreatS5
set_option linter.unusedVariables false
open Option renaming some->ς,none->ξ
open Bool renaming true->ζ,false->η
open True renaming intro->θ
open Option renaming bind->aeP
namespace Go.AM
open Go.Proofs
open Tryz
attribute [local irreducible] AWN NS AWO AWR AWC DR DZ cO eB iter
set_option maxRecDepth 100000
set_option maxHeartbeats 40000000
def yh(a0:ae)(a1:Int):Option Bool:=
 aeP (ix a0.aH a1) λx1=>aeP (ix a0.aT a1) λx2=>aeP (pi x1) λr3=>aeP (cond (!r3) (ς ζ) (aeP (kG x2) λr5=>cond (!r5) (ς ζ) (aeP (ix a0.bu a1) λx6=>aeP (gI x6) λr7=>cond (!r7) (ς ζ) (cond (!(eqB x1.ea.ID.dT x2.bO.ID.dT&&(eqB x1.ea.ID.cj x2.bO.ID.cj&&ζ))) (ς ζ) (ς (!eqB x1.ea.f9 x2.bO.f9)))))) λ(v4:Bool)=>cond v4 (ς η) (aeP (cond (ltB x1.bC (a0.fH.bh.length:Int)) (cond (ltB x2.bC (a0.fH.bh.length:Int)) (cond (eqB x2.bM.ax a1) (aeP (ix a0.bu a1) λx9=>aeP (fm x9 x2.bM) λr10=>ς r10) (ς η)) (ς η)) (ς η)) λ(v8:Bool)=>ς v8)
instance acO{a0:ae}{a1:Int}{r:Bool}:FC prog (yh a0 a1=ς r) 69 [.agg (eC a0),aI a1] [.c (.d (.b r))]:=gG func69 ntmps69 (hb 20 51) (hb 59 4)
def kq(a0:ag)(a1:aD):Option bm:=
 aeP (wH a0 a1) λr1=>aeP (cond (!r1) (ς ζ) (cond (ltB a1.a8 a0.a8) (ς ζ) (cond (eqB a1.a8 a0.a8) (ς (!eqB a1.bC a0.bC)) (ς η)))) λ(v2:Bool)=>cond v2 (aeP (pD a0) λr3=>ς r3) (aeP (kN a0) λr4=>aeP (ur {r4 with a8:=a1.a8,bC:=a1.bC,dy:=0,fJ:=eA,du:=0} 6) λr5=>ς r5)
instance Px{a0:ag}{a1:aD}{r:bm}:FC prog (kq a0 a1=ς r) 212 [.agg (aM a0),.agg (cP a1)] [.agg (qM [.d,.d,.d,.o] (cV r))]:=gG func212 ntmps212 (hb 10 30)
def sQ(a0:Int)(a1:am):Option Bool:=
 aeP (kF a1.bH) λr1=>aeP (cond r1 (cond (eqB a1.bH.c7 1) (aeP (s5 a0 a1.a8) λr3=>aeP (ul r3 a1.bH) λr4=>ς r4) (ς η)) (ς η)) λ(v2:Bool)=>ς v2
instance ZF{a0:Int}{a1:am}{r:Bool}:FC prog (sQ a0 a1=ς r) 295 [aI a0,.agg (cQ a1)] [.c (.d (.b r))]:=gG func295 ntmps295 (hb 8 4)
def Fv(r5:bL×List Int):(Int×List aD)->Option (bJ (Int×List aD) (List aD))
 |(v6,v7)=>cond (ltB v6 (r5.2.length:Int)) (aeP (ix r5.2 v6) λx10=>cond (c8 88 (v7++[{gq with eb:=7,bC:=x10}]).length) (ς (.next (WR (v6+1),(v7++[{gq with eb:=7,bC:=x10}])))) ξ) (ς (.done v7))
def Aj(a0:ag)(a1:aj)(a2:aU):Option bk:=
 aeP (ut a0 a1) λr1=>aeP (dt a0.bC 0 (WR ((a2.bh.length:Int)-1))) λr2=>aeP (cond r2 (aeP (ix a2.bh a0.bC) λx4=>ς x4.eO) (ς 0)) λ(v3:Int)=>aeP (vf {a0.fJ with eO:=v3} a2) λr5=>aeP (iter (Fv r5) FU (0,r1.ou)) λ(v9:List aD)=>ς {r1 with aX:={r1.aX with fJ:=r5.1},ou:=v9}
instance Jd{a0:ag}{a1:aj}{a2:aU}{r:bk}:FC prog (Aj a0 a1 a2=ς r) 269 [.agg (aM a0),.agg (bj a1),.agg (eh a2)] [.agg (qM [.o,.o,.o,.o,.o,.o] (bv r))]:=gG func269 ntmps269 (hC 24 (λ(v:Int) sl ob nx=>⟨sl,[(11,.var 135 (kM [] (kO {a0.fJ with eO:=v})))]++ob,nx⟩)) (hL 0 (λ(v:Int×List aD) sl ob nx=>⟨(11,tI v.1)::xS [8,4,5,6,7,9] sl,[(8,w147 v.2)]++(uC 10 34 [.w 8 v.2.length] ob),nx⟩)) (hB 0 (λ(v:List aD) sl ob nx=>⟨(11,.any)::xS [8,4,5,6,7,9] sl,[(8,w147 v)]++(uC 10 34 [.w 8 v.length] ob),nx⟩)) (hz 11)
end Go.AM
