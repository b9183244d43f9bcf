/- A part. -/
import Derived.Test.YtgbcdgihmgapeaaGreatS5
import Derived.Test.YtgbcdgihmgapeaaGreatS7
import Derived.Test.YtgbcdgihmgapeaaGreatS8
set_option linter.unusedVariables false
open Option renaming some->ς,none->ξ
open Bool renaming true->ζ,false->η
open True renaming intro->θ
open Option renaming bind->abd
namespace Go.AM
open Go.Proofs
open Tryz
attribute [local irreducible] AWN NS AWO AWR AWC DR DZ cB eZ iter
set_option maxRecDepth 100000
set_option maxHeartbeats 40000000
def pp(a0:ah)(a1:am)(a2:Int):Option (ah×am):=
 abd (gZ a0) λr1=>abd (mC a0 a2) λr2=>cond (leB r2 0) (abd (lb a1) λr3=>ς (r1,r3)) (abd (Cw r2 a0.ip.er) λr4=>abd (nQ a1 a0.bV r4) λr5=>ς ({r1 with bV:=r5.2},r5.1))
instance Ct{a0:ah}{a1:am}{a2:Int}{r:ah×am}:FC prog (pp a0 a1 a2=ς r) 172 [.agg (cO a0),.agg (cS a1),aI a2] [.agg (qM [.o,.o,.o] (eC r.1)),.agg (qM [.o] (eO r.2))]:=gG func172 ntmps172 (hz 4) (hz 7) (hz 5)
def iV(a0:ah)(a1:aM):Option bU:=
 abd (tu a0 a1) λr1=>abd (cond (!r1) (ς ζ) (cond (ltB a1.bi a0.bi) (ς ζ) (cond (eqB a1.bi a0.bi) (ς (!eqB a1.bv a0.bv)) (ς η)))) λ(v2:Bool)=>cond v2 (abd (mN a0) λr3=>ς r3) (abd (gZ a0) λr4=>abd (qG {r4 with bi:=a1.bi,bv:=a1.bv,d9:=0,jw:=f8,d6:=0} 6) λr5=>ς r5)
instance IP{a0:ah}{a1:aM}{r:bU}:FC prog (iV a0 a1=ς r) 179 [.agg (cO a0),.agg (eB a1)] [.agg (qM [.d,.d,.d,.o] (fQ r))]:=gG func179 ntmps179 (hb 10 30)
def uh(a0:ab)(a1:Int):Option Bool:=
 abd (ix a0.aj a1) λx1=>abd (ix a0.an a1) λx2=>abd (mt x1) λr3=>abd (cond (!r3) (ς ζ) (abd (jm x2) λr5=>cond (!r5) (ς ζ) (abd (ix a0.aU a1) λx6=>abd (fT x6) λr7=>cond (!r7) (ς ζ) (cond (!(eqB x1.dx.ID.dQ x2.bH.ID.dQ&&(eqB x1.dx.ID.bX x2.bH.ID.bX&&ζ))) (ς ζ) (ς (!eqB x1.dx.eV x2.bH.eV)))))) λ(v4:Bool)=>cond v4 (ς η) (abd (cond (ltB x1.bv (a0.dV.bp.length:Int)) (cond (ltB x2.bv (a0.dV.bp.length:Int)) (cond (eqB x2.bV.aA a1) (abd (ix a0.aU a1) λx9=>abd (eE x9 x2.bV) λr10=>ς r10) (ς η)) (ς η)) (ς η)) λ(v8:Bool)=>ς v8)
instance V7{a0:ab}{a1:Int}{r:Bool}:FC prog (uh a0 a1=ς r) 51 [.agg (fK a0),aI a1] [.c (.d (.b r))]:=gG func51 ntmps51 (hb 20 51) (hb 59 4)
def gu(a0:ab):Int->Option (ct (Int) (Bool))
 |v6=>cond (ltB v6 (a0.aZ.length:Int)) (abd (ix a0.aZ v6) λx7=>abd (cQ x7.bA 0 (WR ((a0.aj.length:Int)-1))) λr8=>abd (cond (!r8) (ς ζ) (abd (ix a0.aZ v6) λx10=>abd (cQ x10.bv 0 (WR ((a0.dV.bp.length:Int)-1))) λr11=>ς (!r11))) λ(v9:Bool)=>cond v9 (dn (ς η)) (ς (.next (WR (v6+1))))) (dn (cond (leB 0 (a0.dV.bp.length:Int)) (abd (cQ a0.cX 0 (WR ((lO .i64 1 (a0.dV.bp.length:Int))-1))) λr12=>abd (cond r12 (abd (cQ a0.oG 0 100000) λr14=>cond r14 (ς (leB 0 a0.jM)) (ς η)) (ς η)) λ(v13:Bool)=>ς v13) ξ))
def gr(a0:ab):Int->Option (ct (Int) (Bool))
 |v4=>cond (ltB v4 (a0.aj.length:Int)) (abd (uh a0 v4) λr5=>cond (!r5) (dn (ς η)) (ς (.next (WR (v4+1))))) (dn (iter (gu a0) FU 0))
def jk(a0:ab):Option Bool:=
 abd (ot a0.dV) λr1=>abd (cond (!r1) (ς ζ) (abd (kv a0.d8) λr3=>cond (!r3) (ς ζ) (cond (eqB a0.d8.eG 0) (ς ζ) (cond (ltB 4 (a0.aj.length:Int)) (ς ζ) (cond (!eqB (a0.an.length:Int) (a0.aj.length:Int)) (ς ζ) (cond (!eqB (a0.aU.length:Int) (a0.aj.length:Int)) (ς ζ) (ς (ltB 200 (a0.aZ.length:Int))))))))) λ(v2:Bool)=>cond v2 (ς η) (iter (gr a0) FU 0)
instance MW{a0:ab}{r:Bool}:FC prog (jk a0=ς r) 30 [.agg (fK a0)] [.c (.d (.b r))]:=gG func30 ntmps30 (hb 9 50) (hl 0 3) (hl 2 4) (hb 81 95) (hb 105 2)
end Go.AM
