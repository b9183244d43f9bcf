/- A part. -/
import Derived.Test.YtigcecmbknoijaaGreatDoorS5
import Derived.Test.YtigcecmbknoijaaGreatDoorS7
import Derived.Test.YtigcecmbknoijaaGreatDoorS8
import Derived.Test.YtigcecmbknoijaaGreatDoorS9
set_option linter.unusedVariables false
open Option renaming some->ς,none->ξ
open Bool renaming true->ζ,false->η
open True renaming intro->θ
open Option renaming bind->ZS
namespace Go.AM
open Go.Proofs
open Tryz
attribute [local irreducible] AWN NS AWO AWR AWC DR DZ cM eN iter
set_option maxRecDepth 100000
set_option maxHeartbeats 40000000
def qj(a0:ax):Option ax:=
 ZS (jJ a0) λr1=>ZS (cond (eqB a0.bB 2) (ς 3) (ς r1.bB)) λ(v2:Int)=>ς {r1 with bB:=v2}
instance UT{a0:ax}{r:ax}:FC prog (qj a0=ς r) 85 [.agg (eh a0)] [.agg (qM [.o,.o] (fy r))]:=gG func85 ntmps85 (hC 8 (λ(v:Int) sl ob nx=>⟨xS [2,3] sl,uC 4 4 [.d η (.i .i64 v)] ob,nx⟩))
def nf(a0:Int)(a1:aF):Option Bool:=
 ZS (jF a1.bH) λr1=>ZS (cond r1 (cond (eqB a1.bH.dQ 1) (ZS (pJ a0 a1.aZ) λr3=>ZS (qp r3 a1.bH) λr4=>ς r4) (ς η)) (ς η)) λ(v2:Bool)=>ς v2
instance R4{a0:Int}{a1:aF}{r:Bool}:FC prog (nf a0 a1=ς r) 172 [aI a0,.agg (ev a1)] [.c (.d (.b r))]:=gG func172 ntmps172 (hb 8 4)
def ua(a0:ae)(a1:Int):Option Bool:=
 ZS (ix a0.av a1) λx1=>ZS (ix a0.aD a1) λx2=>ZS (mP x1) λr3=>ZS (cond (!r3) (ς ζ) (ZS (jG x2) λr5=>cond (!r5) (ς ζ) (ZS (ix a0.bD a1) λx6=>ZS (fJ x6) λr7=>cond (!r7) (ς ζ) (cond (!(eqB x1.dZ.ID.dE x2.b7.ID.dE&&(eqB x1.dZ.ID.bZ x2.b7.ID.bZ&&ζ))) (ς ζ) (ς (!eqB x1.dZ.gS x2.b7.gS)))))) λ(v4:Bool)=>cond v4 (ς η) (ZS (cond (ltB x1.bg (a0.d5.bI.length:Int)) (cond (ltB x2.bg (a0.d5.bI.length:Int)) (cond (eqB x2.ci.aH a1) (ZS (ix a0.bD a1) λx9=>ZS (eZ x9 x2.ci) λr10=>ς r10) (ς η)) (ς η)) (ς η)) λ(v8:Bool)=>ς v8)
instance U9{a0:ae}{a1:Int}{r:Bool}:FC prog (ua a0 a1=ς r) 231 [.agg (kK a0),aI a1] [.c (.d (.b r))]:=gG func231 ntmps231 (hb 20 51) (hb 59 4)
def g6(a0:ae):Int->Option (cH (Int) (Bool))
 |v6=>cond (ltB v6 (a0.aV.length:Int)) (ZS (ix a0.aV v6) λx7=>ZS (cU x7.bk 0 (WR ((a0.av.length:Int)-1))) λr8=>ZS (cond (!r8) (ς ζ) (ZS (ix a0.aV v6) λx10=>ZS (cU x10.bg 0 (WR ((a0.d5.bI.length:Int)-1))) λr11=>ς (!r11))) λ(v9:Bool)=>cond v9 (dn (ς η)) (ς (.next (WR (v6+1))))) (dn (cond (leB 0 (a0.d5.bI.length:Int)) (ZS (cU a0.cP 0 (WR ((my .i64 1 (a0.d5.bI.length:Int))-1))) λr12=>ZS (cond r12 (ZS (cU a0.lI 0 100000) λr14=>cond r14 (ς (leB 0 a0.Lost)) (ς η)) (ς η)) λ(v13:Bool)=>ς v13) ξ))
def g5(a0:ae):Int->Option (cH (Int) (Bool))
 |v4=>cond (ltB v4 (a0.av.length:Int)) (ZS (ua a0 v4) λr5=>cond (!r5) (dn (ς η)) (ς (.next (WR (v4+1))))) (dn (iter (g6 a0) FU 0))
def lE(a0:ae):Option Bool:=
 ZS (oH a0.d5) λr1=>ZS (cond (!r1) (ς ζ) (ZS (kQ a0.gT) λr3=>cond (!r3) (ς ζ) (cond (eqB a0.gT.fZ 0) (ς ζ) (cond (ltB 4 (a0.av.length:Int)) (ς ζ) (cond (!eqB (a0.aD.length:Int) (a0.av.length:Int)) (ς ζ) (cond (!eqB (a0.bD.length:Int) (a0.av.length:Int)) (ς ζ) (ς (ltB 200 (a0.aV.length:Int))))))))) λ(v2:Bool)=>cond v2 (ς η) (iter (g5 a0) FU 0)
instance Mq{a0:ae}{r:Bool}:FC prog (lE a0=ς r) 215 [.agg (kK a0)] [.c (.d (.b r))]:=gG func215 ntmps215 (hb 9 50) (hl 0 3) (hl 2 4) (hb 81 95) (hb 105 2)
def pt(a0:ah)(a1:an)(a2:Int):Option (ah×an):=
 ZS (iF a0) λr1=>ZS (mW a0 a2) λr2=>cond (leB r2 0) (ZS (kB a1) λr3=>ς (r1,r3)) (ZS (Cr r2 a0.jj.fF) λr4=>ZS (oo a1 a0.ci r4) λr5=>ς ({r1 with ci:=r5.2},r5.1))
instance Cp{a0:ah}{a1:an}{a2:Int}{r:ah×an}:FC prog (pt a0 a1 a2=ς r) 237 [.agg (cQ a0),.agg (dX a1),aI a2] [.agg (qM [.o,.o,.o] (df r.1)),.agg (qM [.o] (du r.2))]:=gG func237 ntmps237 (hz 4) (hz 7) (hz 5)
def oy(a0:ae)(r1:bQ):(Int×List ah)->Option (cH (Int×List ah) (List ah))
 |(v5,v6)=>cond (ltB v5 (v6.length:Int)) (ZS (lr a0.gT v5) λr14=>ZS (lr r1 v5) λr15=>ZS (cond (!eqB r14 r15) (ZS (ix v6 v5) λx17=>ZS (wv x17) λr18=>ZS (ix v6 v5) λx19=>ς (v6.set (v5).toNat r18)) (ς v6)) λ(v16:List ah)=>ς (.next (WR (v5+1),v16))) (ς (.done v6))
def uc(a0:ae)(a1:Int)(a2:Bool):Option (Bool×ae):=
 ZS (py a0.gT a1 a2) λr1=>ZS (cU a1 0 (WR (a0.gT.ia-1))) λr2=>ZS (cond (!r2) (ς ζ) (ZS (oG a0.gT a1) λr4=>cond (booB r4 a2) (ς ζ) (ς (eqB r1.fZ 0)))) λ(v3:Bool)=>cond v3 (ς (η,a0)) (ZS (iter (oy a0 r1) FU (0,a0.aD)) λ(v13:List ah)=>ς (ζ,{a0 with aD:=v13,gT:=r1}))
instance Vc{a0:ae}{a1:Int}{a2:Bool}{r:Bool×ae}:FCV prog (uc a0 a1 a2=ς r) 159 (nS a0) [tP 200,tI a1,tB a2] (nS r.2) (.v (.c (.d η (.b r.1)))) []:=gV func159 ntmps159 (hb 26 40) (hL 0 (λ(v:Int×List ah) sl ob nx=>⟨(9,tI v.1)::xS [191,190,192,193] sl,[(191,n76 v.2)]++(uC 200 2 [.wn 191 v.2.length] ob),nx⟩)) (hB 0 (λ(v:List ah) sl ob nx=>⟨(9,.any)::xS [191,190,192,193] sl,[(191,n76 v)]++(uC 200 2 [.wn 191 v.length] ob),nx⟩)) (hC 64 (λ(v:List ah) sl ob nx=>⟨xS [191,190,192,193] sl,[(191,n76 v)]++(uC 200 2 [.wn 191 v.length] ob),nx⟩)) (hz 10)
end Go.AM
