/- A part. -/
import Derived.Test.YtgbcdgihmgapeaaGreatS5
import Derived.Test.YtgbcdgihmgapeaaGreatS8
import Derived.Test.YtgbcdgihmgapeaaGreatS9
set_option linter.unusedVariables false
open Option renaming some->ς,none->ξ
open Bool renaming true->ζ,false->η
open True renaming intro->θ
open Option renaming bind->abd
namespace Go.AM
open Go.Proofs
open Tryz
attribute [local irreducible] AWN NS AWO AWR AWC DR DZ cB eZ iter
set_option maxRecDepth 100000
set_option maxHeartbeats 40000000
def rJ(a0:ab):(Int×List aC)->Option (ct (Int×List aC) (List aC))
 |(v2,v3)=>cond (ltB v2 (a0.aj.length:Int)) (abd (ix a0.aj v2) λx7=>abd (iH x7) λr8=>cond (cW 144 (v3++[r8]).length) (ς (.next (WR (v2+1),(v3++[r8])))) ξ) (ς (.done v3))
def rK(a0:ab):(Int×List ah)->Option (ct (Int×List ah) (List ah))
 |(v9,v10)=>cond (ltB v9 (a0.an.length:Int)) (abd (ix a0.an v9) λx14=>abd (gZ x14) λr15=>cond (cW 288 (v10++[r15]).length) (ς (.next (WR (v9+1),(v10++[r15])))) ξ) (ς (.done v10))
def rL(a0:ab):(Int×List am)->Option (ct (Int×List am) (List am))
 |(v16,v17)=>cond (ltB v16 (a0.aU.length:Int)) (abd (ix a0.aU v16) λx21=>abd (lb x21) λr22=>cond (cW 48 (v17++[r22]).length) (ς (.next (WR (v16+1),(v17++[r22])))) ξ) (ς (.done v17))
def rN(a0:ab):(Int×List bT)->Option (ct (Int×List bT) (List bT))
 |(v23,v24)=>cond (ltB v23 (a0.aZ.length:Int)) (abd (ix a0.aZ v23) λx28=>abd (qI x28) λr29=>cond (cW 176 (v24++[r29]).length) (ς (.next (WR (v23+1),(v24++[r29])))) ξ) (ς (.done v24))
def mO(a0:ab):Option ab:=
 abd (ox a0.dV) λr1=>abd (iter (rJ a0) FU (0,([]:List aC))) λ(v6:List aC)=>abd (iter (rK a0) FU (0,([]:List ah))) λ(v13:List ah)=>abd (iter (rL a0) FU (0,([]:List am))) λ(v20:List am)=>abd (iter (rN a0) FU (0,([]:List bT))) λ(v27:List bT)=>ς (⟨r1,v6,v13,v20,v27,a0.cX,a0.d8,a0.oG,a0.jM⟩:ab)
instance xC{a0:ab}{r:ab}:FCV prog (mO a0=ς r) 14 [] [.v (.agg (kM [.f,.f,.f,.f,.f] (aS a0)))] [] (.v (.agg (kM [.t,.n 210,.n 211,.n 212,.n 213] (aS r)))) [(210,n45 r.aj),(211,n87 r.an),(212,n55 r.aU),(213,n71 r.aZ)]:=gV func14 ntmps14 (hL 0 (λ(v:Int×List aC) sl ob nx=>⟨(4,tI v.1)::xS [213] sl,[(213,n45 v.2)]++(uC 212 1 [.wn 213 v.2.length] ob),214⟩)) (hB 0 (λ(v:List aC) sl ob nx=>⟨(4,.any)::xS [213] sl,[(213,n45 v)]++(uC 212 1 [.wn 213 v.length] ob),214⟩)) (hx 34) (hz 5) (hL 2 (λ(v:Int×List ah) sl ob nx=>⟨(5,tI v.1)::xS [214,213] sl,[(214,n87 v.2)]++(uC 212 2 [.wn 214 v.2.length] ob),215⟩)) (hB 2 (λ(v:List ah) sl ob nx=>⟨(5,.any)::xS [214,213] sl,[(214,n87 v)]++(uC 212 2 [.wn 214 v.length] ob),215⟩)) (hx 52) (hz 9) (hL 4 (λ(v:Int×List am) sl ob nx=>⟨(6,tI v.1)::xS [215,213,214] sl,[(215,n55 v.2)]++(uC 212 3 [.wn 215 v.2.length] ob),216⟩)) (hB 4 (λ(v:List am) sl ob nx=>⟨(6,.any)::xS [215,213,214] sl,[(215,n55 v)]++(uC 212 3 [.wn 215 v.length] ob),216⟩)) (hx 70) (hz 13) (hL 6 (λ(v:Int×List bT) sl ob nx=>⟨(7,tI v.1)::xS [216,213,214,215] sl,[(216,n71 v.2)]++(uC 212 4 [.wn 216 v.2.length] ob),217⟩)) (hB 6 (λ(v:List bT) sl ob nx=>⟨(7,.any)::xS [216,213,214,215] sl,[(216,n71 v)]++(uC 212 4 [.wn 216 v.length] ob),217⟩)) (hx 88) (hz 17) (hx 10) (hz 1)
def rD(a0:aC):Option bj:=
 abd (iH a0) λr1=>cond (ltB 0 a0.gE) (ς (⟨{r1 with gE:=WR (a0.gE-1)},([]:List aM)⟩:bj)) (cond (eqB a0.bB 1) (abd (qE a0) λr2=>abd (lc r1 r2) λr3=>ς r3) (abd (cond (eqB a0.bB 2) (ς (!a0.dr)) (ς η)) λ(v4:Bool)=>cond v4 (abd (tq a0) λr5=>abd (lc r1 r5) λr6=>ς r6) (ς (⟨r1,([]:List aM)⟩:bj))))
instance Ul{a0:aC}{r:bj}:FC prog (rD a0=ς r) 86 [.agg (di a0)] [.agg (qM [.d,.d,.o] (eb r))]:=gG func86 ntmps86 (hz 5) (hb 26 22) (hz 7)
def mD(a0:ah)(a1:aM):Option bU:=
 abd (jV a0.bH.ID (WR (a0.bH.cZ+1))) λr1=>abd (oL a0.bH r1) λr2=>bif(eqB r2.1.ID.dQ a0.bH.ID.dQ&&(eqB r2.1.ID.bX a0.bH.ID.bX&&(eqB r2.1.eV a0.bH.eV&&(eqB r2.1.cZ a0.bH.cZ&&ζ)))) then(abd (mN a0) λr3=>ς r3) else(abd (gZ a0) λr4=>ς (⟨{r4 with bH:=r2.1,aO:=r2.2,bG:=r2.1.cZ},[(⟨2,a1.bv,r2.1.cZ,0,0,r2.2,0⟩:aM)]⟩:bU))
instance OU{a0:ah}{a1:aM}{r:bU}:FC prog (mD a0 a1=ς r) 177 [.agg (cO a0),.agg (eB a1)] [.agg (qM [.o,.o,.o,.o] (fQ r))]:=gG func177 ntmps177 (hz 1)
end Go.AM
