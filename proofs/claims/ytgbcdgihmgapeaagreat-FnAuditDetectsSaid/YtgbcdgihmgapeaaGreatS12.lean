/- A part. -/
import Derived.Test.YtgbcdgihmgapeaaGreatS5
import Derived.Test.YtgbcdgihmgapeaaGreatS6
import Derived.Test.YtgbcdgihmgapeaaGreatS8
import Derived.Test.YtgbcdgihmgapeaaGreatS9
set_option linter.unusedVariables false
open Option renaming some->ς,none->ξ
open Bool renaming true->ζ,false->η
open True renaming intro->θ
open Option renaming bind->abd
namespace Go.AM
open Go.Proofs
open Tryz
attribute [local irreducible] AWN NS AWO AWR AWC DR DZ cB eZ iter
set_option maxRecDepth 100000
set_option maxHeartbeats 40000000
variable{a0 a1:Int}{r:Go.AM.bj}
def Cz(a0:Int)(a1:Int)(a2:Int)(a3:List Int):Option bR:=
 abd (nu a0 (WR ((WR (2*a2))+a1))) λr1=>abd (yK r1 a3) λr2=>abd (z6 a0 (⟨a1,a2,r2,0⟩:bR)) λr3=>ς (⟨a1,a2,r2,r3⟩:bR)
instance Yx{a2:Int}{a3:List Int}{r:bR}:FC prog (Cz a0 a1 a2 a3=ς r) 152 [aI a0,aI a1,aI a2,aL (a3.map eU8)] [.agg (qM [.o] (zx r))]:=gG func152 ntmps152
def qB(a0:Int)(a1:Int)(a2:Int)(a3:ae):Option aD:=
 abd (pJ a0 a2) λr1=>abd (Cz r1 1 a3.cZ a3.bb) λr2=>ς (⟨a1,a2,r2⟩:aD)
instance VP{a2:Int}{a3:ae}{r:aD}:FC prog (qB a0 a1 a2 a3=ς r) 123 [aI a0,aI a1,aI a2,.agg (aX a3)] [.agg (qM [.o] (sE r))]:=gG func123 ntmps123 (hz 1)
def vl(a0:ah)(a1:ae):Option aD:=
 abd (qB a0.aY a0.ag a0.bi a1) λr1=>ς r1
instance KY{a0:ah}{a1:ae}{r:aD}:FC prog (vl a0 a1=ς r) 171 [.agg (cO a0),.agg (aX a1)] [.agg (qM [.o] (sE r))]:=gG func171 ntmps171
def iF(a0:ah):(Int×List aD)->Option (ct (Int×List aD) (List aD))
 |(v1,v2)=>abd (cond (ltB v1 (a0.ax.aG.length:Int)) (cond (ltB v1 2) (ς (eqB a0.bB 1)) (ς η)) (ς η)) λ(v7:Bool)=>cond v7 (abd (ix a0.ax.aG v1) λx8=>abd (vl a0 x8) λr9=>cond (cW 64 (v2++[r9]).length) (ς (.next (WR (v1+1),(v2++[r9])))) ξ) (ς (.done v2))
def lI(a0:ah):Option (List aD):=
 abd (iter (iF a0) FU (0,([]:List aD))) λ(v6:List aD)=>ς v6
instance wP{a0:ah}{r:List aD}:FC prog (lI a0=ς r) 141 [.agg (cO a0)] [.c (.own 69 6 (r.map d4) r.length)]:=gG func141 ntmps141 (hL 0 (λ(v:Int×List aD) sl ob nx=>⟨(3,.v (.c (.w 1 v.2.length)))::(4,tI v.1)::xS [1] sl,[(1,w69 v.2)]++ob,nx⟩)) (hB 0 (λ(v:List aD) sl ob nx=>⟨(3,.v (.c (.w 1 v.length)))::(4,.any)::xS [1] sl,[(1,w69 v)]++ob,nx⟩)) (hb 12 20) (hx 31) (hz 5)
def mL(a0:Int)(a1:aD):Option Bool:=
 abd (jl a1.bz) λr1=>abd (cond r1 (cond (eqB a1.bz.dE 1) (abd (pJ a0 a1.bi) λr3=>abd (qD r3 a1.bz) λr4=>ς r4) (ς η)) (ς η)) λ(v2:Bool)=>ς v2
instance ST{a1:aD}{r:Bool}:FC prog (mL a0 a1=ς r) 160 [aI a0,.agg (d4 a1)] [.c (.d (.b r))]:=gG func160 ntmps160 (hb 8 4)
def xu(a0:Int)(a1:Int)(a2:Int)(a3:bR):Option (List Int×Int×Bool):=
 abd (jl a3) λr1=>abd (cond (!r1) (ς ζ) (cond (!eqB a3.dE a1) (ς ζ) (abd (qD a0 a3) λr3=>cond (!r3) (ς ζ) (ς (leB a3.ga a2))))) λ(v2:Bool)=>cond v2 (ς (([]:List Int),a2,η)) (abd (nu a0 (WR ((WR (2*a3.ga))+a3.dE))) λr4=>abd (yJ r4 a3.bb) λr5=>ς (r5,a3.ga,ζ))
instance VS{a2:Int}{a3:bR}{r:List Int×Int×Bool}:FC prog (xu a0 a1 a2 a3=ς r) 210 [aI a0,aI a1,aI a2,.agg (f9 a3)] [.c (.own 5 1 (r.1.map eU8) r.1.length),.c (.d (.i .i64 r.2.1)),.c (.d (.b r.2.2))]:=gG func210 ntmps210 (hb 14 31)
def t9(a0:Int)(a1:Int)(a2:Int)(a3:aD):Option (ae×Bool):=
 abd (cond (!eqB a3.ag a1) (ς ζ) (cond (!eqB a3.bi a2) (ς ζ) (abd (mL a0 a3) λr2=>ς (!r2)))) λ(v1:Bool)=>cond v1 (ς (kB,η)) (abd (pJ a0 a2) λr3=>abd (xu r3 1 0 a3.bz) λr4=>ς ((⟨r4.2.1,r4.1⟩:ae),r4.2.2))
instance VO{a2:Int}{a3:aD}{r:ae×Bool}:FC prog (t9 a0 a1 a2 a3=ς r) 181 [aI a0,aI a1,aI a2,.agg (d4 a3)] [.agg (qM [.d] (eW r.1)),.c (.d (.b r.2))]:=gG func181 ntmps181 (hb 17 28)
def nP(a0:aC)(a1:aD):Option bj:=
 abd (t9 a0.aY a0.ag a0.bi a1) λr1=>abd (cond (!eqB a0.bB 2) (ς ζ) (ς (!r1.2))) λ(v2:Bool)=>cond v2 (abd (qF a0) λr3=>ς r3) (abd (iH a0) λr4=>abd (mE a0.bg r1.1) λr5=>abd (iL a0.aY (⟨8,a0.bv,a0.ag,a0.bi,r5.bC,df,0⟩:aM)) λr6=>ς (⟨{r4 with bg:=r5},[r6]⟩:bj))
instance Pt{a0:aC}{a1:aD} :FC prog (nP a0 a1=ς r) 144 [.agg (di a0),.agg (d4 a1)] [.agg (qM [.d,.o,.o] (eb r))]:=gG func144 ntmps144 (hb 23 26)
def wb(a0:aC)(a1:aM):Option bj:=
 abd (kJ a0.dx a1.bY) λr1=>abd (iH a0) λr2=>cond (!eqB r1.2.Code 0) (ς (⟨r2,([]:List aM)⟩:bj)) (ς (⟨{r2 with dx:=r1.1,ag:=a1.ag,aY:=r1.2.wW},[(⟨3,a0.bv,a1.ag,0,r1.2.wy,df,0⟩:aM)]⟩:bj))
instance WZ{a0:aC}{a1:aM} :FC prog (wb a0 a1=ς r) 183 [.agg (di a0),.agg (eB a1)] [.agg (qM [.o,.o,.o] (eb r))]:=gG func183 ntmps183
def mF(a0:aC)(a1:aM):Option bj:=
 abd (jX a1) λr1=>abd (cond (!r1) (ς ζ) (cond (!eqB a1.bv a0.bv) (ς ζ) (ς (eqB a0.bB 0)))) λ(v2:Bool)=>cond v2 (abd (qF a0) λr3=>ς r3) (abd (iH a0) λr4=>abd (cond (eqB a1.bk 2) (ς (eqB a0.bB 1)) (ς η)) λ(v5:Bool)=>cond v5 (abd (wb a0 a1) λr6=>ς r6) (abd (cond (eqB a1.bk 4) (cond (eqB a0.bB 1) (abd (f5 a0.aY) λr8=>cond r8 (cond (eqB a1.ag a0.ag) (abd (f7 a0.aY a1) λr9=>ς r9) (ς η)) (ς η)) (ς η)) (ς η)) λ(v7:Bool)=>cond v7 (ς (⟨{r4 with bB:=2,bi:=a1.bi,dr:=ζ},([]:List aM)⟩:bj)) (abd (cond (eqB a1.bk 6) (cond (eqB a0.bB 2) (cond (eqB a1.ag a0.ag) (cond (eqB a1.bi a0.bi) (abd (f7 a0.aY a1) λr11=>ς r11) (ς η)) (ς η)) (ς η)) (ς η)) λ(v10:Bool)=>cond v10 (ς (⟨{r4 with dr:=ζ},([]:List aM)⟩:bj)) (abd (cond (eqB a1.bk 7) (cond (eqB a0.bB 3) (ς (ltB a0.bi 999999)) (ς η)) (ς η)) λ(v12:Bool)=>cond v12 (abd (vi {r4 with bB:=2}) λr13=>ς r13) (abd (cond (eqB a1.bk 7) (ς (eqB a0.bB 2)) (ς η)) λ(v14:Bool)=>cond v14 (abd (tq a0) λr15=>abd (lc {r4 with dr:=η} r15) λr16=>ς r16) (ς (⟨r4,([]:List aM)⟩:bj)))))))
instance OW{a0:aC}{a1:aM} :FC prog (mF a0 a1=ς r) 145 [.agg (di a0),.agg (eB a1)] [.agg (qM [.d,.d,.o] (eb r))]:=gG func145 ntmps145 (hb 9 20) (hb 29 25) (hb 41 37) (hb 73 69) (hb 103 99) (hb 120 116) (hz 17)
def rv(a0:aC)(a1:Int):Option bj:=
 abd (cond (eqB a1 a0.bv) (ς ζ) (abd (cQ a1 0 5) λr2=>ς (!r2))) λ(v1:Bool)=>cond v1 (abd (qF a0) λr3=>ς r3) (abd (iH a0) λr4=>abd (cond (eqB a0.bB 2) (ς (ltB a0.bi 999999)) (ς η)) λ(v5:Bool)=>cond v5 (abd (vi {r4 with bv:=a1}) λr6=>ς r6) (ς (⟨{r4 with bv:=a1},([]:List aM)⟩:bj)))
instance Uh{a0:aC} :FC prog (rv a0 a1=ς r) 91 [.agg (di a0),aI a1] [.agg (qM [.d,.d,.o] (eb r))]:=gG func91 ntmps91 (hb 10 14) (hb 24 28)
def A2(a0:ab)(a1:cY):Option (Bool×ab):=
 abd (cQ a1.cV 0 (WR ((a0.aj.length:Int)-1))) λr1=>cond (!r1) (ς (η,a0)) (abd (ix a0.aj a1.cV) λx2=>cond (eqB a1.bk 5) (cond (!eqB x2.bB 0) (ς (η,a0)) (abd (vd x2) λr3=>abd (ic a0 a1.cV r3) λr4=>ς (ζ,r4))) (cond (eqB a1.bk 6) (abd (cond (eqB a1.bv x2.bv) (ς ζ) (abd (cQ a1.bv 0 (WR ((a0.dV.bp.length:Int)-1))) λr6=>ς (!r6))) λ(v5:Bool)=>cond v5 (ς (η,a0)) (abd (rv x2 a1.bv) λr7=>abd (ic a0 a1.cV r7) λr8=>ς (ζ,r8))) (cond (eqB a1.bk 7) (cond (!eqB x2.bB 2) (ς (η,a0)) (abd (t0 x2) λr9=>abd (ix a0.aj a1.cV) λx10=>ς (ζ,{a0 with aj:=(a0.aj.set (a1.cV).toNat r9)}))) (abd (ix a0.an a1.cV) λx11=>abd (kY x11 a1.bb) λr12=>abd (ix a0.an a1.cV) λx13=>ς (r12.2,{a0 with an:=(a0.an.set (a1.cV).toNat r12.1)})))))
instance sl33Own_c{a0:ab}{a1:cY}{r:Bool×ab}:FCV prog (A2 a0 a1=ς r) 55 (nS a0) [tP 200,.v (.agg (kM [.t,.t] (lg a1)))] (nS r.2) (.v (.c (.d η (.b r.1)))) []:=gV func55 ntmps55 (hb 67 79) (hz 20) (hz 7) (hz 6)
end Go.AM
