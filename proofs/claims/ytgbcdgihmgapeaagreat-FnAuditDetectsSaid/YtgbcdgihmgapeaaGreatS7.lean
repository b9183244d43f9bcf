/- A part. -/
import Derived.Test.YtgbcdgihmgapeaaGreatS0
import Derived.Test.YtgbcdgihmgapeaaGreatS1
import Derived.Test.YtgbcdgihmgapeaaGreatS2
import Derived.Test.YtgbcdgihmgapeaaGreatS3
import Derived.Test.YtgbcdgihmgapeaaGreatS4
set_option linter.unusedVariables false
open Option renaming some->ς,none->ξ
open Bool renaming true->ζ,false->η
open True renaming intro->θ
open Option renaming bind->abd
namespace Go.AM
open Go.Proofs
open Tryz
attribute [local irreducible] AWN NS AWO AWR AWC DR DZ cB eZ iter
set_option maxRecDepth 100000
set_option maxHeartbeats 40000000
variable{a0:Go.AM.am}
def iU(a0:am):Int->Option (ct (Int) (Bool))
 |v1=>cond (ltB v1 (a0.aH.length:Int)) (abd (ix a0.aH v1) λx2=>abd (cond (ltB x2.aA 0) (ς ζ) (abd (ix a0.aH v1) λx4=>abd (cQ x4.dO 1 100000) λr5=>cond (!r5) (ς ζ) (cond (ltB 0 v1) (abd (ix a0.aH (WR (v1-1))) λx6=>abd (ix a0.aH v1) λx7=>ς (leB x7.aA x6.aA)) (ς η)))) λ(v3:Bool)=>cond v3 (dn (ς η)) (ς (.next (WR (v1+1))))) (dn (abd (cQ a0.fJ 0 100000) λr8=>abd (cond r8 (abd (cQ a0.bm 0 a0.fJ) λr10=>cond r10 (abd (cQ a0.dv 0 a0.fJ) λr11=>cond r11 (cond (leB (a0.aH.length:Int) 8) (abd (mJ a0) λr12=>ς (eqB (WR ((WR (a0.bm+a0.dv))+r12)) a0.fJ)) (ς η)) (ς η)) (ς η)) (ς η)) λ(v9:Bool)=>ς v9))
def fT(a0:am):Option Bool:=
 iter (iU a0) FU 0
instance MV{r:Bool}:FC prog (fT a0=ς r) 83 [.agg (cS a0)] [.c (.d (.b r))]:=gG func83 ntmps83 (hl 0 3) (hb 18 47) (hb 51 2)
def eE(a0:am)(a1:cU):Option Bool:=
 abd (fT a0) λr1=>abd (cond r1 (abd (f6 a1) λr3=>cond r3 (abd (mH a0 a1.aA) λr4=>ς (eqB r4 a1.cT)) (ς η)) (ς η)) λ(v2:Bool)=>ς v2
instance Gf{a1:cU}{r:Bool}:FC prog (eE a0 a1=ς r) 84 [.agg (cS a0),.agg (o8 a1)] [.c (.d (.b r))]:=gG func84 ntmps84 (hb 7 4)
def Ga(a0:am)(a1:Int)(a2:Int):Option (am×Bool):=
 abd (lb a0) λr1=>abd (fT a0) λr2=>abd (cond (!r2) (ς ζ) (abd (mH a0 a1) λr4=>abd (cQ a2 0 r4) λr5=>ς (!r5))) λ(v3:Bool)=>cond v3 (ς (r1,η)) (abd (cond (ltB 0 a2) (abd (oy a0 a1) λr9=>abd (A0 a0.aH r9 a2) λr10=>ς {r1 with dv:=WR (a0.dv+a2),aH:=r10}) (ς r1)) λ(v8:am)=>ς (v8,ζ))
instance sDebit_c{a1:Int}{a2:Int}{r:am×Bool}:FC prog (Ga a0 a1 a2=ς r) 169 [.agg (cS a0),aI a1,aI a2] [.agg (qM [.o] (eO r.1)),.c (.d (.b r.2))]:=gG func169 ntmps169 (hb 14 21) (hC 24 (λ(v:am) sl ob nx=>⟨xS [4,2] sl,oM [.w 4] 3 55 (eO v)++fO [2] ob,5⟩)) (hz 6)
def pu(a0:am)(a1:cU):Option (am×cU):=
 abd (eE a0 a1) λr1=>cond (!r1) (abd (lb a0) λr2=>ς (r2,a1)) (abd (Ga a0 a1.aA a1.dW) λr3=>ς (r3.1,(⟨a1.aA,WR (a1.cT-a1.dW),0⟩:cU)))
instance CB{a1:cU}{r:am×cU}:FC prog (pu a0 a1=ς r) 139 [.agg (cS a0),.agg (o8 a1)] [.agg (qM [.o] (eO r.1)),.agg (qM [] (Fj r.2))]:=gG func139 ntmps139 (hz 2) (hz 4)
def yL(a0:am)(a1:Int)(a2:Int):Option (am×Int):=
 abd (lb a0) λr1=>abd (fT a0) λr2=>abd (cond (!r2) (ς ζ) (cond (ltB a1 0) (ς ζ) (abd (cQ a2 1 100000) λr4=>cond (!r4) (ς ζ) (cond (eqB a0.bm 0) (ς ζ) (cond (leB 8 (a0.aH.length:Int)) (abd (oy a0 a1) λr5=>ς (ltB r5 0)) (ς η)))))) λ(v3:Bool)=>cond v3 (ς (r1,0)) (abd (Cy a2 a0.bm) λr6=>abd (AZ a0.aH a1 r6) λr7=>ς ({r1 with bm:=WR (a0.bm-r6),aH:=r7},r6))
instance Yy{a1:Int}{a2:Int}{r:am×Int}:FC prog (yL a0 a1 a2=ς r) 219 [.agg (cS a0),aI a1,aI a2] [.agg (qM [.o] (eO r.1)),.c (.d (.i .i64 r.2))]:=gG func219 ntmps219 (hb 14 39)
def nQ(a0:am)(a1:cU)(a2:Int):Option (am×cU):=
 abd (yL a0 a1.aA a2) λr1=>abd (eE a0 a1) λr2=>abd (cond (!r2) (ς ζ) (abd (f6 {a1 with cT:=WR (a1.cT+r1.2)}) λr4=>ς (!r4))) λ(v3:Bool)=>cond v3 (abd (lb a0) λr5=>ς (r5,a1)) (ς (r1.1,{a1 with cT:=WR (a1.cT+r1.2)}))
instance Pu{a1:cU}{a2:Int}{r:am×cU}:FC prog (nQ a0 a1 a2=ς r) 202 [.agg (cS a0),.agg (o8 a1),aI a2] [.agg (qM [.o] (eO r.1)),.agg (qM [] (Fj r.2))]:=gG func202 ntmps202 (hb 29 33) (hz 5) (hz 6)
def th(a0:ab)(a1:Int):Option Bool:=
 abd (Cy (a0.dV.bp.length:Int) 6) λr1=>abd (cQ a1 0 (WR (r1-1))) λr2=>abd (cond r2 (cond (leB 0 a1) (ς (eqB (zo .i64 (E9 .i64 a0.cX a1) 1) 0)) ξ) (ς η)) λ(v3:Bool)=>ς v3
instance WQ{a0:ab}{a1:Int}{r:Bool}:FC prog (th a0 a1=ς r) 93 [.agg (fK a0),aI a1] [.c (.d (.b r))]:=gG func93 ntmps93 (hb 13 4)
def yX(a0:ab)(a1:Int)(a2:Bool):Option (Bool×ab):=
 abd (cQ a1 0 (WR ((a0.dV.bp.length:Int)-1))) λr1=>abd (cond (!r1) (ς ζ) (abd (th a0 a1) λr3=>ς (booB r3 a2))) λ(v2:Bool)=>cond v2 (ς (η,a0)) (cond (leB 0 a1) (ς (ζ,{a0 with cX:=GY .i64 a0.cX (lO .i64 1 a1)})) ξ)
instance YQ{a0:ab}{a1:Int}{a2:Bool}{r:Bool×ab}:FCV prog (yX a0 a1 a2=ς r) 56 (nS a0) [tP 200,tI a1,tB a2] (nS r.2) (.v (.c (.d η (.b r.1)))) []:=gV func56 ntmps56 (hb 17 25) (hz 3)
def mw(a0:aV)(v1:Int)(x2:fk):Int->Option (ct (Int) (ct (Int) (Bool)))
 |v4=>cond (ltB v4 (x2.cy.length:Int)) (abd (ix x2.cy v4) λx5=>abd (cQ x5 0 (WR ((a0.bp.length:Int)-1))) λr6=>abd (cond (!r6) (ς ζ) (cond (eqB x5 v1) (ς ζ) (cond (ltB 0 v4) (abd (ix x2.cy (WR (v4-1))) λx8=>cond (leB x5 x8) (ς ζ) (abd (ix a0.bp x5) λx9=>abd (yR x9.cy v1) λr10=>ς (!r10))) (abd (ix a0.bp x5) λx11=>abd (yR x11.cy v1) λr12=>ς (!r12))))) λ(v7:Bool)=>cond v7 (dn (dn (ς η))) (ς (.next (WR (v4+1))))) (dn (ς (.next (WR (v1+1)))))
def mu(a0:aV):Int->Option (ct (Int) (Bool))
 |v1=>cond (ltB v1 (a0.bp.length:Int)) (abd (ix a0.bp v1) λx2=>abd (cQ x2.gB 0 2) λr3=>cond (!r3) (dn (ς η)) (iter (mw a0 v1 x2) FU 0)) (dn (abd (cQ (a0.bp.length:Int) 1 6) λr13=>ς r13))
def ot(a0:aV):Option Bool:=
 iter (mu a0) FU 0
instance Uf{a0:aV}{r:Bool}:FC prog (ot a0=ς r) 49 [.agg (js a0)] [.c (.d (.b r))]:=gG func49 ntmps49 (hl 0 3) (hl 2 5) (hb 42 71)
def mA(a0:aV)(a1:List aF)(a2:bK)(a3:Int):(Int×List am×List ah×List aC)->Option (ct (Int×List am×List ah×List aC) (List am×List ah×List aC))
 |(v6,v7,v8,v9)=>cond (ltB v6 (a1.length:Int)) (abd (ix a1 v6) λx17=>cond (!eqB (a0.bp.length:Int) 0) (abd (xt (⟨x17.ID,x17.eV,x17.cZ⟩:lN) (Int.tmod v6 (a0.bp.length:Int))) λr18=>cond (cW 144 (v9++[{r18 with bg:={dy with bC:=r18.bg.bC}}]).length) (abd (rA x17 a2 v6) λr19=>cond (cW 288 (v8++[{r19 with av:=[],ax:=(⟨r19.ax.bC,[]⟩:bu)}]).length) (abd (rx a3) λr20=>cond (cW 48 (v7++[{r20 with aH:=[]}]).length) (ς (.next (WR (v6+1),(v7++[{r20 with aH:=[]}]),(v8++[{r19 with av:=[],ax:=(⟨r19.ax.bC,[]⟩:bu)}]),(v9++[{r18 with bg:={dy with bC:=r18.bg.bC}}])))) ξ) ξ) ξ) ξ) (ς (.done (v7,v8,v9)))
def ry(a0:aV)(a1:List aF)(a2:bK)(a3:Int):Option ab:=
 abd (ot a0) λr1=>abd (cond (!r1) (ς ζ) (abd (fB a2) λr3=>cond (!r3) (ς ζ) (abd (rO a1) λr4=>ς (!r4)))) λ(v2:Bool)=>cond v2 (ς {dh with dV:=(⟨[]⟩:aV)}) (abd (ox a0) λr5=>abd (iter (mA a0 a1 a2 a3) FU (0,([]:List am),([]:List ah),([]:List aC))) λ((v14,v15,v16):List am×List ah×List aC)=>ς (⟨r5,v16,v15,v14,[],0,(⟨2,3⟩:bW),0,0⟩:ab))
instance wO{a0:aV}{a1:List aF}{a2:bK}{a3:Int}{r:ab}:FCV prog (ry a0 a1 a2 a3=ς r) 68 [] [.v (.agg [.d η (.l (a0.bp.map fP))]),.v (.c (.d η (.l (a1.map dR)))),.v (.agg (kM [.f] (qc a2))),tI a3] [] (.v (.agg (kM [.n 210,.n 211,.n 212,.n 213,.z] (aS {r with aZ:=[]})))) [(210,N9 r.dV.bp),(211,n45 r.aj),(212,n87 r.an),(213,n55 r.aU)]:=gV func68 ntmps68 (hb 15 24) (hL 0 (λ(v:Int×List am×List ah×List aC) sl ob nx=>⟨(10,tI v.1)::xS [217,216,215,213] sl,[(215,n45 v.2.2.2),(216,n87 v.2.2.1),(217,n55 v.2.1)]++(uC 214 1 [.wn 215 v.2.2.2.length,.wn 216 v.2.2.1.length,.wn 217 v.2.1.length] ob),218⟩)) (hB 0 (λ(v:List am×List ah×List aC) sl ob nx=>⟨(10,.any)::xS [217,216,215,213] sl,[(215,n45 v.2.2),(216,n87 v.2.1),(217,n55 v.1)]++(uC 214 1 [.wn 215 v.2.2.length,.wn 216 v.2.1.length,.wn 217 v.1.length] ob),218⟩)) (hz 10) (hx 63) (hz 9) (hz 8)
end Go.AM
