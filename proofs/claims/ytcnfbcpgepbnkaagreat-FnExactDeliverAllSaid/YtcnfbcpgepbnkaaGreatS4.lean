/- A part. -/
import Derived.Test.YtcnfbcpgepbnkaaGreatS0
import Derived.Test.YtcnfbcpgepbnkaaGreatS1
import Derived.Test.YtcnfbcpgepbnkaaGreatS2
set_option linter.unusedVariables false
open Option renaming some->ς,none->ξ
open Bool renaming true->ζ,false->η
open True renaming intro->θ
open Option renaming bind->abX
namespace Go.AM
open Go.Proofs
open Tryz
attribute [local irreducible] AWN NS AWO AWR AWC DR DZ cp ec iter
set_option maxRecDepth 100000
set_option maxHeartbeats 40000000
variable{a0 a1:Int}{r:Bool}
def i9(a0:an):Int->Option (bN (Int) (Bool))
 |v1=>cond (ltB v1 (a0.aG.length:Int)) (abX (ix a0.aG v1) λx2=>abX (cond (ltB x2.bi 0) (ς ζ) (abX (ix a0.aG v1) λx4=>abX (cX x4.dX 1 100000) λr5=>cond (!r5) (ς ζ) (cond (ltB 0 v1) (abX (ix a0.aG (WR (v1-1))) λx6=>abX (ix a0.aG v1) λx7=>ς (leB x7.bi x6.bi)) (ς η)))) λ(v3:Bool)=>cond v3 (dn (ς η)) (ς (.next (WR (v1+1))))) (dn (abX (cX a0.jf 0 100000) λr8=>abX (cond r8 (abX (cX a0.er 0 a0.jf) λr10=>cond r10 (abX (cX a0.pv 0 a0.jf) λr11=>cond r11 (cond (leB (a0.aG.length:Int) 8) (abX (ot a0) λr12=>ς (eqB (WR ((WR (a0.er+a0.pv))+r12)) a0.jf)) (ς η)) (ς η)) (ς η)) (ς η)) λ(v9:Bool)=>ς v9))
def ju(a0:an):Option Bool:=
 iter (i9 a0) FU 0
instance Pu{a0:an} :FC prog (ju a0=ς r) 128 [.agg (bu a0)] [.c (.d (.b r))]:=gG func128 ntmps128 (hl 0 3) (hb 18 47) (hb 51 2)
def gN(a0:an)(a1:cU):Option Bool:=
 abX (ju a0) λr1=>abX (cond r1 (abX (gY a1) λr3=>cond r3 (abX (qt a0 a1.bi) λr4=>ς (eqB r4 a1.dg)) (ς η)) (ς η)) λ(v2:Bool)=>ς v2
instance IL{a0:an}{a1:cU} :FC prog (gN a0 a1=ς r) 129 [.agg (bu a0),.agg (mJ a1)] [.c (.d (.b r))]:=gG func129 ntmps129 (hb 7 4)
def xO(a0:ae)(a1:Int):Option Bool:=
 abX (YD (a0.gr.bD.length:Int) 6) λr1=>abX (cX a1 0 (WR (r1-1))) λr2=>abX (cond r2 (cond (leB 0 a1) (ς (eqB (SN .i64 (W2 .i64 a0.dy a1) 1) 0)) ξ) (ς η)) λ(v3:Bool)=>ς v3
instance ZG{a0:ae} :FC prog (xO a0 a1=ς r) 131 [.agg (ev a0),aI a1] [.c (.d (.b r))]:=gG func131 ntmps131 (hb 13 4)
def kz(a0:Int)(a1:Int)(a2:Int):Option bL:=
 abX (cX a2 0 999999) λr1=>cond (!r1) (ς cF) (abX (lH a0 a1) λr2=>abX (FY (WR (a2+r2)) 1000000) λr3=>abX (eo a0 [2,a1,a2]) λr4=>abX (eo a0 [3,a1]) λr5=>abX (eo a0 [4,a1,a2]) λr6=>abX (Vp 1 r6) λr7=>ς (⟨a1,r3,r4,r5,r7⟩:bL))
instance Ru{a2:Int}{r:bL}:FC prog (kz a0 a1 a2=ς r) 333 [aI a0,aI a1,aI a2] [.agg (qM [] (mL r))]:=gG func333 ntmps333
def pU(a0:be)(a1:Int):Option (be×bL):=
 abX (eg a0) λr1=>abX (cond (!r1) (ς ζ) (ς (eqB a0.cP 999999))) λ(v2:Bool)=>cond v2 (ς (a0,cF)) (abX (kz a0.fg a1 (WR (a0.cP+1))) λr3=>ς ({a0 with cP:=WR (a0.cP+1)},r3))
instance Py{a0:be}{r:be×bL}:FC prog (pU a0 a1=ς r) 288 [.agg (ei a0),aI a1] [.agg (qM [] (mh r.1)),.agg (qM [] (mL r.2))]:=gG func288 ntmps288 (hb 10 14) (hz 5)
def rQ(a0:Int)(a1:Int):Option Int:=
 abX (eo a0 [9,a1]) λr1=>abX (Vp 1 r1) λr2=>ς r2
instance YC{r:Int}:FC prog (rQ a0 a1=ς r) 338 [aI a0,aI a1] [.c (.d (.i .i64 r))]:=gG func338 ntmps338
def ky(a1:eu):(Int×Int)->Option (bN (Int×Int) (Int))
 |(v1,v2)=>cond (ltB v2 (a1.Steps.length:Int)) (abX (ix a1.Steps v2) λx6=>abX (rQ v1 x6) λr7=>ς (.next (r7,WR (v2+1)))) (ς (.done v1))
def pC(a0:Int)(a1:eu):Option Int:=
 abX (iter (ky a1) FU (a0,0)) λ(v5:Int)=>ς v5
instance WN{a1:eu}{r:Int}:FC prog (pC a0 a1=ς r) 339 [aI a0,.agg (Gh a1)] [.c (.d (.i .i64 r))]:=gG func339 ntmps339 (hm 0 5 6) (he 0 5 6)
def rS(a0:Int)(a1:ar):Option Int:=
 abX (oo) λr1=>abX (pC a0 r1) λr2=>abX (eo r2 [23,a1.d9,a1.bJ,a1.ak,a1.aU,a1.bW]) λr3=>ς r3
instance YF{a1:ar}{r:Int}:FC prog (rS a0 a1=ς r) 299 [aI a0,.agg (cb a1)] [.c (.d (.i .i64 r))]:=gG func299 ntmps299
def mE(a0:Int)(a1:ar):Option ar:=
 abX (rS a0 a1) λr1=>ς {a1 with mu:=r1}
instance WO{a1:ar}{r:ar}:FC prog (mE a0 a1=ς r) 217 [aI a0,.agg (cb a1)] [.agg (qM [] (fH r))]:=gG func217 ntmps217
def rZ(a0:ag)(a1:Int):Option aP:=
 abX (mE a0.bj (⟨a1,a0.bJ,a0.ak,a0.aU,0,cF,0⟩:ar)) λr1=>ς (⟨a0,[r1]⟩:aP)
instance YK{a0:ag}{r:aP}:FCV prog (rZ a0 a1=ς r) 291 [] [.v (.agg (kM [.f,.f,.f] (gp a0))),tI a1] [] (.v (.agg (kM [.f,.f,.f,.w 210] (bP r)))) [(210,w147 r.dQ)]:=gV func291 ntmps291 (hz 2)
def jF(a0:Int)(a1:ar):Option Bool:=
 abX (rS a0 a1) λr1=>ς (eqB a1.mu r1)
instance Sm{a1:ar} :FC prog (jF a0 a1=ς r) 219 [aI a0,.agg (cb a1)] [.c (.d (.b r))]:=gG func219 ntmps219
def t7(a0:ag)(a1:ar):Option Bool:=
 abX (cond (eqB a0.bV 1) (cond (eqB a1.ak a0.ak) (abX (jF a0.bj a1) λr2=>ς r2) (ς η)) (ς η)) λ(v1:Bool)=>ς v1
instance ZN{a0:ag}{a1:ar} :FC prog (t7 a0 a1=ς r) 292 [.agg (aB a0),.agg (cb a1)] [.c (.d (.b r))]:=gG func292 ntmps292 (hb 8 4)
def tZ(a0:Int)(a1:Int):Option Int:=
 abX (tp a1) λr1=>abX (pC a0 r1) λr2=>ς r2
instance ZH{r:Int}:FC prog (tZ a0 a1=ς r) 297 [aI a0,aI a1] [.c (.d (.i .i64 r))]:=gG func297 ntmps297
def lk(a0:ik)(a1:bL):Option (ik×eU):=
 abX (og a0) λr1=>cond (!r1) (ς (a0,{gj with Code:=1})) (abX (pk a0.fg a0.dE a1) λr2=>cond (eqB r2 0) (abX (jw a0.fg a1.dT a1.fK) λr3=>abX (eo a0.fg [3,a1.dT]) λr4=>abX (kz a0.fg a1.dT r3) λr5=>ς ({a0 with dE:=r3},{gj with A2:=r4,ue:=r5.fg})) (abX (cond (eqB r2 2) (ς (eqB r2 2)) (ς (eqB r2 3))) λ(v6:Bool)=>cond v6 (abX (qv a0.fg a1.dT a0.dE) λr7=>ς (a0,{gj with Code:=r2,Sx:=r7})) (ς (a0,{gj with Code:=r2}))))
instance Jk{a0:ik}{a1:bL}{r:ik×eU}:FC prog (lk a0 a1=ς r) 300 [.agg (yS a0),.agg (fM a1)] [.agg (qM [] (HM r.1)),.agg (qM [] (qS r.2))]:=gG func300 ntmps300 (hz 9) (hc 48 48) (hz 12)
def xc(a0:av):Option ar:=
 abX (mE a0.bj (⟨5,a0.bJ,a0.ak,a0.aU,0,cF,0⟩:ar)) λr1=>ς r1
instance sl29Path_c{a0:av}{r:ar}:FC prog (xc a0=ς r) 222 [.agg (aZ a0)] [.agg (qM [] (fH r))]:=gG func222 ntmps222
def AN(a0:av):Option aK:=
 abX (xc {a0 with aU:=WR (a0.aU+1),bZ:=η}) λr1=>abX (xe {a0 with aU:=WR (a0.aU+1),bZ:=η} r1) λr2=>ς r2
instance sl29Next_c{a0:av}{r:aK}:FCV prog (AN a0=ς r) 220 [] [.v (.agg (kM [.f,.f] (gv a0)))] [] (.v (.agg (kM [.f,.f,.w 210] (cd r)))) [(210,w147 r.dQ)]:=gV func220 ntmps220 (hz 3)
end Go.AM
