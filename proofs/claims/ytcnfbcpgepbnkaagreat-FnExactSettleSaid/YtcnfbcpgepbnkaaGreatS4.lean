/- A part. -/
import Derived.Test.YtcnfbcpgepbnkaaGreatS0
import Derived.Test.YtcnfbcpgepbnkaaGreatS1
import Derived.Test.YtcnfbcpgepbnkaaGreatS2
set_option linter.unusedVariables false
open Option renaming some->ς,none->ξ
open Bool renaming true->ζ,false->η
open True renaming intro->θ
open Option renaming bind->aeP
namespace Go.AM
open Go.Proofs
open Tryz
attribute [local irreducible] AWN NS AWO AWR AWC DR DZ cO eB iter
set_option maxRecDepth 100000
set_option maxHeartbeats 40000000
variable{a0 a1:Int}{r:Bool}
def pk(a0:aU)(v1:Int)(x2:cZ):Int->Option (bJ (Int) (bJ (Int) (Bool)))
 |v4=>cond (ltB v4 (x2.b7.length:Int)) (aeP (ix x2.b7 v4) λx5=>aeP (dt x5 0 (WR ((a0.bh.length:Int)-1))) λr6=>aeP (cond (!r6) (ς ζ) (cond (eqB x5 v1) (ς ζ) (cond (ltB 0 v4) (aeP (ix x2.b7 (WR (v4-1))) λx8=>cond (leB x5 x8) (ς ζ) (aeP (ix a0.bh x5) λx9=>aeP (GL x9.b7 v1) λr10=>ς (!r10))) (aeP (ix a0.bh x5) λx11=>aeP (GL x11.b7 v1) λr12=>ς (!r12))))) λ(v7:Bool)=>cond v7 (dn (dn (ς η))) (ς (.next (WR (v4+1))))) (dn (ς (.next (WR (v1+1)))))
def pj(a0:aU):Int->Option (bJ (Int) (Bool))
 |v1=>cond (ltB v1 (a0.bh.length:Int)) (aeP (ix a0.bh v1) λx2=>aeP (dt x2.eO 0 2) λr3=>cond (!r3) (dn (ς η)) (iter (pk a0 v1 x2) FU 0)) (dn (aeP (dt (a0.bh.length:Int) 1 6) λr13=>ς r13))
def vc(a0:aU):Option Bool:=
 iter (pj a0) FU 0
instance aaO{a0:aU} :FC prog (vc a0=ς r) 67 [.agg (eh a0)] [.c (.d (.b r))]:=gG func67 ntmps67 (hl 0 3) (hl 2 5) (hb 42 71)
def kS(a0:ag):Int->Option (bJ (Int) (Bool))
 |v5=>cond (ltB v5 (a0.aC.ar.length:Int)) (aeP (ix a0.aC.ar v5) λx6=>aeP (ix a0.aS (WR (x6.df-1))) λx7=>aeP (z6 x6.be x7.be) λr8=>cond (!r8) (dn (ς η)) (ς (.next (WR (v5+1))))) (dn (aeP (qc a0.aC.ar) λr9=>aeP (kJ a0.bM) λr10=>ς (leB r9 r10)))
def qF(a0:ag):Int->Option (bJ (Int) (Bool))
 |v1=>cond (ltB v1 (a0.aS.length:Int)) (aeP (ix a0.aS v1) λx2=>cond (ltB 60 (x2.be.length:Int)) (dn (ς η)) (ς (.next (WR (v1+1))))) (dn (aeP (cond (ltB 24 (a0.aS.length:Int)) (ς ζ) (aeP (lM a0.aC) λr4=>cond (!r4) (ς ζ) (ς (ltB (WR ((a0.aS.length:Int)+1)) a0.aC.bw)))) λ(v3:Bool)=>cond v3 (ς η) (iter (kS a0) FU 0)))
def yg(a0:ag):Option Bool:=
 iter (qF a0) FU 0
instance acN{a0:ag} :FC prog (yg a0=ς r) 204 [.agg (aM a0)] [.c (.d (.b r))]:=gG func204 ntmps204 (hl 0 3) (hb 25 40) (hl 2 4)
def kG(a0:ag):Option Bool:=
 aeP (cond (eqB a0.bF 1) (aeP (gZ a0.bp) λr2=>cond (!r2) (ς ζ) (cond (ltB 0 a0.bN) (aeP (gZ a0.aA.f9) λr3=>cond (!r3) (ς ζ) (aeP (dt a0.bF 0 1) λr4=>ς (!r4))) (aeP (dt a0.bF 0 1) λr5=>ς (!r5)))) (cond (ltB 0 a0.bN) (aeP (gZ a0.aA.f9) λr6=>cond (!r6) (ς ζ) (aeP (dt a0.bF 0 1) λr7=>ς (!r7))) (aeP (dt a0.bF 0 1) λr8=>ς (!r8)))) λ(v1:Bool)=>cond v1 (ς η) (aeP (eS a0.bO) λr9=>aeP (cond (!r9) (ς ζ) (aeP (iX a0.fr) λr11=>cond (!r11) (ς ζ) (aeP (pm a0.fJ) λr12=>cond (!r12) (ς ζ) (aeP (g6 a0.bM) λr13=>cond (!r13) (ς ζ) (aeP (yg a0) λr14=>ς (!r14)))))) λ(v10:Bool)=>cond v10 (ς η) (aeP (dt a0.bN 0 999999) λr15=>aeP (cond (!r15) (ς ζ) (aeP (dt a0.av 0 999999) λr17=>cond (!r17) (ς ζ) (aeP (dt a0.a8 0 999999) λr18=>cond (!r18) (ς ζ) (aeP (dt a0.bp 0 2147483646) λr19=>ς (!r19))))) λ(v16:Bool)=>cond v16 (ς η) (aeP (dt a0.bC 0 5) λr20=>aeP (cond r20 (aeP (dt a0.dy 0 5) λr22=>cond r22 (aeP (dt a0.du 0 3) λr23=>ς r23) (ς η)) (ς η)) λ(v21:Bool)=>ς v21)))
instance TQ{a0:ag} :FC prog (kG a0=ς r) 127 [.agg (aM a0)] [.c (.d (.b r))]:=gG func127 ntmps127 (hb 6 29) (hb 34 56) (hb 61 78) (hb 82 2)
def A1(a0:ae)(a1:Int):Option Bool:=
 aeP (Pw (a0.fH.bh.length:Int) 6) λr1=>aeP (dt a1 0 (WR (r1-1))) λr2=>aeP (cond r2 (cond (leB 0 a1) (ς (eqB (W2 .i64 (bShr .i64 a0.dK a1) 1) 0)) ξ) (ς η)) λ(v3:Bool)=>ς v3
instance adQ{a0:ae} :FC prog (A1 a0 a1=ς r) 131 [.agg (eC a0),aI a1] [.c (.d (.b r))]:=gG func131 ntmps131 (hb 13 4)
def lP(a0:Int)(a1:Int)(a2:Int):Option cb:=
 aeP (dt a2 0 999999) λr1=>cond (!r1) (ς db) (aeP (mT a0 a1) λr2=>aeP (J4 (WR (a2+r2)) 1000000) λr3=>aeP (eM a0 [2,a1,a2]) λr4=>aeP (eM a0 [3,a1]) λr5=>aeP (eM a0 [4,a1,a2]) λr6=>aeP (ML 1 r6) λr7=>ς (⟨a1,r3,r4,r5,r7⟩:cb))
instance VO{a2:Int}{r:cb}:FC prog (lP a0 a1 a2=ς r) 333 [aI a0,aI a1,aI a2] [.agg (qM [] (ow r))]:=gG func333 ntmps333
def rO(a0:bI)(a1:Int):Option (bI×cb):=
 aeP (eS a0) λr1=>aeP (cond (!r1) (ς ζ) (ς (eqB a0.df 999999))) λ(v2:Bool)=>cond v2 (ς (a0,db)) (aeP (lP a0.f9 a1 (WR (a0.df+1))) λr3=>ς ({a0 with df:=WR (a0.df+1)},r3))
instance TR{a0:bI}{r:bI×cb}:FC prog (rO a0 a1=ς r) 288 [.agg (eX a0),aI a1] [.agg (qM [] (nK r.1)),.agg (qM [] (ow r.2))]:=gG func288 ntmps288 (hb 10 14) (hz 5)
def p8(a0:Int)(a1:Int):Option Int:=
 aeP (eM a0 [9,a1]) λr1=>aeP (ML 1 r1) λr2=>ς r2
instance acD{r:Int}:FC prog (p8 a0 a1=ς r) 338 [aI a0,aI a1] [.c (.d (.i .i64 r))]:=gG func338 ntmps338
def lO(a1:fj):(Int×Int)->Option (bJ (Int×Int) (Int))
 |(v1,v2)=>cond (ltB v2 (a1.Steps.length:Int)) (aeP (ix a1.Steps v2) λx6=>aeP (p8 v1 x6) λr7=>ς (.next (r7,WR (v2+1)))) (ς (.done v1))
def qZ(a0:Int)(a1:fj):Option Int:=
 aeP (iter (lO a1) FU (a0,0)) λ(v5:Int)=>ς v5
instance aaP{a1:fj}{r:Int}:FC prog (qZ a0 a1=ς r) 339 [aI a0,.agg (Kn a1)] [.c (.d (.i .i64 r))]:=gG func339 ntmps339 (hm 0 5 6) (he 0 5 6)
def uj(a0:Int)(a1:aD):Option Int:=
 aeP (py) λr1=>aeP (qZ a0 r1) λr2=>aeP (eM r2 [23,a1.eb,a1.bC,a1.av,a1.a8,a1.cj]) λr3=>ς r3
instance acG{a1:aD}{r:Int}:FC prog (uj a0 a1=ς r) 299 [aI a0,.agg (cP a1)] [.c (.d (.i .i64 r))]:=gG func299 ntmps299
def ol(a0:Int)(a1:aD):Option aD:=
 aeP (uj a0 a1) λr1=>ς {a1 with nJ:=r1}
instance aaQ{a1:aD}{r:aD}:FC prog (ol a0 a1=ς r) 217 [aI a0,.agg (cP a1)] [.agg (qM [] (fM r))]:=gG func217 ntmps217
def ur(a0:ag)(a1:Int):Option bm:=
 aeP (ol a0.bp (⟨a1,a0.bC,a0.av,a0.a8,0,db,0⟩:aD)) λr1=>ς (⟨a0,[r1]⟩:bm)
instance acM{a0:ag}{r:bm}:FCV prog (ur a0 a1=ς r) 291 [] [.v (.agg (kM [.f,.f,.f] (dh a0))),tI a1] [] (.v (.agg (kM [.f,.f,.f,.w 210] (cV r)))) [(210,w147 r.dV)]:=gV func291 ntmps291 (hz 2)
def kR(a0:Int)(a1:aD):Option Bool:=
 aeP (uj a0 a1) λr1=>ς (eqB a1.nJ r1)
instance Wy{a1:aD} :FC prog (kR a0 a1=ς r) 219 [aI a0,.agg (cP a1)] [.c (.d (.b r))]:=gG func219 ntmps219
def wH(a0:ag)(a1:aD):Option Bool:=
 aeP (cond (eqB a0.bF 1) (cond (eqB a1.av a0.av) (aeP (kR a0.bp a1) λr2=>ς r2) (ς η)) (ς η)) λ(v1:Bool)=>ς v1
instance adY{a0:ag}{a1:aD} :FC prog (wH a0 a1=ς r) 292 [.agg (aM a0),.agg (cP a1)] [.c (.d (.b r))]:=gG func292 ntmps292 (hb 8 4)
def s5(a0:Int)(a1:Int):Option Int:=
 aeP (vP a1) λr1=>aeP (qZ a0 r1) λr2=>ς r2
instance adR{r:Int}:FC prog (s5 a0 a1=ς r) 297 [aI a0,aI a1] [.c (.d (.i .i64 r))]:=gG func297 ntmps297
def mH(a0:ju)(a1:cb):Option (ju×fX):=
 aeP (pn a0) λr1=>cond (!r1) (ς (a0,{iu with Code:=1})) (aeP (qC a0.f9 a0.d7 a1) λr2=>cond (eqB r2 0) (aeP (kK a0.f9 a1.ei a1.gL) λr3=>aeP (eM a0.f9 [3,a1.ei]) λr4=>aeP (lP a0.f9 a1.ei r3) λr5=>ς ({a0 with d7:=r3},{iu with D0:=r4,wP:=r5.f9})) (aeP (cond (eqB r2 2) (ς (eqB r2 2)) (ς (eqB r2 3))) λ(v6:Bool)=>cond v6 (aeP (sO a0.f9 a1.ei a0.d7) λr7=>ς (a0,{iu with Code:=r2,WJ:=r7})) (ς (a0,{iu with Code:=r2}))))
instance Nd{a0:ju}{a1:cb}{r:ju×fX}:FC prog (mH a0 a1=ς r) 300 [.agg (BJ a0),.agg (gR a1)] [.agg (qM [] (LI r.1)),.agg (qM [] (tq r.2))]:=gG func300 ntmps300 (hz 9) (hc 48 48) (hz 12)
def wG(a0:aF):Option aD:=
 aeP (ol a0.bp (⟨5,a0.bC,a0.av,a0.a8,0,db,0⟩:aD)) λr1=>ς r1
instance sl29Path_c{a0:aF}{r:aD}:FC prog (wG a0=ς r) 222 [.agg (bG a0)] [.agg (qM [] (fM r))]:=gG func222 ntmps222
def DJ(a0:aF):Option aZ:=
 aeP (wG {a0 with a8:=WR (a0.a8+1),bR:=η}) λr1=>aeP (rf {a0 with a8:=WR (a0.a8+1),bR:=η} r1) λr2=>ς r2
instance sl29Next_c{a0:aF}{r:aZ}:FCV prog (DJ a0=ς r) 220 [] [.v (.agg (kM [.f,.f] (ku a0)))] [] (.v (.agg (kM [.f,.f,.w 210] (cU r)))) [(210,w147 r.dV)]:=gV func220 ntmps220 (hz 3)
def Ai(a0:ag):Option Bool:=
 aeP (cond (!eqB a0.bF 1) (ς ζ) (aeP (kG a0) λr2=>ς (!r2))) λ(v1:Bool)=>ς v1
instance Jb{a0:ag} :FC prog (Ai a0=ς r) 266 [.agg (aM a0)] [.c (.d (.b r))]:=gG func266 ntmps266 (hb 6 2)
def MH(a0:aj)(a1:Int)(a2:Int):Option (aj×Bool):=
 aeP (mU a0) λr1=>aeP (gI a0) λr2=>aeP (cond (!r2) (ς ζ) (aeP (px a0 a1) λr4=>aeP (dt a2 0 r4) λr5=>ς (!r5))) λ(v3:Bool)=>cond v3 (ς (r1,η)) (aeP (cond (ltB 0 a2) (aeP (re a0 a1) λr9=>aeP (GN a0.ak r9 a2) λr10=>ς {r1 with eW:=WR (a0.eW+a2),ak:=r10}) (ς r1)) λ(v8:aj)=>ς (v8,ζ))
instance sDebit_c{a0:aj}{a2:Int}{r:aj×Bool}:FC prog (MH a0 a1 a2=ς r) 322 [.agg (bj a0),aI a1,aI a2] [.agg (qM [.o] (cp r.1)),.c (.d (.b r.2))]:=gG func322 ntmps322 (hb 14 21) (hC 24 (λ(v:aj) sl ob nx=>⟨xS [4,2] sl,oM [.w 4] 3 144 (cp v)++fO [2] ob,5⟩)) (hz 6)
def DF(a0:aj)(a1:Int)(a2:Int):Option (aj×Int):=
 aeP (mU a0) λr1=>aeP (gI a0) λr2=>aeP (cond (!r2) (ς ζ) (cond (ltB a1 0) (ς ζ) (aeP (dt a2 1 100000) λr4=>cond (!r4) (ς ζ) (cond (eqB a0.bB 0) (ς ζ) (cond (leB 8 (a0.ak.length:Int)) (aeP (re a0 a1) λr5=>ς (ltB r5 0)) (ς η)))))) λ(v3:Bool)=>cond v3 (ς (r1,0)) (aeP (Pw a2 a0.bB) λr6=>aeP (GM a0.ak a1 r6) λr7=>ς ({r1 with bB:=WR (a0.bB-r6),ak:=r7},r6))
instance sReserve_c{a0:aj}{a2:Int}{r:aj×Int}:FC prog (DF a0 a1 a2=ς r) 377 [.agg (bj a0),aI a1,aI a2] [.agg (qM [.o] (cp r.1)),.c (.d (.i .i64 r.2))]:=gG func377 ntmps377 (hb 14 39)
end Go.AM
