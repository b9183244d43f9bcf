/- A part. -/
import Derived.Test.YtgbcdgihmgapeaaGreatG
set_option linter.unusedVariables false
open Option renaming some->ς,none->ξ
open Bool renaming true->ζ,false->η
open True renaming intro->θ
open Option renaming bind->abd
namespace Go.AM
open Go.Proofs
open Tryz
attribute [local irreducible] AWN NS AWO AWR AWC DR DZ cB eZ iter
set_option maxRecDepth 100000
set_option maxHeartbeats 40000000
variable{a0:Go.AM.ab}{a1:Int}{r:Bool}
def cA(a0:Int)(a1:Int)(a2:Int):Option Bool:=
 abd (cond (leB a1 a0) (ς (leB a0 a2)) (ς η)) λ(v1:Bool)=>ς v1
instance XE{a0:Int}{a2:Int} :FC prog (cA a0 a1 a2=ς r) 32 [aI a0,aI a1,aI a2] [.c (.d (.b r))]:=gG func32 ntmps32 (hb 10 6)
def lu(a0:ab)(a1:Int):Option Bool:=
 abd (cA a1 0 (WR ((a0.aj.length:Int)-1))) λr1=>abd (cond r1 (abd (cA a1 0 (WR ((a0.an.length:Int)-1))) λr3=>ς r3) (ς η)) λ(v2:Bool)=>ς v2
instance U5:FC prog (lu a0 a1=ς r) 16 [.agg (fK a0),aI a1] [.c (.d (.b r))]:=gG func16 ntmps16 (hb 11 4)
def qX(a0:List Int)(a1:List Int):Option Bool:=
 abd (yg a0 a1) λr1=>ς r1
instance T4{a0:List Int}{a1:List Int} :FC prog (qX a0 a1=ς r) 33 [aL (a0.map eU8),aL (a1.map eU8)] [.c (.d (.b r))]:=gG func33 ntmps33
def lS(a0:List bD)(a1:List bD):Int->Option (ct (Int) (Bool))
 |v1=>cond (ltB v1 (a0.length:Int)) (abd (ix a0 v1) λx2=>abd (ix a1 v1) λx3=>abd (qX x2.bb x3.bb) λr4=>cond (!r4) (dn (ς η)) (ς (.next (WR (v1+1))))) (dn (ς ζ))
def qY(a0:List bD)(a1:List bD):Option Bool:=
 cond (ltB (a1.length:Int) (a0.length:Int)) (ς η) (iter (lS a0 a1) FU 0)
instance T5{a0:List bD}{a1:List bD} :FC prog (qY a0 a1=ς r) 17 [aL (a0.map de),aL (a1.map de)] [.c (.d (.b r))]:=gG func17 ntmps17 (hl 0 13)
def eM(a0:ab)(a1:Int):Option Bool:=
 abd (lu a0 a1) λr1=>abd (cond r1 (abd (ix a0.aj a1) λx3=>abd (ix a0.an a1) λx4=>abd (qY x3.bg.aP x4.av) λr5=>ς r5) (ς η)) λ(v2:Bool)=>ς v2
instance wq:FC prog (eM a0 a1=ς r) 8 [.agg (fK a0),aI a1] [.c (.d (.b r))]:=gG func8 ntmps8 (hb 8 4)
def jS(a0:ab)(a1:Int):Option Bool:=
 abd (cA a1 0 (WR ((a0.aU.length:Int)-1))) λr1=>abd (cond r1 (abd (cA a1 0 (WR ((a0.an.length:Int)-1))) λr3=>ς r3) (ς η)) λ(v2:Bool)=>ς v2
instance T9:FC prog (jS a0 a1=ς r) 20 [.agg (fK a0),aI a1] [.c (.d (.b r))]:=gG func20 ntmps20 (hb 11 4)
def kO(a0:ab)(a1:Int):Option Int:=
 abd (jS a0 a1) λr1=>cond (!r1) (ς (-1)) (abd (ix a0.aU a1) λx2=>abd (ix a0.an a1) λx3=>ς (WR (x2.dv+x3.bV.dW)))
instance Pm{r:Int}:FC prog (kO a0 a1=ς r) 21 [.agg (fK a0),aI a1] [.c (.d (.i .i64 r))]:=gG func21 ntmps21
def iz(a0:List bD):(Int×Int)->Option (ct (Int×Int) (Int))
 |(v1,v2)=>cond (ltB v2 (a0.length:Int)) (abd (ix a0 v2) λx5=>ς (.next (WR (v1+(x5.bb.length:Int)),WR (v2+1)))) (ς (.done v1))
def sH(a0:List bD):Option Int:=
 abd (iter (iz a0) FU (0,0)) λ(v4:Int)=>ς v4
instance Po{a0:List bD}{r:Int}:FC prog (sH a0=ς r) 38 [aL (a0.map de)] [.c (.d (.i .i64 r))]:=gG func38 ntmps38 (hm 0 3 8) (he 0 3 8)
def XG(a0:Int)(a1:Int):Option Int:=
 cond (ltB a1 a0) (ς a1) (ς a0)
instance iMin_c{a0:Int}{r:Int}:FC prog (XG a0 a1=ς r) 39 [aI a0,aI a1] [.c (.d (.i .i64 r))]:=gG func39 ntmps39
def XF(a0:Int)(a1:Int):Option Int:=
 cond (ltB a0 a1) (ς a1) (ς a0)
instance iMax_c{a0:Int}{r:Int}:FC prog (XF a0 a1=ς r) 40 [aI a0,aI a1] [.c (.d (.i .i64 r))]:=gG func40 ntmps40
def nL(a0:ah)(a1:Int):Option Int:=
 abd (XF a1 0) λr1=>abd (XG r1 (a0.av.length:Int)) λr2=>cond (fH a0.av 0 r2) (abd (sH (a0.av.take (r2).toNat)) λr3=>ς r3) ξ
instance Pk{a0:ah}{r:Int}:FC prog (nL a0 a1=ς r) 22 [.agg (cO a0),aI a1] [.c (.d (.i .i64 r))]:=gG func22 ntmps22
def ec(a0:ah):Option Int:=
 ς (WR ((WR (a0.ax.bC-1))-(a0.ax.aG.length:Int)))
instance Fs{a0:ah}{r:Int}:FC prog (ec a0=ς r) 23 [.agg (cO a0)] [.c (.d (.i .i64 r))]:=gG func23 ntmps23
def ei(a0:ab)(a1:Int):Option Bool:=
 abd (jS a0 a1) λr1=>cond (!r1) (ς η) (abd (ix a0.an a1) λx2=>abd (kO a0 a1) λr3=>abd (ec x2) λr4=>abd (nL x2 r4) λr5=>ς (eqB r3 r5))
instance mV:FC prog (ei a0 a1=ς r) 10 [.agg (fK a0),aI a1] [.c (.d (.b r))]:=gG func10 ntmps10
def rf(a0:aV)(a1:Int):Option Bool:=
 abd (cA a1 0 (WR ((a0.bp.length:Int)-1))) λr1=>ς r1
instance iisCell_c{a0:aV} :FC prog (rf a0 a1=ς r) 37 [.agg (js a0),aI a1] [.c (.d (.b r))]:=gG func37 ntmps37
def jg(a0:List Int):Int->Option (ct (Int) (Bool))
 |v1=>cond (ltB v1 (a0.length:Int)) (abd (ix a0 (WR (v1-1))) λx2=>abd (ix a0 v1) λx3=>cond (leB x3 x2) (dn (ς η)) (ς (.next (WR (v1+1))))) (dn (ς ζ))
def mb(a0:List Int):Option Bool:=
 iter (jg a0) FU 1
instance Rf{a0:List Int} :FC prog (mb a0=ς r) 61 [aL (a0.map eI)] [.c (.d (.b r))]:=gG func61 ntmps61 (hl 0 3)
def sF(a0:aV)(a1:Int)(a2:Int):Option Bool:=
 abd (rf a0 a1) λr1=>abd (cond r1 (abd (ix a0.bp a1) λx3=>abd (fa x3.cy a2) λr4=>ς r4) (ς η)) λ(v2:Bool)=>ς v2
instance Pj{a0:aV}{a2:Int} :FC prog (sF a0 a1 a2=ς r) 62 [.agg (js a0),aI a1,aI a2] [.c (.d (.b r))]:=gG func62 ntmps62 (hb 10 6)
def lV(a0:aV)(v2:Int)(x3:fk):Int->Option (ct (Int) (ct (Int) (Bool)))
 |v7=>cond (ltB v7 (x3.cy.length:Int)) (abd (ix x3.cy v7) λx8=>abd (cond (eqB x8 v2) (ς ζ) (abd (rf a0 x8) λr10=>cond (!r10) (ς ζ) (abd (sF a0 x8 v2) λr11=>ς (!r11)))) λ(v9:Bool)=>cond v9 (dn (dn (ς η))) (ς (.next (WR (v7+1))))) (dn (ς (.next (WR (v2+1)))))
def lU(a0:aV):Int->Option (ct (Int) (Bool))
 |v2=>cond (ltB v2 (a0.bp.length:Int)) (abd (ix a0.bp v2) λx3=>abd (cA x3.gB 0 2) λr4=>abd (cond (!r4) (ς ζ) (abd (mb x3.cy) λr6=>ς (!r6))) λ(v5:Bool)=>cond v5 (dn (ς η)) (iter (lV a0 v2 x3) FU 0)) (dn (ς ζ))
def qZ(a0:aV):Option Bool:=
 abd (cA (a0.bp.length:Int) 1 6) λr1=>cond (!r1) (ς η) (iter (lU a0) FU 0)
instance T7{a0:aV} :FC prog (qZ a0=ς r) 34 [.agg (js a0)] [.c (.d (.b r))]:=gG func34 ntmps34 (hl 0 15) (hb 24 29) (hl 2 33) (hb 40 52)
def pa(a0:bW):Option Bool:=
 abd (cA a0.fD 1 6) λr1=>abd (cond r1 (cond (leB 0 a0.fD) (abd (cA a0.eG 0 (WR ((lO .i64 1 a0.fD)-1))) λr3=>ς r3) ξ) (ς η)) λ(v2:Bool)=>ς v2
instance Q9{a0:bW} :FC prog (pa a0=ς r) 35 [.agg (lP a0)] [.c (.d (.b r))]:=gG func35 ntmps35 (hb 6 2)
def f4(a0:Int):Option Bool:=
 abd (cA a0 1 2147483646) λr1=>ς r1
instance T6{a0:Int} :FC prog (f4 a0=ς r) 100 [aI a0] [.c (.d (.b r))]:=gG func100 ntmps100
def fo(a0:dt):Option Bool:=
 abd (cA a0.dQ 0 3) λr1=>abd (cond r1 (abd (cA a0.bX 0 99) λr3=>ς r3) (ς η)) λ(v2:Bool)=>ς v2
instance Ft{a0:dt} :FC prog (fo a0=ς r) 149 [.agg (p8 a0)] [.c (.d (.b r))]:=gG func149 ntmps149 (hb 6 2)
def pb(a0:lN):Option Bool:=
 abd (fo a0.ID) λr1=>abd (cond r1 (abd (f4 a0.eV) λr3=>cond r3 (abd (cA a0.dJ 0 999999) λr4=>ς r4) (ς η)) (ς η)) λ(v2:Bool)=>ς v2
instance Ra{a0:lN} :FC prog (pb a0=ς r) 99 [.agg (Fg a0)] [.c (.d (.b r))]:=gG func99 ntmps99 (hb 6 2)
def qg(a0:List bD):Int->Option (ct (Int) (Bool))
 |v1=>cond (ltB v1 (a0.length:Int)) (abd (ix a0 v1) λx2=>cond (ltB 60 (x2.bb.length:Int)) (dn (ς η)) (ς (.next (WR (v1+1))))) (dn (ς ζ))
def ra(a0:List bD):Option Bool:=
 iter (qg a0) FU 0
instance T8{a0:List bD} :FC prog (ra a0=ς r) 107 [aL (a0.map de)] [.c (.d (.b r))]:=gG func107 ntmps107 (hl 0 7)
def ig(a0:be):Int->Option (ct (Int) (Bool))
 |v3=>cond (ltB v3 (a0.aO.length:Int)) (abd (ix a0.aO v3) λx4=>abd (cond (ltB 60 (x4.bb.length:Int)) (ς ζ) (abd (cA x4.cZ (WR (a0.bC+1)) (WR ((WR (a0.bC+8))-1))) λr6=>ς (!r6))) λ(v5:Bool)=>cond v5 (dn (ς η)) (abd (cond (ltB 0 v3) (abd (ix a0.aO (WR (v3-1))) λx8=>ς (leB x4.cZ x8.cZ)) (ς η)) λ(v7:Bool)=>cond v7 (dn (ς η)) (ς (.next (WR (v3+1)))))) (dn (ς ζ))
def kq(a0:be):Option Bool:=
 abd (cond (!eqB a0.bC (WR ((a0.aP.length:Int)+1))) (ς ζ) (cond (ltB 24 (a0.aP.length:Int)) (ς ζ) (abd (ra a0.aP) λr2=>cond (!r2) (ς ζ) (ς (ltB 8 (a0.aO.length:Int)))))) λ(v1:Bool)=>cond v1 (ς η) (iter (ig a0) FU 0)
instance J4{a0:be} :FC prog (kq a0=ς r) 101 [.agg (i9 a0)] [.c (.d (.b r))]:=gG func101 ntmps101 (hb 12 29) (hl 0 33) (hb 42 54) (hb 57 68)
def lT(a0:aC):Option Bool:=
 abd (pb a0.dx) λr1=>abd (cond (!r1) (ς ζ) (abd (cA a0.bB 0 3) λr3=>cond (!r3) (ς ζ) (abd (cA a0.bv 0 5) λr4=>ς (!r4)))) λ(v2:Bool)=>cond v2 (ς η) (abd (cA a0.ag 0 999999) λr5=>abd (cond (!r5) (ς ζ) (abd (cA a0.bi 0 999999) λr7=>cond (!r7) (ς ζ) (abd (cA a0.aY 0 2147483646) λr8=>ς (!r8)))) λ(v6:Bool)=>cond v6 (ς η) (abd (cond (eqB a0.bB 2) (abd (f4 a0.aY) λr10=>ς (!r10)) (cond (eqB a0.bB 3) (abd (f4 a0.aY) λr11=>ς (!r11)) (ς η))) λ(v9:Bool)=>cond v9 (ς η) (abd (cA a0.gE 0 3) λr12=>abd (cond r12 (abd (kq a0.bg) λr14=>ς r14) (ς η)) λ(v13:Bool)=>ς v13)))
instance NW{a0:aC} :FC prog (lT a0=ς r) 63 [.agg (di a0)] [.c (.d (.b r))]:=gG func63 ntmps63 (hb 7 18) (hb 23 34) (hb 38 48) (hb 52 2)
def fg(a0:aF):Option Bool:=
 abd (fo a0.ID) λr1=>abd (cond r1 (abd (f4 a0.eV) λr3=>cond r3 (abd (cA a0.cZ 0 999999) λr4=>ς r4) (ς η)) (ς η)) λ(v2:Bool)=>ς v2
instance BR{a0:aF} :FC prog (fg a0=ς r) 102 [.agg (dR a0)] [.c (.d (.b r))]:=gG func102 ntmps102 (hb 6 2)
def fL(a0:bK):Int->Option (ct (Int) (Bool))
 |v5=>cond (ltB v5 (a0.bJ.length:Int)) (abd (ix a0.bJ v5) λx6=>abd (cA x6 0 3) λr7=>cond (!r7) (dn (ς η)) (ς (.next (WR (v5+1))))) (dn (abd (mb a0.bJ) λr8=>ς r8))
def gM(a0:bK):Option Bool:=
 abd (cA a0.kj 1 1000) λr1=>abd (cond (!r1) (ς ζ) (abd (cA a0.ki 1 4) λr3=>cond (!r3) (ς ζ) (abd (cA a0.er 1 100000) λr4=>ς (!r4)))) λ(v2:Bool)=>cond v2 (ς η) (iter (fL a0) FU 0)
instance Fu{a0:bK} :FC prog (gM a0=ς r) 103 [.agg (lQ a0)] [.c (.d (.b r))]:=gG func103 ntmps103 (hb 9 20) (hl 0 24)
def lW(a0:cP):Option Bool:=
 abd (cA a0.gB 0 2) λr1=>abd (cond r1 (abd (cA a0.eS 0 4) λr3=>cond r3 (abd (cA a0.gE 0 3) λr4=>ς r4) (ς η)) (ς η)) λ(v2:Bool)=>ς v2
instance NY{a0:cP} :FC prog (lW a0=ς r) 104 [.agg (sC a0)] [.c (.d (.b r))]:=gG func104 ntmps104 (hb 6 2)
def jE(a0:bu):Int->Option (ct (Int) (Bool))
 |v3=>cond (ltB v3 (a0.aG.length:Int)) (abd (ix a0.aG v3) λx4=>abd (cond (!eqB x4.cZ (WR ((WR (a0.bC-(a0.aG.length:Int)))+v3))) (ς ζ) (ς (ltB 60 (x4.bb.length:Int)))) λ(v5:Bool)=>cond v5 (dn (ς η)) (ς (.next (WR (v3+1))))) (dn (ς ζ))
def lX(a0:bu):Option Bool:=
 abd (cA a0.bC 1 100000) λr1=>abd (cond (!r1) (ς ζ) (ς (ltB 8 (a0.aG.length:Int)))) λ(v2:Bool)=>cond v2 (ς η) (cond (ltB (WR (a0.bC-(a0.aG.length:Int))) 1) (ς η) (iter (jE a0) FU 0))
instance NZ{a0:bu} :FC prog (lX a0=ς r) 105 [.agg (km a0)] [.c (.d (.b r))]:=gG func105 ntmps105 (hb 10 15) (hl 0 27) (hb 38 43)
def jt(a0:cU):Option Bool:=
 abd (cond (leB 0 a0.aA) (cond (leB 0 a0.dW) (cond (leB a0.dW a0.cT) (ς (leB a0.cT 100000)) (ς η)) (ς η)) (ς η)) λ(v1:Bool)=>ς v1
instance Pn{a0:cU} :FC prog (jt a0=ς r) 106 [.agg (o8 a0)] [.c (.d (.b r))]:=gG func106 ntmps106 (hb 6 2)
def md(a0:List ae):(Int×Int)->Option (ct (Int×Int) (Int))
 |(v1,v2)=>cond (ltB v2 (a0.length:Int)) (abd (ix a0 v2) λx5=>ς (.next (WR (v1+(x5.bb.length:Int)),WR (v2+1)))) (ς (.done v1))
def mc(a0:List ae):Option Int:=
 abd (iter (md a0) FU (0,0)) λ(v4:Int)=>ς v4
instance N3{a0:List ae}{r:Int}:FC prog (mc a0=ς r) 150 [aL (a0.map aX)] [.c (.d (.i .i64 r))]:=gG func150 ntmps150 (hm 0 3 8) (he 0 3 8)
def lY(a0:ah):Option Int:=
 abd (mc a0.ax.aG) λr1=>ς r1
instance Js{a0:ah}{r:Int}:FC prog (lY a0=ς r) 108 [.agg (cO a0)] [.c (.d (.i .i64 r))]:=gG func108 ntmps108
def lj(a0:cU):Option Int:=
 abd (jt a0) λr1=>cond (!r1) (ς 0) (ς (WR (a0.cT-a0.dW)))
instance L6{a0:cU}{r:Int}:FC prog (lj a0=ς r) 109 [.agg (o8 a0)] [.c (.d (.i .i64 r))]:=gG func109 ntmps109
def eX(a0:ah):Int->Option (ct (Int) (Bool))
 |v23=>cond (ltB v23 (a0.ax.aG.length:Int)) (abd (ix a0.ax.aG v23) λx24=>abd (ix a0.av (WR (x24.cZ-1))) λx25=>abd (qX x24.bb x25.bb) λr26=>cond (!r26) (dn (ς η)) (ς (.next (WR (v23+1))))) (dn (abd (lY a0) λr27=>abd (lj a0.bV) λr28=>ς (leB r27 r28)))
def li(a0:ah):Option Bool:=
 abd (fg a0.bH) λr1=>abd (cond (!r1) (ς ζ) (abd (gM a0.ip) λr3=>cond (!r3) (ς ζ) (abd (lW a0.jw) λr4=>cond (!r4) (ς ζ) (abd (lX a0.ax) λr5=>cond (!r5) (ς ζ) (abd (jt a0.bV) λr6=>ς (!r6)))))) λ(v2:Bool)=>cond v2 (ς η) (abd (cond (!eqB a0.bB 0) (ς (!eqB a0.bB 1)) (ς η)) λ(v7:Bool)=>cond v7 (ς η) (abd (cond (eqB a0.bB 1) (abd (f4 a0.aY) λr9=>cond (!r9) (ς ζ) (cond (ltB 0 a0.bG) (abd (f4 a0.aO.eV) λr10=>ς (!r10)) (ς η))) (cond (ltB 0 a0.bG) (abd (f4 a0.aO.eV) λr11=>ς (!r11)) (ς η))) λ(v8:Bool)=>cond v8 (ς η) (abd (cA a0.bG 0 999999) λr12=>abd (cond (!r12) (ς ζ) (abd (cA a0.ag 0 999999) λr14=>cond (!r14) (ς ζ) (abd (cA a0.bi 0 999999) λr15=>cond (!r15) (ς ζ) (abd (cA a0.aY 0 2147483646) λr16=>ς (!r16))))) λ(v13:Bool)=>cond v13 (ς η) (abd (cA a0.bv 0 5) λr17=>abd (cond (!r17) (ς ζ) (abd (cA a0.d9 0 5) λr19=>cond (!r19) (ς ζ) (abd (cA a0.d6 0 3) λr20=>ς (!r20)))) λ(v18:Bool)=>cond v18 (ς η) (abd (cond (ltB 24 (a0.av.length:Int)) (ς ζ) (abd (ra a0.av) λr22=>cond (!r22) (ς ζ) (ς (ltB (WR ((a0.av.length:Int)+1)) a0.ax.bC)))) λ(v21:Bool)=>cond v21 (ς η) (iter (eX a0) FU 0))))))
instance L5{a0:ah} :FC prog (li a0=ς r) 64 [.agg (cO a0)] [.c (.d (.b r))]:=gG func64 ntmps64 (hb 9 32) (hb 36 40) (hb 44 61) (hb 66 83) (hb 88 99) (hb 104 119) (hl 0 124)
def ma(a0:am):(Int×Int)->Option (ct (Int×Int) (Int))
 |(v1,v2)=>cond (ltB v2 (a0.aH.length:Int)) (abd (ix a0.aH v2) λx5=>ς (.next (WR (v1+x5.dO),WR (v2+1)))) (ς (.done v1))
def lZ(a0:am):Option Int:=
 abd (iter (ma a0) FU (0,0)) λ(v4:Int)=>ς v4
instance N0{a0:am}{r:Int}:FC prog (lZ a0=ς r) 110 [.agg (cS a0)] [.c (.d (.i .i64 r))]:=gG func110 ntmps110 (hm 0 3 9) (he 0 3 9)
def iN(a0:am):Int->Option (ct (Int) (Bool))
 |v5=>cond (ltB v5 (a0.aH.length:Int)) (abd (ix a0.aH v5) λx6=>abd (cond (ltB x6.aA 0) (ς ζ) (abd (cA x6.dO 1 100000) λr8=>ς (!r8))) λ(v7:Bool)=>cond v7 (dn (ς η)) (abd (cond (ltB 0 v5) (abd (ix a0.aH (WR (v5-1))) λx10=>ς (leB x6.aA x10.aA)) (ς η)) λ(v9:Bool)=>cond v9 (dn (ς η)) (ς (.next (WR (v5+1)))))) (dn (abd (lZ a0) λr11=>ς (eqB (WR ((WR (a0.bm+a0.dv))+r11)) a0.fJ)))
def jf(a0:am):Option Bool:=
 abd (cA a0.fJ 0 100000) λr1=>abd (cond (!r1) (ς ζ) (abd (cA a0.bm 0 a0.fJ) λr3=>cond (!r3) (ς ζ) (abd (cA a0.dv 0 a0.fJ) λr4=>ς (!r4)))) λ(v2:Bool)=>cond v2 (ς η) (cond (ltB 8 (a0.aH.length:Int)) (ς η) (iter (iN a0) FU 0))
instance L3{a0:am} :FC prog (jf a0=ς r) 65 [.agg (cS a0)] [.c (.d (.b r))]:=gG func65 ntmps65 (hb 9 24) (hl 0 32) (hb 40 45) (hb 48 59)
def gO(a0:am)(a1:Int):Int->Option (ct (Int) (Int))
 |v1=>cond (ltB v1 (a0.aH.length:Int)) (abd (ix a0.aH v1) λx2=>cond (eqB x2.aA a1) (dn (ς v1)) (ς (.next (WR (v1+1))))) (dn (ς (-1)))
def mf(a0:am)(a1:Int):Option Int:=
 iter (gO a0 a1) FU 0
instance Jt{a0:am}{r:Int}:FC prog (mf a0 a1=ς r) 151 [.agg (cS a0),aI a1] [.c (.d (.i .i64 r))]:=gG func151 ntmps151 (hl 0 10)
def pc(a0:am)(a1:Int):Option Int:=
 abd (mf a0 a1) λr1=>cond (ltB r1 0) (ς 0) (abd (ix a0.aH r1) λx2=>ς x2.dO)
instance Rb{a0:am}{r:Int}:FC prog (pc a0 a1=ς r) 111 [.agg (cS a0),aI a1] [.c (.d (.i .i64 r))]:=gG func111 ntmps111
def gN(a0:am)(a1:cU):Option Bool:=
 abd (jf a0) λr1=>abd (cond r1 (abd (jt a1) λr3=>cond r3 (abd (pc a0 a1.aA) λr4=>ς (eqB r4 a1.cT)) (ς η)) (ς η)) λ(v2:Bool)=>ς v2
instance Fv{a0:am}{a1:cU} :FC prog (gN a0 a1=ς r) 66 [.agg (cS a0),.agg (o8 a1)] [.c (.d (.b r))]:=gG func66 ntmps66 (hb 7 4)
def iO(a0:ab)(a1:Int):Option Bool:=
 abd (ix a0.aj a1) λx1=>abd (ix a0.an a1) λx2=>abd (lT x1) λr3=>abd (cond r3 (abd (li x2) λr5=>cond r5 (abd (ix a0.aU a1) λx6=>abd (jf x6) λr7=>cond r7 (bif(eqB x1.dx.ID.dQ x2.bH.ID.dQ&&(eqB x1.dx.ID.bX x2.bH.ID.bX&&ζ)) then(cond (eqB x1.dx.eV x2.bH.eV) (abd (rf a0.dV x1.bv) λr8=>cond r8 (abd (rf a0.dV x2.bv) λr9=>cond r9 (cond (eqB x2.bV.aA a1) (abd (ix a0.aU a1) λx10=>abd (gN x10 x2.bV) λr11=>ς r11) (ς η)) (ς η)) (ς η)) (ς η)) else(ς η)) (ς η)) (ς η)) (ς η)) λ(v4:Bool)=>ς v4
instance HF:FC prog (iO a0 a1=ς r) 36 [.agg (fK a0),aI a1] [.c (.d (.b r))]:=gG func36 ntmps36 (hb 19 4)
def gj(a0:ab):Int->Option (ct (Int) (Bool))
 |v7=>cond (ltB v7 (a0.aZ.length:Int)) (abd (ix a0.aZ v7) λx8=>abd (cA x8.bA 0 (WR ((a0.aj.length:Int)-1))) λr9=>abd (cond (!r9) (ς ζ) (abd (rf a0.dV x8.bv) λr11=>ς (!r11))) λ(v10:Bool)=>cond v10 (dn (ς η)) (ς (.next (WR (v7+1))))) (dn (cond (leB 0 (a0.dV.bp.length:Int)) (abd (cA a0.cX 0 (WR ((lO .i64 1 (a0.dV.bp.length:Int))-1))) λr12=>abd (cond r12 (abd (cA a0.oG 0 100000) λr14=>cond r14 (ς (leB 0 a0.jM)) (ς η)) (ς η)) λ(v13:Bool)=>ς v13) ξ))
def gh(a0:ab):Int->Option (ct (Int) (Bool))
 |v5=>cond (ltB v5 (a0.aj.length:Int)) (abd (iO a0 v5) λr6=>cond (!r6) (dn (ς η)) (ς (.next (WR (v5+1))))) (dn (cond (ltB 200 (a0.aZ.length:Int)) (ς η) (iter (gj a0) FU 0)))
def lh(a0:ab):Option Bool:=
 abd (qZ a0.dV) λr1=>abd (cond (!r1) (ς ζ) (abd (pa a0.d8) λr3=>cond (!r3) (ς ζ) (ς (eqB a0.d8.eG 0)))) λ(v2:Bool)=>cond v2 (ς η) (abd (cond (ltB 4 (a0.aj.length:Int)) (ς ζ) (cond (!eqB (a0.an.length:Int) (a0.aj.length:Int)) (ς ζ) (ς (!eqB (a0.aU.length:Int) (a0.aj.length:Int))))) λ(v4:Bool)=>cond v4 (ς η) (iter (gh a0) FU 0))
instance L4:FC prog (lh a0=ς r) 18 [.agg (fK a0)] [.c (.d (.b r))]:=gG func18 ntmps18 (hb 10 21) (hb 26 43) (hl 0 47) (hl 2 62) (hb 74 81) (hb 92 2)
def eL(a0:ab)(a1:Int):Option Bool:=
 abd (lu a0 a1) λr1=>abd (cond r1 (abd (ix a0.an a1) λx3=>abd (ec x3) λr4=>abd (ix a0.aj a1) λx5=>ς (leB r4 (x5.bg.aP.length:Int))) (ς η)) λ(v2:Bool)=>ς v2
instance Aw:FC prog (eL a0 a1=ς r) 19 [.agg (fK a0),aI a1] [.c (.d (.b r))]:=gG func19 ntmps19 (hb 8 4)
def vP(a0:ab):Int->Option (ct (Int) (Bool))
 |v2=>cond (ltB v2 (a0.aj.length:Int)) (abd (eM a0 v2) λr3=>abd (cond (!r3) (ς ζ) (abd (ei a0 v2) λr5=>cond (!r5) (ς ζ) (abd (eL a0 v2) λr6=>ς (!r6)))) λ(v4:Bool)=>cond v4 (dn (ς η)) (ς (.next (WR (v2+1))))) (dn (ς ζ))
def tQ(a0:ab):Option Bool:=
 abd (lh a0) λr1=>cond (!r1) (ς η) (iter (vP a0) FU 0)
instance yi:FC prog (tQ a0=ς r) 9 [.agg (fK a0)] [.c (.d (.b r))]:=gG func9 ntmps9 (hl 0 10) (hb 17 28)
end Go.AM
