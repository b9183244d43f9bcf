/- A part. -/
import Derived.Test.YtfbpfflnhfcmaaaGreatG
set_option linter.unusedVariables false
open Option renaming some->ς,none->ξ
open Bool renaming true->ζ,false->η
open True renaming intro->θ
open Option renaming bind->acE
namespace Go.AM
open Go.Proofs
open Tryz
attribute [local irreducible] AWN NS AWO AWR AWC DR DZ du gr iter
set_option maxRecDepth 100000
set_option maxHeartbeats 40000000
variable{r:Bool}
def lbig(a0:List Int):Option Bool:=
 ς (ltB 1048576 (a0.length:Int))
instance lbig_c{a0:List Int} :FC prog (lbig a0=ς r) 6 [aL (a0.map eU8)] [.c (.d (.b r))]:=gG func6 ntmps6
def xm(a0:List Int)(a1:List Int):Int->Option (ci (Int) (Bool))
 |v1=>cond (ltB v1 (a0.length:Int)) (acE (ix a0 v1) λx2=>acE (ix a1 v1) λx3=>cond (!eqB x2 x3) (dn (ς η)) (ς (.next (WR (v1+1))))) (dn (ς ζ))
def we(a0:List Int)(a1:List Int):Option Bool:=
 cond (!eqB (a0.length:Int) (a1.length:Int)) (ς η) (iter (xm a0 a1) FU 0)
instance aa5{a0:List Int}{a1:List Int} :FC prog (we a0 a1=ς r) 113 [aL (a0.map eI),aL (a1.map eI)] [.c (.d (.b r))]:=gG func113 ntmps113 (hl 0 5)
def yV(a0:aZ)(a1:aZ):Int->Option (ci (Int) (Bool))
 |v1=>cond (ltB v1 (a0.bp.length:Int)) (acE (ix a0.bp v1) λx2=>acE (ix a1.bp v1) λx3=>acE (cond (!eqB x2.fF x3.fF) (ς ζ) (acE (ix a0.bp v1) λx5=>acE (ix a1.bp v1) λx6=>acE (we x5.cM x6.cM) λr7=>ς (!r7))) λ(v4:Bool)=>cond v4 (dn (ς η)) (ς (.next (WR (v1+1))))) (dn (ς ζ))
def Ci(a0:aZ)(a1:aZ):Option Bool:=
 cond (!eqB (a0.bp.length:Int) (a1.bp.length:Int)) (ς η) (iter (yV a0 a1) FU 0)
instance lsameMap_c{a0:aZ}{a1:aZ} :FC prog (Ci a0 a1=ς r) 61 [.agg (fT a0),.agg (fT a1)] [.c (.d (.b r))]:=gG func61 ntmps61 (hl 0 5) (hb 33 48)
def vG(a0:List Int)(a1:List Int):Int->Option (ci (Int) (Bool))
 |v1=>cond (ltB v1 (a0.length:Int)) (acE (ix a0 v1) λx2=>acE (ix a1 v1) λx3=>cond (!eqB x2 x3) (dn (ς η)) (ς (.next (WR (v1+1))))) (dn (ς ζ))
def nW(a0:List Int)(a1:List Int):Option Bool:=
 cond (!eqB (a0.length:Int) (a1.length:Int)) (ς η) (iter (vG a0 a1) FU 0)
instance Zv{a0:List Int}{a1:List Int} :FC prog (nW a0 a1=ς r) 201 [aL (a0.map eU8),aL (a1.map eU8)] [.c (.d (.b r))]:=gG func201 ntmps201 (hl 0 5)
def qh(a0:List bI)(a1:List bI):Int->Option (ci (Int) (Bool))
 |v1=>cond (ltB v1 (a0.length:Int)) (acE (ix a0 v1) λx2=>acE (ix a1 v1) λx3=>acE (nW x2.bk x3.bk) λr4=>cond (!r4) (dn (ς η)) (ς (.next (WR (v1+1))))) (dn (ς ζ))
def lB(a0:List bI)(a1:List bI):Option Bool:=
 cond (!eqB (a0.length:Int) (a1.length:Int)) (ς η) (iter (qh a0 a1) FU 0)
instance TW{a0:List bI}{a1:List bI} :FC prog (lB a0 a1=ς r) 116 [aL (a0.map d8),aL (a1.map d8)] [.c (.d (.b r))]:=gG func116 ntmps116 (hl 0 5)
def rP(a0:List ab)(a1:List ab):Int->Option (ci (Int) (Bool))
 |v1=>cond (ltB v1 (a0.length:Int)) (acE (ix a0 v1) λx2=>acE (ix a1 v1) λx3=>acE (cond (!eqB x2.cX x3.cX) (ς ζ) (acE (ix a0 v1) λx5=>acE (ix a1 v1) λx6=>acE (nW x5.bk x6.bk) λr7=>ς (!r7))) λ(v4:Bool)=>cond v4 (dn (ς η)) (ς (.next (WR (v1+1))))) (dn (ς ζ))
def pj(a0:List ab)(a1:List ab):Option Bool:=
 cond (!eqB (a0.length:Int) (a1.length:Int)) (ς η) (iter (rP a0 a1) FU 0)
instance VX{a0:List ab}{a1:List ab} :FC prog (pj a0 a1=ς r) 200 [aL (a0.map aX),aL (a1.map aX)] [.c (.d (.b r))]:=gG func200 ntmps200 (hl 0 5) (hb 28 41)
def qG(a0:aM)(a1:aM):Option Bool:=
 acE (cond (eqB a0.bB a1.bB) (acE (pj a0.aA a1.aA) λr2=>cond r2 (acE (lB a0.bi a1.bi) λr3=>ς r3) (ς η)) (ς η)) λ(v1:Bool)=>ς v1
instance TX{a0:aM}{a1:aM} :FC prog (qG a0 a1=ς r) 114 [.agg (fG a0),.agg (fG a1)] [.c (.d (.b r))]:=gG func114 ntmps114 (hb 10 4)
def uJ(a0:aC)(a1:aC):Option Bool:=
 acE (bif(eqB a0.dO.ID.d4 a1.dO.ID.d4&&(eqB a0.dO.ID.bZ a1.dO.ID.bZ&&(eqB a0.dO.fA a1.dO.fA&&(eqB a0.dO.c8 a1.dO.c8&&ζ)))) then(cond (eqB a0.bz a1.bz) (cond (eqB a0.bh a1.bh) (cond (eqB a0.ah a1.ah) (cond (eqB a0.bg a1.bg) (cond (eqB a0.aY a1.aY) (cond (booB a0.cj a1.cj) (cond (eqB a0.eU a1.eU) (acE (qG a0.bW a1.bW) λr2=>ς r2) (ς η)) (ς η)) (ς η)) (ς η)) (ς η)) (ς η)) (ς η)) else(ς η)) λ(v1:Bool)=>ς v1
instance Yu{a0:aC}{a1:aC} :FC prog (uJ a0 a1=ς r) 62 [.agg (dF a0),.agg (dF a1)] [.c (.d (.b r))]:=gG func62 ntmps62 (hb 10 4)
def Ae(a0:bO)(a1:bO):Option Bool:=
 acE (cond (eqB a0.jS a1.jS) (cond (eqB a0.jO a1.jO) (cond (eqB a0.eB a1.eB) (acE (we a0.bQ a1.bQ) λr2=>ς r2) (ς η)) (ς η)) (ς η)) λ(v1:Bool)=>ς v1
instance aa6{a0:bO}{a1:bO} :FC prog (Ae a0 a1=ς r) 115 [.agg (iJ a0),.agg (iJ a1)] [.c (.d (.b r))]:=gG func115 ntmps115 (hb 10 4)
def uL(a0:aV)(a1:aV):Option Bool:=
 acE (cond (eqB a0.bB a1.bB) (acE (pj a0.aF a1.aF) λr2=>ς r2) (ς η)) λ(v1:Bool)=>ς v1
instance Yw{a0:aV}{a1:aV} :FC prog (uL a0 a1=ς r) 117 [.agg (fH a0),.agg (fH a1)] [.c (.d (.b r))]:=gG func117 ntmps117 (hb 10 4)
def sJ(a0:ag)(a1:ag):Option Bool:=
 acE (cond (!(eqB a0.bT.ID.d4 a1.bT.ID.d4&&(eqB a0.bT.ID.bZ a1.bT.ID.bZ&&(eqB a0.bT.fA a1.bT.fA&&(eqB a0.bT.cX a1.bT.cX&&ζ))))) (ς ζ) (acE (Ae a0.gB a1.gB) λr2=>cond (!r2) (ς ζ) (cond (!eqB a0.bz a1.bz) (ς ζ) (cond (!(eqB a0.aA.ez a1.aA.ez&&(eqB a0.aA.f7 a1.aA.f7&&(eqB a0.aA.i7 a1.aA.i7&&(eqB a0.aA.vP a1.aA.vP&&(eqB a0.aA.fA a1.aA.fA&&ζ)))))) (ς ζ) (cond (!eqB a0.bG a1.bG) (ς ζ) (cond (!eqB a0.ah a1.ah) (ς ζ) (cond (!eqB a0.bg a1.bg) (ς ζ) (cond (!eqB a0.aY a1.aY) (ς ζ) (ς (!eqB a0.bh a1.bh)))))))))) λ(v1:Bool)=>cond v1 (ς η) (acE (cond (eqB a0.dQ a1.dQ) (bif(eqB a0.f6.fF a1.f6.fF&&(eqB a0.f6.eT a1.f6.eT&&(eqB a0.f6.eU a1.f6.eU&&ζ))) then(acE (lB a0.aS a1.aS) λr4=>cond r4 (acE (uL a0.aK a1.aK) λr5=>cond r5 (cond (eqB a0.dL a1.dL) (ς (eqB a0.bX.aO a1.bX.aO&&(eqB a0.bX.cP a1.bX.cP&&(eqB a0.bX.eH a1.bX.eH&&ζ)))) (ς η)) (ς η)) (ς η)) else(ς η)) (ς η)) λ(v3:Bool)=>ς v3)
instance VZ{a0:ag}{a1:ag} :FC prog (sJ a0 a1=ς r) 63 [.agg (cp a0),.agg (cp a1)] [.c (.d (.b r))]:=gG func63 ntmps63 (hb 10 66) (hb 72 4)
def rJ(a0:aj)(a1:aj):Int->Option (ci (Int) (Bool))
 |v2=>cond (ltB v2 (a0.an.length:Int)) (acE (ix a0.an v2) λx3=>acE (ix a1.an v2) λx4=>cond (!(eqB x3.aO x4.aO&&(eqB x3.ea x4.ea&&ζ))) (dn (ς η)) (ς (.next (WR (v2+1))))) (dn (ς ζ))
def sI(a0:aj)(a1:aj):Option Bool:=
 acE (cond (!eqB a0.gm a1.gm) (ς ζ) (cond (!eqB a0.bK a1.bK) (ς ζ) (cond (!eqB a0.eR a1.eR) (ς ζ) (ς (!eqB (a0.an.length:Int) (a1.an.length:Int)))))) λ(v1:Bool)=>cond v1 (ς η) (iter (rJ a0 a1) FU 0)
instance VU{a0:aj}{a1:aj} :FC prog (sI a0 a1=ς r) 64 [.agg (dh a0),.agg (dh a1)] [.c (.d (.b r))]:=gG func64 ntmps64 (hb 11 33) (hl 0 5)
def xn(a0:bw)(a1:bw):Option Bool:=
 acE (cond (eqB a0.dt a1.dt) (cond (eqB a0.gk a1.gk) (cond (eqB a0.i7 a1.i7) (acE (nW a0.bk a1.bk) λr2=>ς r2) (ς η)) (ς η)) (ς η)) λ(v1:Bool)=>ς v1
instance VY{a0:bw}{a1:bw} :FC prog (xn a0 a1=ς r) 202 [.agg (eg a0),.agg (eg a1)] [.c (.d (.b r))]:=gG func202 ntmps202 (hb 10 4)
def Bo(a0:aD)(a1:aD):Option Bool:=
 acE (cond (eqB a0.ah a1.ah) (cond (eqB a0.aY a1.aY) (acE (xn a0.bL a1.bL) λr2=>ς r2) (ς η)) (ς η)) λ(v1:Bool)=>ς v1
instance Zw{a0:aD}{a1:aD} :FC prog (Bo a0 a1=ς r) 118 [.agg (dr a0),.agg (dr a1)] [.c (.d (.b r))]:=gG func118 ntmps118 (hb 10 4)
def uK(a0:bA)(a1:bA):Option Bool:=
 acE (cond (eqB a0.bj a1.bj) (cond (booB a0.ey a1.ey) (cond (booB a0.dB a1.dB) (cond (eqB a0.bh a1.bh) (bif(eqB a0.a8.bu a1.a8.bu&&(eqB a0.a8.bh a1.a8.bh&&(eqB a0.a8.ah a1.a8.ah&&(eqB a0.a8.aY a1.a8.aY&&(eqB a0.a8.bZ a1.a8.bZ&&(eqB a0.a8.b8.ez a1.a8.b8.ez&&(eqB a0.a8.b8.f7 a1.a8.b8.f7&&(eqB a0.a8.b8.i7 a1.a8.b8.i7&&(eqB a0.a8.b8.vP a1.a8.b8.vP&&(eqB a0.a8.b8.fA a1.a8.b8.fA&&(eqB a0.a8.i7 a1.a8.i7&&ζ))))))))))) then(acE (Bo a0.ct a1.ct) λr2=>ς r2) else(ς η)) (ς η)) (ς η)) (ς η)) (ς η)) λ(v1:Bool)=>ς v1
instance Yv{a0:bA}{a1:bA} :FC prog (uK a0 a1=ς r) 65 [.agg (eP a0),.agg (eP a1)] [.c (.d (.b r))]:=gG func65 ntmps65 (hb 10 4)
def rO(a0:ae)(a1:ae):Int->Option (ci (Int) (Bool))
 |v15=>cond (ltB v15 (a0.aT.length:Int)) (acE (ix a0.aT v15) λx16=>acE (ix a1.aT v15) λx17=>acE (uK x16 x17) λr18=>cond (!r18) (dn (ς η)) (ς (.next (WR (v15+1))))) (dn (ς ζ))
def rN(a0:ae)(a1:ae):Int->Option (ci (Int) (Bool))
 |v11=>cond (ltB v11 (a0.bD.length:Int)) (acE (ix a0.bD v11) λx12=>acE (ix a1.bD v11) λx13=>acE (sI x12 x13) λr14=>cond (!r14) (dn (ς η)) (ς (.next (WR (v11+1))))) (dn (iter (rO a0 a1) FU 0))
def rL(a0:ae)(a1:ae):Int->Option (ci (Int) (Bool))
 |v7=>cond (ltB v7 (a0.aJ.length:Int)) (acE (ix a0.aJ v7) λx8=>acE (ix a1.aJ v7) λx9=>acE (sJ x8 x9) λr10=>cond (!r10) (dn (ς η)) (ς (.next (WR (v7+1))))) (dn (iter (rN a0 a1) FU 0))
def rK(a0:ae)(a1:ae):Int->Option (ci (Int) (Bool))
 |v3=>cond (ltB v3 (a0.ax.length:Int)) (acE (ix a0.ax v3) λx4=>acE (ix a1.ax v3) λx5=>acE (uJ x4 x5) λr6=>cond (!r6) (dn (ς η)) (ς (.next (WR (v3+1))))) (dn (iter (rL a0 a1) FU 0))
def kN(a0:ae)(a1:ae):Option Bool:=
 acE (Ci a0.d7 a1.d7) λr1=>acE (cond (!r1) (ς ζ) (cond (!eqB (a0.ax.length:Int) (a1.ax.length:Int)) (ς ζ) (cond (!eqB (a0.aJ.length:Int) (a1.aJ.length:Int)) (ς ζ) (cond (!eqB (a0.bD.length:Int) (a1.bD.length:Int)) (ς ζ) (cond (!eqB (a0.aT.length:Int) (a1.aT.length:Int)) (ς ζ) (cond (!eqB a0.cF a1.cF) (ς ζ) (cond (!(eqB a0.fP.fy a1.fP.fy&&(eqB a0.fP.fj a1.fP.fj&&ζ))) (ς ζ) (cond (!eqB a0.lV a1.lV) (ς ζ) (ς (!eqB a0.Lost a1.Lost)))))))))) λ(v2:Bool)=>cond v2 (ς η) (iter (rK a0 a1) FU 0)
instance VW{a0:ae}{a1:ae} :FC prog (kN a0 a1=ς r) 22 [.agg (g5 a0),.agg (g5 a1)] [.c (.d (.b r))]:=gG func22 ntmps22 (hb 15 78) (hl 0 5) (hl 2 6) (hl 4 7) (hl 6 8)
def lat(a0:List Int)(a1:Int):Option Int:=
 cond (ltB a1 (a0.length:Int)) (acE (ix a0 a1) λx1=>ς (WR (x1))) (ς (Int.tmod (WR ((WR (a1*31))+(WR ((a0.length:Int)*7)))) 256))
instance lat_c{a0:List Int}{a1:Int}{r:Int}:FC prog (lat a0 a1=ς r) 25 [aL (a0.map eU8),aI a1] [.c (.d (.i .i64 r))]:=gG func25 ntmps25
end Go.AM
