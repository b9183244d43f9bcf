/- A part. -/
import Derived.Test.YtcnfbcpgepbnkaaGreatG
set_option linter.unusedVariables false
open Option renaming some->ς,none->ξ
open Bool renaming true->ζ,false->η
open True renaming intro->θ
open Option renaming bind->abX
open List renaming replicate->aae
namespace Go.AM
open Go.Proofs
open Tryz
attribute [local irreducible] AWN NS AWO AWR AWC DR DZ cp ec iter
set_option maxRecDepth 100000
set_option maxHeartbeats 40000000
variable{a0:List Int}{a1 r:Int}
def C0(a0:List Int)(a1:Int):Option Int:=
 cond (ltB (WR (a1-(a0.length:Int))) 0) (ς (-1)) (ς (WR (a1-(a0.length:Int))))
instance lszIntS_c:FC prog (C0 a0 a1=ς r) 192 [aL (a0.map eI),aI a1] [.c (.d (.i .i64 r))]:=gG func192 ntmps192
def CZ(a0:cA)(a1:Int):Option Int:=
 abX (C0 a0.bI a1) λr1=>cond (ltB r1 0) (ς (-1)) (ς r1)
instance lszCell_c{a0:cA} :FC prog (CZ a0 a1=ς r) 113 [.agg (cQ a0),aI a1] [.c (.d (.i .i64 r))]:=gG func113 ntmps113
def Km(a0:List cA):(Int×Int)->Option (bN (Int×Int) (Int))
 |(v1,v2)=>cond (ltB v2 (a0.length:Int)) (abX (ix a0 v2) λx3=>abX (CZ x3 v1) λr4=>cond (ltB r4 0) (dn (ς (-1))) (ς (.next (r4,WR (v2+1))))) (dn (ς v1))
def En(a0:List cA)(a1:Int):Option Int:=
 cond (ltB (WR (a1-(a0.length:Int))) 0) (ς (-1)) (iter (Km a0) FU (WR (a1-(a0.length:Int)),0))
instance lszCellS_c{a0:List cA} :FC prog (En a0 a1=ς r) 57 [aL (a0.map cQ),aI a1] [.c (.d (.i .i64 r))]:=gG func57 ntmps57 (hm 0 1 5)
def uQ(a0:bz)(a1:Int):Option Int:=
 abX (En a0.bD a1) λr1=>cond (ltB r1 0) (ς (-1)) (ς r1)
instance XN{a0:bz} :FC prog (uQ a0 a1=ς r) 20 [.agg (gm a0),aI a1] [.c (.d (.i .i64 r))]:=gG func20 ntmps20
def wu(a0:List Int)(a1:Int):Option Int:=
 cond (ltB (WR (a1-(a0.length:Int))) 0) (ς (-1)) (ς (WR (a1-(a0.length:Int))))
instance lszByteS_c:FC prog (wu a0 a1=ς r) 281 [aL (a0.map eU8),aI a1] [.c (.d (.i .i64 r))]:=gG func281 ntmps281
def uS(a0:aC)(a1:Int):Option Int:=
 abX (wu a0.bk a1) λr1=>cond (ltB r1 0) (ς (-1)) (ς r1)
instance XQ{a0:aC} :FC prog (uS a0 a1=ς r) 194 [.agg (bQ a0),aI a1] [.c (.d (.i .i64 r))]:=gG func194 ntmps194
def Eo(a0:List aC):(Int×Int)->Option (bN (Int×Int) (Int))
 |(v1,v2)=>cond (ltB v2 (a0.length:Int)) (abX (ix a0 v2) λx3=>abX (uS x3 v1) λr4=>cond (ltB r4 0) (dn (ς (-1))) (ς (.next (r4,WR (v2+1))))) (dn (ς v1))
def sH(a0:List aC)(a1:Int):Option Int:=
 cond (ltB (WR (a1-(a0.length:Int))) 0) (ς (-1)) (iter (Eo a0) FU (WR (a1-(a0.length:Int)),0))
instance WF{a0:List aC} :FC prog (sH a0 a1=ς r) 116 [aL (a0.map bQ),aI a1] [.c (.d (.i .i64 r))]:=gG func116 ntmps116 (hm 0 1 5)
def jU(a0:ab)(a1:Int):Option Int:=
 abX (wu a0.bk a1) λr1=>cond (ltB r1 0) (ς (-1)) (ς r1)
instance L1{a0:ab} :FC prog (jU a0 a1=ς r) 280 [.agg (ah a0),aI a1] [.c (.d (.i .i64 r))]:=gG func280 ntmps280
def vC(a0:List ab):(Int×Int)->Option (bN (Int×Int) (Int))
 |(v1,v2)=>cond (ltB v2 (a0.length:Int)) (abX (ix a0 v2) λx3=>abX (jU x3 v1) λr4=>cond (ltB r4 0) (dn (ς (-1))) (ς (.next (r4,WR (v2+1))))) (dn (ς v1))
def iY(a0:List ab)(a1:Int):Option Int:=
 cond (ltB (WR (a1-(a0.length:Int))) 0) (ς (-1)) (iter (vC a0) FU (WR (a1-(a0.length:Int)),0))
instance Kn{a0:List ab} :FC prog (iY a0 a1=ς r) 193 [aL (a0.map ah),aI a1] [.c (.d (.i .i64 r))]:=gG func193 ntmps193 (hm 0 1 5)
def kR(a0:aj)(a1:Int):Option Int:=
 abX (iY a0.am a1) λr1=>cond (ltB r1 0) (ς (-1)) (abX (sH a0.aD r1) λr2=>cond (ltB r2 0) (ς (-1)) (ς r2))
instance My{a0:aj} :FC prog (kR a0 a1=ς r) 114 [.agg (dw a0),aI a1] [.c (.d (.i .i64 r))]:=gG func114 ntmps114
def xC(a0:av)(a1:Int):Option Int:=
 abX (kR a0.bY a1) λr1=>cond (ltB r1 0) (ς (-1)) (ς r1)
instance Zr{a0:av} :FC prog (xC a0 a1=ς r) 58 [.agg (aZ a0),aI a1] [.c (.d (.i .i64 r))]:=gG func58 ntmps58
def FI(a0:List av):(Int×Int)->Option (bN (Int×Int) (Int))
 |(v1,v2)=>cond (ltB v2 (a0.length:Int)) (abX (ix a0 v2) λx3=>abX (xC x3 v1) λr4=>cond (ltB r4 0) (dn (ς (-1))) (ς (.next (r4,WR (v2+1))))) (dn (ς v1))
def zh(a0:List av)(a1:Int):Option Int:=
 cond (ltB (WR (a1-(a0.length:Int))) 0) (ς (-1)) (iter (FI a0) FU (WR (a1-(a0.length:Int)),0))
instance XO{a0:List av} :FC prog (zh a0 a1=ς r) 21 [aL (a0.map aZ),aI a1] [.c (.d (.i .i64 r))]:=gG func21 ntmps21 (hm 0 1 5)
def lX(a0:bh)(a1:Int):Option Int:=
 abX (C0 a0.aV a1) λr1=>cond (ltB r1 0) (ς (-1)) (ς r1)
instance OR{a0:bh} :FC prog (lX a0 a1=ς r) 115 [.agg (eB a0),aI a1] [.c (.d (.i .i64 r))]:=gG func115 ntmps115
def pa(a0:aF)(a1:Int):Option Int:=
 abX (iY a0.aJ a1) λr1=>cond (ltB r1 0) (ς (-1)) (ς r1)
instance Sc{a0:aF} :FC prog (pa a0 a1=ς r) 117 [.agg (eA a0),aI a1] [.c (.d (.i .i64 r))]:=gG func117 ntmps117
def uT(a0:ag)(a1:Int):Option Int:=
 abX (lX a0.gu a1) λr1=>cond (ltB r1 0) (ς (-1)) (abX (sH a0.aX r1) λr2=>cond (ltB r2 0) (ς (-1)) (abX (pa a0.aY r2) λr3=>cond (ltB r3 0) (ς (-1)) (ς r3)))
instance XR{a0:ag} :FC prog (uT a0 a1=ς r) 59 [.agg (aB a0),aI a1] [.c (.d (.i .i64 r))]:=gG func59 ntmps59
def Ep(a0:List ag):(Int×Int)->Option (bN (Int×Int) (Int))
 |(v1,v2)=>cond (ltB v2 (a0.length:Int)) (abX (ix a0 v2) λx3=>abX (uT x3 v1) λr4=>cond (ltB r4 0) (dn (ς (-1))) (ς (.next (r4,WR (v2+1))))) (dn (ς v1))
def wv(a0:List ag)(a1:Int):Option Int:=
 cond (ltB (WR (a1-(a0.length:Int))) 0) (ς (-1)) (iter (Ep a0) FU (WR (a1-(a0.length:Int)),0))
instance WG{a0:List ag} :FC prog (wv a0 a1=ς r) 22 [aL (a0.map aB),aI a1] [.c (.d (.i .i64 r))]:=gG func22 ntmps22 (hm 0 1 5)
def pS(a0:List aA)(a1:Int):Option Int:=
 cond (ltB (WR (a1-(a0.length:Int))) 0) (ς (-1)) (ς (WR (a1-(a0.length:Int))))
instance OQ{a0:List aA} :FC prog (pS a0 a1=ς r) 118 [aL (a0.map bT),aI a1] [.c (.d (.i .i64 r))]:=gG func118 ntmps118
def uP(a0:an)(a1:Int):Option Int:=
 abX (pS a0.aG a1) λr1=>cond (ltB r1 0) (ς (-1)) (ς r1)
instance XM{a0:an} :FC prog (uP a0 a1=ς r) 60 [.agg (bu a0),aI a1] [.c (.d (.i .i64 r))]:=gG func60 ntmps60
def Em(a0:List an):(Int×Int)->Option (bN (Int×Int) (Int))
 |(v1,v2)=>cond (ltB v2 (a0.length:Int)) (abX (ix a0 v2) λx3=>abX (uP x3 v1) λr4=>cond (ltB r4 0) (dn (ς (-1))) (ς (.next (r4,WR (v2+1))))) (dn (ς v1))
def wr(a0:List an)(a1:Int):Option Int:=
 cond (ltB (WR (a1-(a0.length:Int))) 0) (ς (-1)) (iter (Em a0) FU (WR (a1-(a0.length:Int)),0))
instance WE{a0:List an} :FC prog (wr a0 a1=ς r) 23 [aL (a0.map bu),aI a1] [.c (.d (.i .i64 r))]:=gG func23 ntmps23 (hm 0 1 5)
def jV(a0:aS)(a1:Int):Option Int:=
 abX (wu a0.bk a1) λr1=>cond (ltB r1 0) (ς (-1)) (ς r1)
instance L2{a0:aS} :FC prog (jV a0 a1=ς r) 195 [.agg (cZ a0),aI a1] [.c (.d (.i .i64 r))]:=gG func195 ntmps195
def nK(a0:aT)(a1:Int):Option Int:=
 abX (jV a0.a9 a1) λr1=>cond (ltB r1 0) (ς (-1)) (ς r1)
instance QC{a0:aT} :FC prog (nK a0 a1=ς r) 119 [.agg (db a0),aI a1] [.c (.d (.i .i64 r))]:=gG func119 ntmps119
def xD(a0:aH)(a1:Int):Option Int:=
 abX (nK a0.cY a1) λr1=>cond (ltB r1 0) (ς (-1)) (ς r1)
instance Zs{a0:aH} :FC prog (xD a0 a1=ς r) 61 [.agg (aW a0),aI a1] [.c (.d (.i .i64 r))]:=gG func61 ntmps61
def FJ(a0:List aH):(Int×Int)->Option (bN (Int×Int) (Int))
 |(v1,v2)=>cond (ltB v2 (a0.length:Int)) (abX (ix a0 v2) λx3=>abX (xD x3 v1) λr4=>cond (ltB r4 0) (dn (ς (-1))) (ς (.next (r4,WR (v2+1))))) (dn (ς v1))
def zi(a0:List aH)(a1:Int):Option Int:=
 cond (ltB (WR (a1-(a0.length:Int))) 0) (ς (-1)) (iter (FJ a0) FU (WR (a1-(a0.length:Int)),0))
instance XP{a0:List aH} :FC prog (zi a0 a1=ς r) 24 [aL (a0.map aW),aI a1] [.c (.d (.i .i64 r))]:=gG func24 ntmps24 (hm 0 1 5)
def uR(a0:ae)(a1:Int):Option Int:=
 abX (uQ a0.gr a1) λr1=>cond (ltB r1 0) (ς (-1)) (abX (zh a0.aO r1) λr2=>cond (ltB r2 0) (ς (-1)) (abX (wv a0.a8 r2) λr3=>cond (ltB r3 0) (ς (-1)) (abX (wr a0.bU r3) λr4=>cond (ltB r4 0) (ς (-1)) (abX (zi a0.ax r4) λr5=>cond (ltB r5 0) (ς (-1)) (ς r5)))))
instance H8{a0:ae} :FC prog (uR a0 a1=ς r) 7 [.agg (ev a0),aI a1] [.c (.d (.i .i64 r))]:=gG func7 ntmps7
def MA(a0:List Int):(Int×List Int)->Option (bN (Int×List Int) (List Int))
 |(v1,v2)=>cond (ltB v1 (a0.length:Int)) (abX (ix a0 v1) λx6=>abX (ix v2 v1) λx7=>ς (.next (WR (v1+1),(v2.set (v1).toNat x6)))) (ς (.done v2))
def C5(a0:List Int):Option (List Int):=
 cond (iG 8 (a0.length:Int) (a0.length:Int)) (abX (iter (MA a0) FU (0,(aae ((a0.length:Int)).toNat (0:Int)))) λ(v5:List Int)=>ς v5) ξ
instance ltoIntS_c{r:List Int}:FC prog (C5 a0=ς r) 223 [aL (a0.map eI)] [.c (.own 3 1 (r.map eI) r.length)]:=gG func223 ntmps223 (hL 0 (λ(v:Int×List Int) sl ob nx=>⟨(3,.v (.c (.w 0 v.2.length)))::(4,tI v.1)::xS [0] sl,[(0,w3 v.2)]++ob,nx⟩)) (hB 0 (λ(v:List Int) sl ob nx=>⟨(3,.v (.c (.w 0 v.length)))::(4,.any)::xS [0] sl,[(0,w3 v)]++ob,nx⟩))
def C4(a0:cA):Option cA:=
 abX (C5 a0.bI) λr1=>ς (⟨a0.mG,r1⟩:cA)
instance ltoCell_c{a0:cA}{r:cA}:FC prog (C4 a0=ς r) 137 [.agg (cQ a0)] [.agg (qM [.o] (fTCell r))]:=gG func137 ntmps137
def Ks(a0:List cA):(Int×List cA)->Option (bN (Int×List cA) (List cA))
 |(v1,v2)=>cond (ltB v1 (a0.length:Int)) (abX (ix a0 v1) λx7=>abX (C4 x7) λr8=>abX (ix v2 v1) λx9=>ς (.next (WR (v1+1),(v2.set (v1).toNat r8)))) (ς (.done v2))
def Es(a0:List cA):Option (List cA):=
 cond (iG 32 (a0.length:Int) (a0.length:Int)) (abX (iter (Ks a0) FU (0,(aae ((a0.length:Int)).toNat Fl))) λ(v6:List cA)=>ς v6) ξ
instance ltoCellS_c{a0:List cA}{r:List cA}:FC prog (Es a0=ς r) 71 [aL (a0.map cQ)] [.c (.own 198 2 (r.map cQ) r.length)]:=gG func71 ntmps71 (hL 0 (λ(v:Int×List cA) sl ob nx=>⟨(3,.v (.c (.w 0 v.2.length)))::(4,tI v.1)::xS [0] sl,[(0,YY v.2)]++ob,nx⟩)) (hB 0 (λ(v:List cA) sl ob nx=>⟨(3,.v (.c (.w 0 v.length)))::(4,.any)::xS [0] sl,[(0,YY v)]++ob,nx⟩))
def uV(a0:bz):Option bz:=
 abX (Es a0.bD) λr1=>ς (⟨r1⟩:bz)
instance XV{a0:bz}{r:bz}:FC prog (uV a0=ς r) 29 [.agg (gm a0)] [.agg [.own 198 2 (r.bD.map cQ) r.bD.length]]:=gG func29 ntmps29
def js(a0:cf):Option cf:=
 ς a0
instance OU{a0:cf}{r:cf}:FC prog (js a0=ς r) 224 [.agg (f5 a0)] [.agg (qM [] (DL r))]:=gG func224 ntmps224
def C6(a0:ik):Option ik:=
 abX (js a0.ID) λr1=>ς {a0 with ID:=r1}
instance ltoUSIM_c{a0:ik}{r:ik}:FC prog (C6 a0=ς r) 138 [.agg (yS a0)] [.agg (qM [] (HM r))]:=gG func138 ntmps138
def Kr(a0:List Int):(Int×List Int)->Option (bN (Int×List Int) (List Int))
 |(v1,v2)=>cond (ltB v1 (a0.length:Int)) (abX (ix a0 v1) λx6=>abX (ix v2 v1) λx7=>ς (.next (WR (v1+1),(v2.set (v1).toNat x6)))) (ς (.done v2))
def wx(a0:List Int):Option (List Int):=
 cond (iG 1 (a0.length:Int) (a0.length:Int)) (abX (iter (Kr a0) FU (0,(aae ((a0.length:Int)).toNat (0:Int)))) λ(v5:List Int)=>ς v5) ξ
instance ltoByteS_c{r:List Int}:FC prog (wx a0=ς r) 302 [aL (a0.map eU8)] [.c (.own 5 1 (r.map eU8) r.length)]:=gG func302 ntmps302 (hL 0 (λ(v:Int×List Int) sl ob nx=>⟨(3,.v (.c (.w 0 v.2.length)))::(4,tI v.1)::xS [0] sl,[(0,w5 v.2)]++ob,nx⟩)) (hB 0 (λ(v:List Int) sl ob nx=>⟨(3,.v (.c (.w 0 v.length)))::(4,.any)::xS [0] sl,[(0,w5 v)]++ob,nx⟩))
def uW(a0:aC):Option aC:=
 abX (wx a0.bk) λr1=>ς (⟨r1⟩:aC)
instance XY{a0:aC}{r:aC}:FC prog (uW a0=ς r) 226 [.agg (bQ a0)] [.agg [.own 5 1 (r.bk.map eU8) r.bk.length]]:=gG func226 ntmps226
def Et(a0:List aC):(Int×List aC)->Option (bN (Int×List aC) (List aC))
 |(v1,v2)=>cond (ltB v1 (a0.length:Int)) (abX (ix a0 v1) λx7=>abX (uW x7) λr8=>abX (ix v2 v1) λx9=>ς (.next (WR (v1+1),(v2.set (v1).toNat r8)))) (ς (.done v2))
def sI(a0:List aC):Option (List aC):=
 cond (iG 24 (a0.length:Int) (a0.length:Int)) (abX (iter (Et a0) FU (0,(aae ((a0.length:Int)).toNat (⟨[]⟩:aC)))) λ(v6:List aC)=>ς v6) ξ
instance WI{a0:List aC}{r:List aC}:FC prog (sI a0=ς r) 144 [aL (a0.map bQ)] [.c (.own 251 1 (r.map bQ) r.length)]:=gG func144 ntmps144 (hL 0 (λ(v:Int×List aC) sl ob nx=>⟨(3,.v (.c (.w 0 v.2.length)))::(4,tI v.1)::xS [0] sl,[(0,RI v.2)]++ob,nx⟩)) (hB 0 (λ(v:List aC) sl ob nx=>⟨(3,.v (.c (.w 0 v.length)))::(4,.any)::xS [0] sl,[(0,RI v)]++ob,nx⟩))
def jW(a0:ab):Option ab:=
 abX (wx a0.bk) λr1=>ς (⟨a0.cP,r1⟩:ab)
instance L3{a0:ab}{r:ab}:FC prog (jW a0=ς r) 301 [.agg (ah a0)] [.agg (qM [.o] (dR r))]:=gG func301 ntmps301
def vF(a0:List ab):(Int×List ab)->Option (bN (Int×List ab) (List ab))
 |(v1,v2)=>cond (ltB v1 (a0.length:Int)) (abX (ix a0 v1) λx7=>abX (jW x7) λr8=>abX (ix v2 v1) λx9=>ς (.next (WR (v1+1),(v2.set (v1).toNat r8)))) (ς (.done v2))
def i6(a0:List ab):Option (List ab):=
 cond (iG 32 (a0.length:Int) (a0.length:Int)) (abX (iter (vF a0) FU (0,(aae ((a0.length:Int)).toNat bg))) λ(v6:List ab)=>ς v6) ξ
instance Kt{a0:List ab}{r:List ab}:FC prog (i6 a0=ς r) 225 [aL (a0.map ah)] [.c (.own 249 2 (r.map ah) r.length)]:=gG func225 ntmps225 (hL 0 (λ(v:Int×List ab) sl ob nx=>⟨(3,.v (.c (.w 0 v.2.length)))::(4,tI v.1)::xS [0] sl,[(0,Jd v.2)]++ob,nx⟩)) (hB 0 (λ(v:List ab) sl ob nx=>⟨(3,.v (.c (.w 0 v.length)))::(4,.any)::xS [0] sl,[(0,Jd v)]++ob,nx⟩))
def kS(a0:aj):Option aj:=
 abX (i6 a0.am) λr1=>abX (sI a0.aD) λr2=>ς (⟨a0.bK,r1,r2⟩:aj)
instance MB{a0:aj}{r:aj}:FC prog (kS a0=ς r) 139 [.agg (dw a0)] [.agg (qM [.o,.o] (bX r))]:=gG func139 ntmps139
def xE(a0:av):Option av:=
 abX (C6 a0.dJ) λr1=>abX (kS a0.bY) λr2=>ς {a0 with dJ:=r1,bY:=r2}
instance Zt{a0:av}{r:av}:FC prog (xE a0=ς r) 72 [.agg (aZ a0)] [.agg (qM [.o,.o] (gv r))]:=gG func72 ntmps72
def FK(a0:List av):(Int×List av)->Option (bN (Int×List av) (List av))
 |(v1,v2)=>cond (ltB v1 (a0.length:Int)) (abX (ix a0 v1) λx7=>abX (xE x7) λr8=>abX (ix v2 v1) λx9=>ς (.next (WR (v1+1),(v2.set (v1).toNat r8)))) (ς (.done v2))
def zj(a0:List av):Option (List av):=
 cond (iG 144 (a0.length:Int) (a0.length:Int)) (abX (iter (FK a0) FU (0,(aae ((a0.length:Int)).toNat xj))) λ(v6:List av)=>ς v6) ξ
instance XW{a0:List av}{r:List av}:FC prog (zj a0=ς r) 30 [aL (a0.map aZ)] [.c (.own 129 14 (r.map aZ) r.length)]:=gG func30 ntmps30 (hL 0 (λ(v:Int×List av) sl ob nx=>⟨(3,.v (.c (.w 0 v.2.length)))::(4,tI v.1)::xS [0] sl,[(0,Wa v.2)]++ob,nx⟩)) (hB 0 (λ(v:List av) sl ob nx=>⟨(3,.v (.c (.w 0 v.length)))::(4,.any)::xS [0] sl,[(0,Wa v)]++ob,nx⟩))
def g8(a0:be):Option be:=
 abX (js a0.ID) λr1=>ς {a0 with ID:=r1}
instance Jj{a0:be}{r:be}:FC prog (g8 a0=ς r) 140 [.agg (ei a0)] [.agg (qM [] (mh r))]:=gG func140 ntmps140
def lY(a0:bh):Option bh:=
 abX (C5 a0.aV) λr1=>ς {a0 with aV:=r1}
instance OV{a0:bh}{r:bh}:FC prog (lY a0=ς r) 141 [.agg (eB a0)] [.agg (qM [.o] (mM r))]:=gG func141 ntmps141
def lF(a0:bL):Option bL:=
 ς a0
instance Sd{a0:bL}{r:bL}:FC prog (lF a0=ς r) 142 [.agg (fM a0)] [.agg (qM [] (mL r))]:=gG func142 ntmps142
def nL(a0:cT):Option cT:=
 ς a0
instance QD{a0:cT}{r:cT}:FC prog (nL a0=ς r) 143 [.agg (lr a0)] [.agg (qM [] (Fu r))]:=gG func143 ntmps143
def pb(a0:aF):Option aF:=
 abX (i6 a0.aJ) λr1=>ς (⟨a0.bK,r1⟩:aF)
instance Se{a0:aF}{r:aF}:FC prog (pb a0=ς r) 145 [.agg (eA a0)] [.agg (qM [.o] (dW r))]:=gG func145 ntmps145
def Ak(a0:cU):Option cU:=
 ς a0
instance ltoQuota_c{a0:cU}{r:cU}:FC prog (Ak a0=ς r) 146 [.agg (mJ a0)] [.agg (qM [] (HI r))]:=gG func146 ntmps146
def uX(a0:ag):Option ag:=
 abX (g8 a0.bF) λr1=>abX (lY a0.gu) λr2=>abX (lF a0.am) λr3=>abX (nL a0.oy) λr4=>abX (sI a0.aX) λr5=>abX (pb a0.aY) λr6=>abX (Ak a0.dq) λr7=>ς {a0 with bF:=r1,gu:=r2,am:=r3,oy:=r4,aX:=r5,aY:=r6,dq:=r7}
instance XZ{a0:ag}{r:ag}:FC prog (uX a0=ς r) 73 [.agg (aB a0)] [.agg (qM [.o,.o,.o] (gp r))]:=gG func73 ntmps73
def Eu(a0:List ag):(Int×List ag)->Option (bN (Int×List ag) (List ag))
 |(v1,v2)=>cond (ltB v1 (a0.length:Int)) (abX (ix a0 v1) λx7=>abX (uX x7) λr8=>abX (ix v2 v1) λx9=>ς (.next (WR (v1+1),(v2.set (v1).toNat r8)))) (ς (.done v2))
def wy(a0:List ag):Option (List ag):=
 cond (iG 288 (a0.length:Int) (a0.length:Int)) (abX (iter (Eu a0) FU (0,(aae ((a0.length:Int)).toNat ud))) λ(v6:List ag)=>ς v6) ξ
instance WJ{a0:List ag}{r:List ag}:FC prog (wy a0=ς r) 31 [aL (a0.map aB)] [.c (.own 140 30 (r.map aB) r.length)]:=gG func31 ntmps31 (hL 0 (λ(v:Int×List ag) sl ob nx=>⟨(3,.v (.c (.w 0 v.2.length)))::(4,tI v.1)::xS [0] sl,[(0,Wb v.2)]++ob,nx⟩)) (hB 0 (λ(v:List ag) sl ob nx=>⟨(3,.v (.c (.w 0 v.length)))::(4,.any)::xS [0] sl,[(0,Wb v)]++ob,nx⟩))
def nN(a0:aA):Option aA:=
 ς a0
instance QF{a0:aA}{r:aA}:FC prog (nN a0=ς r) 227 [.agg (bT a0)] [.agg (qM [] (Fv r))]:=gG func227 ntmps227
def zl(a0:List aA):(Int×List aA)->Option (bN (Int×List aA) (List aA))
 |(v1,v2)=>cond (ltB v1 (a0.length:Int)) (abX (ix a0 v1) λx7=>abX (nN x7) λr8=>abX (ix v2 v1) λx9=>ς (.next (WR (v1+1),(v2.set (v1).toNat r8)))) (ς (.done v2))
def pT(a0:List aA):Option (List aA):=
 cond (iG 16 (a0.length:Int) (a0.length:Int)) (abX (iter (zl a0) FU (0,(aae ((a0.length:Int)).toNat tx))) λ(v6:List aA)=>ς v6) ξ
instance OT{a0:List aA}{r:List aA}:FC prog (pT a0=ς r) 147 [aL (a0.map bT)] [.c (.own 232 2 (r.map bT) r.length)]:=gG func147 ntmps147 (hL 0 (λ(v:Int×List aA) sl ob nx=>⟨(3,.v (.c (.w 0 v.2.length)))::(4,tI v.1)::xS [0] sl,[(0,w232 v.2)]++ob,nx⟩)) (hB 0 (λ(v:List aA) sl ob nx=>⟨(3,.v (.c (.w 0 v.length)))::(4,.any)::xS [0] sl,[(0,w232 v)]++ob,nx⟩))
def uU(a0:an):Option an:=
 abX (pT a0.aG) λr1=>ς {a0 with aG:=r1}
instance XU{a0:an}{r:an}:FC prog (uU a0=ς r) 74 [.agg (bu a0)] [.agg (qM [.o] (xo r))]:=gG func74 ntmps74
def Er(a0:List an):(Int×List an)->Option (bN (Int×List an) (List an))
 |(v1,v2)=>cond (ltB v1 (a0.length:Int)) (abX (ix a0 v1) λx7=>abX (uU x7) λr8=>abX (ix v2 v1) λx9=>ς (.next (WR (v1+1),(v2.set (v1).toNat r8)))) (ς (.done v2))
def ww(a0:List an):Option (List an):=
 cond (iG 48 (a0.length:Int) (a0.length:Int)) (abX (iter (Er a0) FU (0,(aae ((a0.length:Int)).toNat xV))) λ(v6:List an)=>ς v6) ξ
instance WH{a0:List an}{r:List an}:FC prog (ww a0=ς r) 32 [aL (a0.map bu)] [.c (.own 144 4 (r.map bu) r.length)]:=gG func32 ntmps32 (hL 0 (λ(v:Int×List an) sl ob nx=>⟨(3,.v (.c (.w 0 v.2.length)))::(4,tI v.1)::xS [0] sl,[(0,Wc v.2)]++ob,nx⟩)) (hB 0 (λ(v:List an) sl ob nx=>⟨(3,.v (.c (.w 0 v.length)))::(4,.any)::xS [0] sl,[(0,Wc v)]++ob,nx⟩))
def xG(a0:ar):Option ar:=
 abX (lF a0.cy) λr1=>ς {a0 with cy:=r1}
instance Zv{a0:ar}{r:ar}:FC prog (xG a0=ς r) 148 [.agg (cb a0)] [.agg (qM [] (fH r))]:=gG func148 ntmps148
def jX(a0:aS):Option aS:=
 abX (wx a0.bk) λr1=>ς {a0 with bk:=r1}
instance L4{a0:aS}{r:aS}:FC prog (jX a0=ς r) 228 [.agg (cZ a0)] [.agg (qM [.o] (oG r))]:=gG func228 ntmps228
def nM(a0:aT):Option aT:=
 abX (jX a0.a9) λr1=>ς {a0 with a9:=r1}
instance QE{a0:aT}{r:aT}:FC prog (nM a0=ς r) 149 [.agg (db a0)] [.agg (qM [.o] (jy r))]:=gG func149 ntmps149
def xF(a0:aH):Option aH:=
 abX (xG a0.bS) λr1=>abX (nM a0.cY) λr2=>ς {a0 with bS:=r1,cY:=r2}
instance Zu{a0:aH}{r:aH}:FC prog (xF a0=ς r) 75 [.agg (aW a0)] [.agg (qM [.o] (jh r))]:=gG func75 ntmps75
def FL(a0:List aH):(Int×List aH)->Option (bN (Int×List aH) (List aH))
 |(v1,v2)=>cond (ltB v1 (a0.length:Int)) (abX (ix a0 v1) λx7=>abX (xF x7) λr8=>abX (ix v2 v1) λx9=>ς (.next (WR (v1+1),(v2.set (v1).toNat r8)))) (ς (.done v2))
def zk(a0:List aH):Option (List aH):=
 cond (iG 176 (a0.length:Int) (a0.length:Int)) (abX (iter (FL a0) FU (0,(aae ((a0.length:Int)).toNat iF))) λ(v6:List aH)=>ς v6) ξ
instance XX{a0:List aH}{r:List aH}:FC prog (zk a0=ς r) 33 [aL (a0.map aW)] [.c (.own 152 21 (r.map aW) r.length)]:=gG func33 ntmps33 (hL 0 (λ(v:Int×List aH) sl ob nx=>⟨(3,.v (.c (.w 0 v.2.length)))::(4,tI v.1)::xS [0] sl,[(0,Wd v.2)]++ob,nx⟩)) (hB 0 (λ(v:List aH) sl ob nx=>⟨(3,.v (.c (.w 0 v.length)))::(4,.any)::xS [0] sl,[(0,Wd v)]++ob,nx⟩))
def pc(a0:dh):Option dh:=
 ς a0
instance Sf{a0:dh}{r:dh}:FC prog (pc a0=ς r) 34 [.agg (mK a0)] [.agg (qM [] (HK r))]:=gG func34 ntmps34
def mn(a0:ae):Option ae:=
 abX (uV a0.gr) λr1=>abX (zj a0.aO) λr2=>abX (wy a0.a8) λr3=>abX (ww a0.bU) λr4=>abX (zk a0.ax) λr5=>abX (pc a0.kG) λr6=>ς (⟨r1,r2,r3,r4,r5,a0.dy,r6,a0.Fr,a0.lb⟩:ae)
instance qp{a0:ae}{r:ae}:FC prog (mn a0=ς r) 9 [.agg (ev a0)] [.agg (qM [.o,.o,.o,.o,.o] (c7 r))]:=gG func9 ntmps9
def Mv(a0:List Int)(a1:List Int):Int->Option (bN (Int) (Bool))
 |v1=>cond (ltB v1 (a0.length:Int)) (abX (ix a0 v1) λx2=>abX (ix a1 v1) λx3=>cond (!eqB x2 x3) (dn (ς η)) (ς (.next (WR (v1+1))))) (dn (ς ζ))
def CX(a0:List Int)(a1:List Int):Option Bool:=
 cond (!eqB (a0.length:Int) (a1.length:Int)) (ς η) (iter (Mv a0 a1) FU 0)
instance leqIntS_c{a1:List Int}{r:Bool}:FC prog (CX a0 a1=ς r) 259 [aL (a0.map eI),aL (a1.map eI)] [.c (.d (.b r))]:=gG func259 ntmps259 (hl 0 5)
def CW(a0:cA)(a1:cA):Option Bool:=
 cond (!eqB a0.mG a1.mG) (ς η) (abX (CX a0.bI a1.bI) λr1=>cond (!r1) (ς η) (ς ζ))
instance leqCell_c{a0:cA}{a1:cA}{r:Bool}:FC prog (CW a0 a1=ς r) 168 [.agg (cQ a0),.agg (cQ a1)] [.c (.d (.b r))]:=gG func168 ntmps168
def Kf(a0:List cA)(a1:List cA):Int->Option (bN (Int) (Bool))
 |v1=>cond (ltB v1 (a0.length:Int)) (abX (ix a0 v1) λx2=>abX (ix a1 v1) λx3=>abX (CW x2 x3) λr4=>cond (!r4) (dn (ς η)) (ς (.next (WR (v1+1))))) (dn (ς ζ))
def Ee(a0:List cA)(a1:List cA):Option Bool:=
 cond (!eqB (a0.length:Int) (a1.length:Int)) (ς η) (iter (Kf a0 a1) FU 0)
instance leqCellS_c{a0:List cA}{a1:List cA}{r:Bool}:FC prog (Ee a0 a1=ς r) 90 [aL (a0.map cQ),aL (a1.map cQ)] [.c (.d (.b r))]:=gG func90 ntmps90 (hl 0 5)
def uz(a0:bz)(a1:bz):Option Bool:=
 abX (Ee a0.bD a1.bD) λr1=>cond (!r1) (ς η) (ς ζ)
instance XE{a0:bz}{a1:bz}{r:Bool}:FC prog (uz a0 a1=ς r) 39 [.agg (gm a0),.agg (gm a1)] [.c (.d (.b r))]:=gG func39 ntmps39
def jq(a0:cf)(a1:cf):Option Bool:=
 cond (!eqB a0.dF a1.dF) (ς η) (cond (!eqB a0.bW a1.bW) (ς η) (ς ζ))
instance OM{a0:cf}{a1:cf}{r:Bool}:FC prog (jq a0 a1=ς r) 260 [.agg (f5 a0),.agg (f5 a1)] [.c (.d (.b r))]:=gG func260 ntmps260
def CY(a0:ik)(a1:ik):Option Bool:=
 abX (jq a0.ID a1.ID) λr1=>cond (!r1) (ς η) (cond (!eqB a0.fg a1.fg) (ς η) (cond (!eqB a0.dE a1.dE) (ς η) (ς ζ)))
instance leqUSIM_c{a0:ik}{a1:ik}{r:Bool}:FC prog (CY a0 a1=ς r) 169 [.agg (yS a0),.agg (yS a1)] [.c (.d (.b r))]:=gG func169 ntmps169
def Ke(a0:List Int)(a1:List Int):Int->Option (bN (Int) (Bool))
 |v1=>cond (ltB v1 (a0.length:Int)) (abX (ix a0 v1) λx2=>abX (ix a1 v1) λx3=>cond (!eqB x2 x3) (dn (ς η)) (ς (.next (WR (v1+1))))) (dn (ς ζ))
def wj(a0:List Int)(a1:List Int):Option Bool:=
 cond (!eqB (a0.length:Int) (a1.length:Int)) (ς η) (iter (Ke a0 a1) FU 0)
instance leqByteS_c{a1:List Int}{r:Bool}:FC prog (wj a0 a1=ς r) 321 [aL (a0.map eU8),aL (a1.map eU8)] [.c (.d (.b r))]:=gG func321 ntmps321 (hl 0 5)
def uA(a0:aC)(a1:aC):Option Bool:=
 abX (wj a0.bk a1.bk) λr1=>cond (!r1) (ς η) (ς ζ)
instance XH{a0:aC}{a1:aC}{r:Bool}:FC prog (uA a0 a1=ς r) 262 [.agg (bQ a0),.agg (bQ a1)] [.c (.d (.b r))]:=gG func262 ntmps262
def Ef(a0:List aC)(a1:List aC):Int->Option (bN (Int) (Bool))
 |v1=>cond (ltB v1 (a0.length:Int)) (abX (ix a0 v1) λx2=>abX (ix a1 v1) λx3=>abX (uA x2 x3) λr4=>cond (!r4) (dn (ς η)) (ς (.next (WR (v1+1))))) (dn (ς ζ))
def sE(a0:List aC)(a1:List aC):Option Bool:=
 cond (!eqB (a0.length:Int) (a1.length:Int)) (ς η) (iter (Ef a0 a1) FU 0)
instance WC{a0:List aC}{a1:List aC}{r:Bool}:FC prog (sE a0 a1=ς r) 175 [aL (a0.map bQ),aL (a1.map bQ)] [.c (.d (.b r))]:=gG func175 ntmps175 (hl 0 5)
def jO(a0:ab)(a1:ab):Option Bool:=
 cond (!eqB a0.cP a1.cP) (ς η) (abX (wj a0.bk a1.bk) λr1=>cond (!r1) (ς η) (ς ζ))
instance LY{a0:ab}{a1:ab}{r:Bool}:FC prog (jO a0 a1=ς r) 320 [.agg (ah a0),.agg (ah a1)] [.c (.d (.b r))]:=gG func320 ntmps320
def vA(a0:List ab)(a1:List ab):Int->Option (bN (Int) (Bool))
 |v1=>cond (ltB v1 (a0.length:Int)) (abX (ix a0 v1) λx2=>abX (ix a1 v1) λx3=>abX (jO x2 x3) λr4=>cond (!r4) (dn (ς η)) (ς (.next (WR (v1+1))))) (dn (ς ζ))
def iO(a0:List ab)(a1:List ab):Option Bool:=
 cond (!eqB (a0.length:Int) (a1.length:Int)) (ς η) (iter (vA a0 a1) FU 0)
instance Kg{a0:List ab}{a1:List ab}{r:Bool}:FC prog (iO a0 a1=ς r) 261 [aL (a0.map ah),aL (a1.map ah)] [.c (.d (.b r))]:=gG func261 ntmps261 (hl 0 5)
def kN(a0:aj)(a1:aj):Option Bool:=
 cond (!eqB a0.bK a1.bK) (ς η) (abX (iO a0.am a1.am) λr1=>cond (!r1) (ς η) (abX (sE a0.aD a1.aD) λr2=>cond (!r2) (ς η) (ς ζ)))
instance Mw{a0:aj}{a1:aj}{r:Bool}:FC prog (kN a0 a1=ς r) 170 [.agg (dw a0),.agg (dw a1)] [.c (.d (.b r))]:=gG func170 ntmps170
def xy(a0:av)(a1:av):Option Bool:=
 abX (CY a0.dJ a1.dJ) λr1=>cond (!r1) (ς η) (cond (!eqB a0.bV a1.bV) (ς η) (cond (!eqB a0.bJ a1.bJ) (ς η) (cond (!eqB a0.ak a1.ak) (ς η) (cond (!eqB a0.bj a1.bj) (ς η) (cond (!eqB a0.aU a1.aU) (ς η) (cond (!(booB a0.bZ a1.bZ)) (ς η) (cond (!eqB a0.mH a1.mH) (ς η) (abX (kN a0.bY a1.bY) λr2=>cond (!r2) (ς η) (ς ζ)))))))))
instance Zn{a0:av}{a1:av}{r:Bool}:FC prog (xy a0 a1=ς r) 91 [.agg (aZ a0),.agg (aZ a1)] [.c (.d (.b r))]:=gG func91 ntmps91
def FG(a0:List av)(a1:List av):Int->Option (bN (Int) (Bool))
 |v1=>cond (ltB v1 (a0.length:Int)) (abX (ix a0 v1) λx2=>abX (ix a1 v1) λx3=>abX (xy x2 x3) λr4=>cond (!r4) (dn (ς η)) (ς (.next (WR (v1+1))))) (dn (ς ζ))
def y8(a0:List av)(a1:List av):Option Bool:=
 cond (!eqB (a0.length:Int) (a1.length:Int)) (ς η) (iter (FG a0 a1) FU 0)
instance XF{a0:List av}{a1:List av}{r:Bool}:FC prog (y8 a0 a1=ς r) 40 [aL (a0.map aZ),aL (a1.map aZ)] [.c (.d (.b r))]:=gG func40 ntmps40 (hl 0 5)
def g7(a0:be)(a1:be):Option Bool:=
 abX (jq a0.ID a1.ID) λr1=>cond (!r1) (ς η) (cond (!eqB a0.fg a1.fg) (ς η) (cond (!eqB a0.cP a1.cP) (ς η) (ς ζ)))
instance Ji{a0:be}{a1:be}{r:Bool}:FC prog (g7 a0 a1=ς r) 171 [.agg (ei a0),.agg (ei a1)] [.c (.d (.b r))]:=gG func171 ntmps171
def lR(a0:bh)(a1:bh):Option Bool:=
 cond (!eqB a0.ij a1.ij) (ς η) (cond (!eqB a0.ic a1.ic) (ς η) (cond (!eqB a0.ig a1.ig) (ς η) (abX (CX a0.aV a1.aV) λr1=>cond (!r1) (ς η) (ς ζ))))
instance ON{a0:bh}{a1:bh}{r:Bool}:FC prog (lR a0 a1=ς r) 172 [.agg (eB a0),.agg (eB a1)] [.c (.d (.b r))]:=gG func172 ntmps172
def lD(a0:bL)(a1:bL):Option Bool:=
 cond (!eqB a0.dT a1.dT) (ς η) (cond (!eqB a0.fK a1.fK) (ς η) (cond (!eqB a0.mu a1.mu) (ς η) (cond (!eqB a0.A2 a1.A2) (ς η) (cond (!eqB a0.fg a1.fg) (ς η) (ς ζ)))))
instance R6{a0:bL}{a1:bL}{r:Bool}:FC prog (lD a0 a1=ς r) 173 [.agg (fM a0),.agg (fM a1)] [.c (.d (.b r))]:=gG func173 ntmps173
def np(a0:cT)(a1:cT):Option Bool:=
 cond (!eqB a0.mG a1.mG) (ς η) (cond (!eqB a0.kF a1.kF) (ς η) (cond (!eqB a0.mH a1.mH) (ς η) (ς ζ)))
instance Qy{a0:cT}{a1:cT}{r:Bool}:FC prog (np a0 a1=ς r) 174 [.agg (lr a0),.agg (lr a1)] [.c (.d (.b r))]:=gG func174 ntmps174
def o5(a0:aF)(a1:aF):Option Bool:=
 cond (!eqB a0.bK a1.bK) (ς η) (abX (iO a0.aJ a1.aJ) λr1=>cond (!r1) (ς η) (ς ζ))
instance R7{a0:aF}{a1:aF}{r:Bool}:FC prog (o5 a0 a1=ς r) 176 [.agg (eA a0),.agg (eA a1)] [.c (.d (.b r))]:=gG func176 ntmps176
def Ah(a0:cU)(a1:cU):Option Bool:=
 cond (!eqB a0.bi a1.bi) (ς η) (cond (!eqB a0.dg a1.dg) (ς η) (cond (!eqB a0.gO a1.gO) (ς η) (ς ζ)))
instance leqQuota_c{a0:cU}{a1:cU}{r:Bool}:FC prog (Ah a0 a1=ς r) 177 [.agg (mJ a0),.agg (mJ a1)] [.c (.d (.b r))]:=gG func177 ntmps177
def uB(a0:ag)(a1:ag):Option Bool:=
 abX (g7 a0.bF a1.bF) λr1=>cond (!r1) (ς η) (abX (lR a0.gu a1.gu) λr2=>cond (!r2) (ς η) (cond (!eqB a0.bV a1.bV) (ς η) (abX (lD a0.am a1.am) λr3=>cond (!r3) (ς η) (cond (!eqB a0.bw a1.bw) (ς η) (cond (!eqB a0.ak a1.ak) (ς η) (cond (!eqB a0.bj a1.bj) (ς η) (cond (!eqB a0.aU a1.aU) (ς η) (cond (!eqB a0.bJ a1.bJ) (ς η) (cond (!eqB a0.kY a1.kY) (ς η) (abX (np a0.oy a1.oy) λr4=>cond (!r4) (ς η) (abX (sE a0.aX a1.aX) λr5=>cond (!r5) (ς η) (abX (o5 a0.aY a1.aY) λr6=>cond (!r6) (ς η) (cond (!eqB a0.kf a1.kf) (ς η) (abX (Ah a0.dq a1.dq) λr7=>cond (!r7) (ς η) (ς ζ)))))))))))))))
instance XI{a0:ag}{a1:ag}{r:Bool}:FC prog (uB a0 a1=ς r) 92 [.agg (aB a0),.agg (aB a1)] [.c (.d (.b r))]:=gG func92 ntmps92
def Eg(a0:List ag)(a1:List ag):Int->Option (bN (Int) (Bool))
 |v1=>cond (ltB v1 (a0.length:Int)) (abX (ix a0 v1) λx2=>abX (ix a1 v1) λx3=>abX (uB x2 x3) λr4=>cond (!r4) (dn (ς η)) (ς (.next (WR (v1+1))))) (dn (ς ζ))
def wk(a0:List ag)(a1:List ag):Option Bool:=
 cond (!eqB (a0.length:Int) (a1.length:Int)) (ς η) (iter (Eg a0 a1) FU 0)
instance WD{a0:List ag}{a1:List ag}{r:Bool}:FC prog (wk a0 a1=ς r) 41 [aL (a0.map aB),aL (a1.map aB)] [.c (.d (.b r))]:=gG func41 ntmps41 (hl 0 5)
def ny(a0:aA)(a1:aA):Option Bool:=
 cond (!eqB a0.bi a1.bi) (ς η) (cond (!eqB a0.dX a1.dX) (ς η) (ς ζ))
instance QA{a0:aA}{a1:aA}{r:Bool}:FC prog (ny a0 a1=ς r) 263 [.agg (bT a0),.agg (bT a1)] [.c (.d (.b r))]:=gG func263 ntmps263
def zf(a0:List aA)(a1:List aA):Int->Option (bN (Int) (Bool))
 |v1=>cond (ltB v1 (a0.length:Int)) (abX (ix a0 v1) λx2=>abX (ix a1 v1) λx3=>abX (ny x2 x3) λr4=>cond (!r4) (dn (ς η)) (ς (.next (WR (v1+1))))) (dn (ς ζ))
def pM(a0:List aA)(a1:List aA):Option Bool:=
 cond (!eqB (a0.length:Int) (a1.length:Int)) (ς η) (iter (zf a0 a1) FU 0)
instance OL{a0:List aA}{a1:List aA}{r:Bool}:FC prog (pM a0 a1=ς r) 178 [aL (a0.map bT),aL (a1.map bT)] [.c (.d (.b r))]:=gG func178 ntmps178 (hl 0 5)
def uy(a0:an)(a1:an):Option Bool:=
 cond (!eqB a0.jf a1.jf) (ς η) (cond (!eqB a0.er a1.er) (ς η) (cond (!eqB a0.pv a1.pv) (ς η) (abX (pM a0.aG a1.aG) λr1=>cond (!r1) (ς η) (ς ζ))))
instance XD{a0:an}{a1:an}{r:Bool}:FC prog (uy a0 a1=ς r) 93 [.agg (bu a0),.agg (bu a1)] [.c (.d (.b r))]:=gG func93 ntmps93
def Ed(a0:List an)(a1:List an):Int->Option (bN (Int) (Bool))
 |v1=>cond (ltB v1 (a0.length:Int)) (abX (ix a0 v1) λx2=>abX (ix a1 v1) λx3=>abX (uy x2 x3) λr4=>cond (!r4) (dn (ς η)) (ς (.next (WR (v1+1))))) (dn (ς ζ))
def wi(a0:List an)(a1:List an):Option Bool:=
 cond (!eqB (a0.length:Int) (a1.length:Int)) (ς η) (iter (Ed a0 a1) FU 0)
instance WB{a0:List an}{a1:List an}{r:Bool}:FC prog (wi a0 a1=ς r) 42 [aL (a0.map bu),aL (a1.map bu)] [.c (.d (.b r))]:=gG func42 ntmps42 (hl 0 5)
def xA(a0:ar)(a1:ar):Option Bool:=
 cond (!eqB a0.d9 a1.d9) (ς η) (cond (!eqB a0.bJ a1.bJ) (ς η) (cond (!eqB a0.ak a1.ak) (ς η) (cond (!eqB a0.aU a1.aU) (ς η) (cond (!eqB a0.bW a1.bW) (ς η) (abX (lD a0.cy a1.cy) λr1=>cond (!r1) (ς η) (cond (!eqB a0.mu a1.mu) (ς η) (ς ζ)))))))
instance Zp{a0:ar}{a1:ar}{r:Bool}:FC prog (xA a0 a1=ς r) 179 [.agg (cb a0),.agg (cb a1)] [.c (.d (.b r))]:=gG func179 ntmps179
def jP(a0:aS)(a1:aS):Option Bool:=
 cond (!eqB a0.cH a1.cH) (ς η) (cond (!eqB a0.fj a1.fj) (ς η) (abX (wj a0.bk a1.bk) λr1=>cond (!r1) (ς η) (cond (!eqB a0.mu a1.mu) (ς η) (ς ζ))))
instance LZ{a0:aS}{a1:aS}{r:Bool}:FC prog (jP a0 a1=ς r) 264 [.agg (cZ a0),.agg (cZ a1)] [.c (.d (.b r))]:=gG func264 ntmps264
def nu(a0:aT)(a1:aT):Option Bool:=
 cond (!eqB a0.ak a1.ak) (ς η) (cond (!eqB a0.aU a1.aU) (ς η) (abX (jP a0.a9 a1.a9) λr1=>cond (!r1) (ς η) (ς ζ)))
instance Qz{a0:aT}{a1:aT}{r:Bool}:FC prog (nu a0 a1=ς r) 180 [.agg (db a0),.agg (db a1)] [.c (.d (.b r))]:=gG func180 ntmps180
def xz(a0:aH)(a1:aH):Option Bool:=
 cond (!eqB a0.bC a1.bC) (ς η) (cond (!(booB a0.oE a1.oE)) (ς η) (cond (!(booB a0.iJ a1.iJ)) (ς η) (cond (!eqB a0.bJ a1.bJ) (ς η) (abX (xA a0.bS a1.bS) λr1=>cond (!r1) (ς η) (abX (nu a0.cY a1.cY) λr2=>cond (!r2) (ς η) (ς ζ))))))
instance Zo{a0:aH}{a1:aH}{r:Bool}:FC prog (xz a0 a1=ς r) 94 [.agg (aW a0),.agg (aW a1)] [.c (.d (.b r))]:=gG func94 ntmps94
def FH(a0:List aH)(a1:List aH):Int->Option (bN (Int) (Bool))
 |v1=>cond (ltB v1 (a0.length:Int)) (abX (ix a0 v1) λx2=>abX (ix a1 v1) λx3=>abX (xz x2 x3) λr4=>cond (!r4) (dn (ς η)) (ς (.next (WR (v1+1))))) (dn (ς ζ))
def y9(a0:List aH)(a1:List aH):Option Bool:=
 cond (!eqB (a0.length:Int) (a1.length:Int)) (ς η) (iter (FH a0 a1) FU 0)
instance XG{a0:List aH}{a1:List aH}{r:Bool}:FC prog (y9 a0 a1=ς r) 43 [aL (a0.map aW),aL (a1.map aW)] [.c (.d (.b r))]:=gG func43 ntmps43 (hl 0 5)
def o6(a0:dh)(a1:dh):Option Bool:=
 cond (!eqB a0.sk a1.sk) (ς η) (cond (!eqB a0.iK a1.iK) (ς η) (ς ζ))
instance R8{a0:dh}{a1:dh}{r:Bool}:FC prog (o6 a0 a1=ς r) 44 [.agg (mK a0),.agg (mK a1)] [.c (.d (.b r))]:=gG func44 ntmps44
def ml(a0:ae)(a1:ae):Option Bool:=
 abX (uz a0.gr a1.gr) λr1=>cond (!r1) (ς η) (abX (y8 a0.aO a1.aO) λr2=>cond (!r2) (ς η) (abX (wk a0.a8 a1.a8) λr3=>cond (!r3) (ς η) (abX (wi a0.bU a1.bU) λr4=>cond (!r4) (ς η) (abX (y9 a0.ax a1.ax) λr5=>cond (!r5) (ς η) (cond (!eqB a0.dy a1.dy) (ς η) (abX (o6 a0.kG a1.kG) λr6=>cond (!r6) (ς η) (cond (!eqB a0.Fr a1.Fr) (ς η) (cond (!eqB a0.lb a1.lb) (ς η) (ς ζ)))))))))
instance qm{a0:ae}{a1:ae}{r:Bool}:FC prog (ml a0 a1=ς r) 11 [.agg (ev a0),.agg (ev a1)] [.c (.d (.b r))]:=gG func11 ntmps11
def nE(a0:List Int):(Int×Int)->Option (bN (Int×Int) (Int))
 |(v1,v2)=>cond (ltB v2 (a0.length:Int)) (abX (ix a0 v2) λx5=>ς (.next (WR (v1+1),WR (v2+1)))) (ς (.done v1))
def sF(a0:List Int)(a1:Int):Option Int:=
 abX (iter (nE a0) FU (a1,0)) λ(v4:Int)=>ς v4
theorem yA(H:sF a0 a1=ς r):FnM prog 98 [.v (.c (.z (.l (a0.map eI)))),tI a1] r:=by
 refine pJ func98 (hN:=ntmps98) (h:=?_)
 refine wI ?_
 refine aa H λv4 Hj H=>jB ⟨[(1,tI v4)],[],0⟩ ?_ ?_
 .refine iT Hj (λq=>⟨[(0,.v (.c (.z (.l (a0.map eI))))),(1,tI q.1),(5,tI q.2)],[],0⟩) ?_
  rintro⟨v1,v2⟩ o H
  refine ad ?_
  refine cC H ?_ ?_<;>intro H
  .refine aa H λx5 hx5 H=>nA (xzT (enc:=eI) hx5 (λ_=>rfl) rfl rfl rfl) ?_
   exact aN H
  exact aE H
 exact ao H
def lV(a0:List cA):(Int×Int)->Option (bN (Int×Int) (Int))
 |(v1,v2)=>cond (ltB v2 (a0.length:Int)) (abX (ix a0 v2) λx7=>abX (ix a0 v2) λx8=>abX (sF x8.bI (WR (v1+1))) λr9=>ς (.next (r9,WR (v2+1)))) (ς (.done v1))
def uI(a0:List cA)(a1:Int):Option Int:=
 abX (iter (lV a0) FU (a1,0)) λ(v6:Int)=>ς v6
theorem Ei{a0:List cA}(H:uI a0 a1=ς r):FnM prog 95 [.v (.c (.z (.l (a0.map cQ)))),tI a1] r:=by
 refine pJ func95 (hN:=ntmps95) (h:=?_)
 refine wI ?_
 refine aa H λv6 Hj H=>jB ⟨[(1,tI v6)],[],0⟩ ?_ ?_
 .refine iT Hj (λq=>⟨[(0,.v (.c (.z (.l (a0.map cQ))))),(1,tI q.1),(5,tI q.2)],[],0⟩) ?_
  rintro⟨v1,v2⟩ o H
  refine ad ?_
  refine cC H ?_ ?_<;>intro H
  .refine aa H λx7 hx7 H=>nA (xzT (enc:=cQ) hx7 (λ_=>rfl) rfl rfl rfl) ?_
   refine aa H λx8 hx8 H=>nA (xzT (enc:=cQ) hx8 (λ_=>rfl) rfl rfl rfl) ?_
   refine aa H λr9 q9 H=>sA (cz rfl (yA q9) rfl rfl) ?_
   exact aN H
  exact aE H
 exact ao H
def nD(a0:bz)(a1:Int):Option Int:=
 abX (uI a0.bD a1) λr1=>ς r1
theorem Bp{a0:bz}(H:nD a0 a1=ς r):FnM prog 45 [.v (.agg [.z (.l (a0.bD.map cQ))]),tI a1] r:=by
 refine pJ func45 (hN:=ntmps45) (h:=?_)
 refine wI ?_
 refine aa H λr1 q1 H=>sA (cz rfl (Ei q1) rfl rfl) ?_
 exact ao H
def lU(a0:List Int):(Int×Int)->Option (bN (Int×Int) (Int))
 |(v1,v2)=>cond (ltB v2 (a0.length:Int)) (abX (ix a0 v2) λx5=>ς (.next (WR (v1+1),WR (v2+1)))) (ς (.done v1))
def nC(a0:List Int)(a1:Int):Option Int:=
 abX (iter (lU a0) FU (a1,0)) λ(v4:Int)=>ς v4
theorem rf(H:nC a0 a1=ς r):FnM prog 100 [.v (.c (.z (.l (a0.map eU8)))),tI a1] r:=by
 refine pJ func100 (hN:=ntmps100) (h:=?_)
 refine wI ?_
 refine aa H λv4 Hj H=>jB ⟨[(1,tI v4)],[],0⟩ ?_ ?_
 .refine iT Hj (λq=>⟨[(0,.v (.c (.z (.l (a0.map eU8))))),(1,tI q.1),(5,tI q.2)],[],0⟩) ?_
  rintro⟨v1,v2⟩ o H
  refine ad ?_
  refine cC H ?_ ?_<;>intro H
  .refine aa H λx5 hx5 H=>nA (xzT (enc:=eU8) hx5 (λ_=>rfl) rfl rfl rfl) ?_
   exact aN H
  exact aE H
 exact ao H
def eM(a0:List ab):(Int×Int)->Option (bN (Int×Int) (Int))
 |(v1,v2)=>cond (ltB v2 (a0.length:Int)) (abX (ix a0 v2) λx7=>abX (ix a0 v2) λx8=>abX (nC x8.bk (WR (v1+1))) λr9=>ς (.next (r9,WR (v2+1)))) (ς (.done v1))
def fP(a0:List ab)(a1:Int):Option Int:=
 abX (iter (eM a0) FU (a1,0)) λ(v6:Int)=>ς v6
theorem lE{a0:List ab}(H:fP a0 a1=ς r):FnM prog 96 [.v (.c (.z (.l (a0.map ah)))),tI a1] r:=by
 refine pJ func96 (hN:=ntmps96) (h:=?_)
 refine wI ?_
 refine aa H λv6 Hj H=>jB ⟨[(1,tI v6)],[],0⟩ ?_ ?_
 .refine iT Hj (λq=>⟨[(0,.v (.c (.z (.l (a0.map ah))))),(1,tI q.1),(5,tI q.2)],[],0⟩) ?_
  rintro⟨v1,v2⟩ o H
  refine ad ?_
  refine cC H ?_ ?_<;>intro H
  .refine aa H λx7 hx7 H=>nA (xzT (enc:=ah) hx7 (λ_=>rfl) rfl rfl rfl) ?_
   refine aa H λx8 hx8 H=>nA (xzT (enc:=ah) hx8 (λ_=>rfl) rfl rfl rfl) ?_
   refine aa H λr9 q9 H=>sA (cz rfl (rf q9) rfl rfl) ?_
   exact aN H
  exact aE H
 exact ao H
def iV(a0:List aC):(Int×Int)->Option (bN (Int×Int) (Int))
 |(v1,v2)=>cond (ltB v2 (a0.length:Int)) (abX (ix a0 v2) λx6=>abX (nC x6.bk v1) λr7=>ς (.next (r7,WR (v2+1)))) (ς (.done v1))
def lW(a0:List aC)(a1:Int):Option Int:=
 abX (iter (iV a0) FU (a1,0)) λ(v5:Int)=>ς v5
theorem sG{a0:List aC}(H:lW a0 a1=ς r):FnM prog 97 [.v (.c (.z (.l (a0.map bQ)))),tI a1] r:=by
 refine pJ func97 (hN:=ntmps97) (h:=?_)
 refine wI ?_
 refine aa H λv5 Hj H=>jB ⟨[(1,tI v5)],[],0⟩ ?_ ?_
 .refine iT Hj (λq=>⟨[(0,.v (.c (.z (.l (a0.map bQ))))),(1,tI q.1),(5,tI q.2)],[],0⟩) ?_
  rintro⟨v1,v2⟩ o H
  refine ad ?_
  refine cC H ?_ ?_<;>intro H
  .refine aa H λx6 hx6 H=>nA (xzT (enc:=bQ) hx6 (λ_=>rfl) rfl rfl rfl) ?_
   refine aa H λr7 q7 H=>sA (cz rfl (rf q7) rfl rfl) ?_
   exact aN H
  exact aE H
 exact ao H
def jQ(a0:List av):(Int×Int)->Option (bN (Int×Int) (Int))
 |(v1,v2)=>cond (ltB v2 (a0.length:Int)) (abX (ix a0 v2) λx20=>abX (ix a0 v2) λx21=>abX (ix a0 v2) λx22=>abX (ix a0 v2) λx23=>abX (ix a0 v2) λx24=>abX (ix a0 v2) λx25=>abX (ix a0 v2) λx26=>abX (ix a0 v2) λx27=>abX (ix a0 v2) λx28=>abX (ix a0 v2) λx29=>abX (ix a0 v2) λx30=>abX (ix a0 v2) λx31=>abX (ix a0 v2) λx32=>abX (fP x32.bY.am (WR ((WR ((WR ((WR ((WR ((WR ((WR ((WR ((WR ((WR ((WR ((WR (v1+1))+1))+1))+1))+1))+1))+1))+1))+1))+1))+1))+1))) λr33=>abX (ix a0 v2) λx34=>abX (lW x34.bY.aD r33) λr35=>ς (.next (r35,WR (v2+1)))) (ς (.done v1))
def rh(a0:List av)(a1:Int):Option Int:=
 abX (iter (jQ a0) FU (a1,0)) λ(v19:Int)=>ς v19
theorem Bq{a0:List av}(H:rh a0 a1=ς r):FnM prog 46 [.v (.c (.z (.l (a0.map aZ)))),tI a1] r:=by
 refine pJ func46 (hN:=ntmps46) (h:=?_)
 refine wI ?_
 refine aa H λv19 Hj H=>jB ⟨[(1,tI v19)],[],0⟩ ?_ ?_
 .refine iT Hj (λq=>⟨[(0,.v (.c (.z (.l (a0.map aZ))))),(1,tI q.1),(5,tI q.2)],[],0⟩) ?_
  rintro⟨v1,v2⟩ o H
  refine ad ?_
  refine cC H ?_ ?_<;>intro H
  .refine aa H λx20 hx20 H=>nA (xzT (enc:=aZ) hx20 (λ_=>rfl) rfl rfl rfl) ?_
   refine aa H λx21 hx21 H=>nA (xzT (enc:=aZ) hx21 (λ_=>rfl) rfl rfl rfl) ?_
   refine aa H λx22 hx22 H=>nA (xzT (enc:=aZ) hx22 (λ_=>rfl) rfl rfl rfl) ?_
   refine aa H λx23 hx23 H=>nA (xzT (enc:=aZ) hx23 (λ_=>rfl) rfl rfl rfl) ?_
   refine aa H λx24 hx24 H=>nA (xzT (enc:=aZ) hx24 (λ_=>rfl) rfl rfl rfl) ?_
   refine aa H λx25 hx25 H=>nA (xzT (enc:=aZ) hx25 (λ_=>rfl) rfl rfl rfl) ?_
   refine aa H λx26 hx26 H=>nA (xzT (enc:=aZ) hx26 (λ_=>rfl) rfl rfl rfl) ?_
   refine aa H λx27 hx27 H=>nA (xzT (enc:=aZ) hx27 (λ_=>rfl) rfl rfl rfl) ?_
   refine aa H λx28 hx28 H=>nA (xzT (enc:=aZ) hx28 (λ_=>rfl) rfl rfl rfl) ?_
   refine nA (ir rfl rfl rfl (by decide)) ?_
   refine aa H λx29 hx29 H=>nA (xzT (enc:=aZ) hx29 (λ_=>rfl) rfl rfl rfl) ?_
   refine aa H λx30 hx30 H=>nA (xzT (enc:=aZ) hx30 (λ_=>rfl) rfl rfl rfl) ?_
   refine aa H λx31 hx31 H=>nA (xzT (enc:=aZ) hx31 (λ_=>rfl) rfl rfl rfl) ?_
   refine aa H λx32 hx32 H=>nA (xzT (enc:=aZ) hx32 (λ_=>rfl) rfl rfl rfl) ?_
   refine aa H λr33 q33 H=>sA (cz rfl (lE q33) rfl rfl) ?_
   refine aa H λx34 hx34 H=>nA (xzT (enc:=aZ) hx34 (λ_=>rfl) rfl rfl rfl) ?_
   refine aa H λr35 q35 H=>sA (cz rfl (sG q35) rfl rfl) ?_
   exact aN H
  exact aE H
 exact ao H
def iX(a0:List ag):(Int×Int)->Option (bN (Int×Int) (Int))
 |(v1,v2)=>cond (ltB v2 (a0.length:Int)) (abX (ix a0 v2) λx37=>abX (ix a0 v2) λx38=>abX (ix a0 v2) λx39=>abX (ix a0 v2) λx40=>abX (ix a0 v2) λx41=>abX (ix a0 v2) λx42=>abX (ix a0 v2) λx43=>abX (ix a0 v2) λx44=>abX (sF x44.gu.aV (WR ((WR ((WR ((WR ((WR ((WR ((WR (v1+1))+1))+1))+1))+1))+1))+1))) λr45=>abX (ix a0 v2) λx46=>abX (ix a0 v2) λx47=>abX (ix a0 v2) λx48=>abX (ix a0 v2) λx49=>abX (ix a0 v2) λx50=>abX (ix a0 v2) λx51=>abX (ix a0 v2) λx52=>abX (ix a0 v2) λx53=>abX (ix a0 v2) λx54=>abX (ix a0 v2) λx55=>abX (ix a0 v2) λx56=>abX (ix a0 v2) λx57=>abX (ix a0 v2) λx58=>abX (ix a0 v2) λx59=>abX (ix a0 v2) λx60=>abX (ix a0 v2) λx61=>abX (lW x61.aX (WR ((WR ((WR ((WR ((WR ((WR ((WR ((WR ((WR ((WR ((WR ((WR ((WR ((WR ((WR (r45+1))+1))+1))+1))+1))+1))+1))+1))+1))+1))+1))+1))+1))+1))+1))) λr62=>abX (ix a0 v2) λx63=>abX (ix a0 v2) λx64=>abX (fP x64.aY.aJ (WR (r62+1))) λr65=>abX (ix a0 v2) λx66=>abX (ix a0 v2) λx67=>abX (ix a0 v2) λx68=>abX (ix a0 v2) λx69=>ς (.next (WR ((WR ((WR ((WR (r65+1))+1))+1))+1),WR (v2+1)))) (ς (.done v1))
def pQ(a0:List ag)(a1:Int):Option Int:=
 abX (iter (iX a0) FU (a1,0)) λ(v36:Int)=>ς v36
theorem Aj{a0:List ag}(H:pQ a0 a1=ς r):FnM prog 47 [.v (.c (.z (.l (a0.map aB)))),tI a1] r:=by
 refine pJ func47 (hN:=ntmps47) (h:=?_)
 refine wI ?_
 refine aa H λv36 Hj H=>jB ⟨[(1,tI v36)],[],0⟩ ?_ ?_
 .refine iT Hj (λq=>⟨[(0,.v (.c (.z (.l (a0.map aB))))),(1,tI q.1),(5,tI q.2)],[],0⟩) ?_
  rintro⟨v1,v2⟩ o H
  refine ad ?_
  refine cC H ?_ ?_<;>intro H
  .refine aa H λx37 hx37 H=>nA (xzT (enc:=aB) hx37 (λ_=>rfl) rfl rfl rfl) ?_
   refine aa H λx38 hx38 H=>nA (xzT (enc:=aB) hx38 (λ_=>rfl) rfl rfl rfl) ?_
   refine aa H λx39 hx39 H=>nA (xzT (enc:=aB) hx39 (λ_=>rfl) rfl rfl rfl) ?_
   refine aa H λx40 hx40 H=>nA (xzT (enc:=aB) hx40 (λ_=>rfl) rfl rfl rfl) ?_
   refine aa H λx41 hx41 H=>nA (xzT (enc:=aB) hx41 (λ_=>rfl) rfl rfl rfl) ?_
   refine aa H λx42 hx42 H=>nA (xzT (enc:=aB) hx42 (λ_=>rfl) rfl rfl rfl) ?_
   refine aa H λx43 hx43 H=>nA (xzT (enc:=aB) hx43 (λ_=>rfl) rfl rfl rfl) ?_
   refine aa H λx44 hx44 H=>nA (xzT (enc:=aB) hx44 (λ_=>rfl) rfl rfl rfl) ?_
   refine aa H λr45 q45 H=>sA (cz rfl (yA q45) rfl rfl) ?_
   refine aa H λx46 hx46 H=>nA (xzT (enc:=aB) hx46 (λ_=>rfl) rfl rfl rfl) ?_
   refine aa H λx47 hx47 H=>nA (xzT (enc:=aB) hx47 (λ_=>rfl) rfl rfl rfl) ?_
   refine aa H λx48 hx48 H=>nA (xzT (enc:=aB) hx48 (λ_=>rfl) rfl rfl rfl) ?_
   refine aa H λx49 hx49 H=>nA (xzT (enc:=aB) hx49 (λ_=>rfl) rfl rfl rfl) ?_
   refine aa H λx50 hx50 H=>nA (xzT (enc:=aB) hx50 (λ_=>rfl) rfl rfl rfl) ?_
   refine aa H λx51 hx51 H=>nA (xzT (enc:=aB) hx51 (λ_=>rfl) rfl rfl rfl) ?_
   refine aa H λx52 hx52 H=>nA (xzT (enc:=aB) hx52 (λ_=>rfl) rfl rfl rfl) ?_
   refine aa H λx53 hx53 H=>nA (xzT (enc:=aB) hx53 (λ_=>rfl) rfl rfl rfl) ?_
   refine aa H λx54 hx54 H=>nA (xzT (enc:=aB) hx54 (λ_=>rfl) rfl rfl rfl) ?_
   refine aa H λx55 hx55 H=>nA (xzT (enc:=aB) hx55 (λ_=>rfl) rfl rfl rfl) ?_
   refine aa H λx56 hx56 H=>nA (xzT (enc:=aB) hx56 (λ_=>rfl) rfl rfl rfl) ?_
   refine aa H λx57 hx57 H=>nA (xzT (enc:=aB) hx57 (λ_=>rfl) rfl rfl rfl) ?_
   refine aa H λx58 hx58 H=>nA (xzT (enc:=aB) hx58 (λ_=>rfl) rfl rfl rfl) ?_
   refine aa H λx59 hx59 H=>nA (xzT (enc:=aB) hx59 (λ_=>rfl) rfl rfl rfl) ?_
   refine aa H λx60 hx60 H=>nA (xzT (enc:=aB) hx60 (λ_=>rfl) rfl rfl rfl) ?_
   refine aa H λx61 hx61 H=>nA (xzT (enc:=aB) hx61 (λ_=>rfl) rfl rfl rfl) ?_
   refine aa H λr62 q62 H=>sA (cz rfl (sG q62) rfl rfl) ?_
   refine aa H λx63 hx63 H=>nA (xzT (enc:=aB) hx63 (λ_=>rfl) rfl rfl rfl) ?_
   refine aa H λx64 hx64 H=>nA (xzT (enc:=aB) hx64 (λ_=>rfl) rfl rfl rfl) ?_
   refine aa H λr65 q65 H=>sA (cz rfl (lE q65) rfl rfl) ?_
   refine aa H λx66 hx66 H=>nA (xzT (enc:=aB) hx66 (λ_=>rfl) rfl rfl rfl) ?_
   refine aa H λx67 hx67 H=>nA (xzT (enc:=aB) hx67 (λ_=>rfl) rfl rfl rfl) ?_
   refine aa H λx68 hx68 H=>nA (xzT (enc:=aB) hx68 (λ_=>rfl) rfl rfl rfl) ?_
   refine aa H λx69 hx69 H=>nA (xzT (enc:=aB) hx69 (λ_=>rfl) rfl rfl rfl) ?_
   exact aN H
  exact aE H
 exact ao H
def fQ(a0:List aA):(Int×Int)->Option (bN (Int×Int) (Int))
 |(v1,v2)=>cond (ltB v2 (a0.length:Int)) (abX (ix a0 v2) λx6=>abX (ix a0 v2) λx7=>ς (.next (WR ((WR (v1+1))+1),WR (v2+1)))) (ς (.done v1))
def li(a0:List aA)(a1:Int):Option Int:=
 abX (iter (fQ a0) FU (a1,0)) λ(v5:Int)=>ς v5
theorem vB{a0:List aA}(H:li a0 a1=ς r):FnM prog 99 [.v (.c (.z (.l (a0.map bT)))),tI a1] r:=by
 refine pJ func99 (hN:=ntmps99) (h:=?_)
 refine wI ?_
 refine aa H λv5 Hj H=>jB ⟨[(1,tI v5)],[],0⟩ ?_ ?_
 .refine iT Hj (λq=>⟨[(0,.v (.c (.z (.l (a0.map bT))))),(1,tI q.1),(5,tI q.2)],[],0⟩) ?_
  rintro⟨v1,v2⟩ o H
  refine ad ?_
  refine cC H ?_ ?_<;>intro H
  .refine aa H λx6 hx6 H=>nA (xzT (enc:=bT) hx6 (λ_=>rfl) rfl rfl rfl) ?_
   refine aa H λx7 hx7 H=>nA (xzT (enc:=bT) hx7 (λ_=>rfl) rfl rfl rfl) ?_
   exact aN H
  exact aE H
 exact ao H
def iQ(a0:List an):(Int×Int)->Option (bN (Int×Int) (Int))
 |(v1,v2)=>cond (ltB v2 (a0.length:Int)) (abX (ix a0 v2) λx9=>abX (ix a0 v2) λx10=>abX (ix a0 v2) λx11=>abX (ix a0 v2) λx12=>abX (li x12.aG (WR ((WR ((WR (v1+1))+1))+1))) λr13=>ς (.next (r13,WR (v2+1)))) (ς (.done v1))
def pN(a0:List an)(a1:Int):Option Int:=
 abX (iter (iQ a0) FU (a1,0)) λ(v8:Int)=>ς v8
theorem Ai{a0:List an}(H:pN a0 a1=ς r):FnM prog 48 [.v (.c (.z (.l (a0.map bu)))),tI a1] r:=by
 refine pJ func48 (hN:=ntmps48) (h:=?_)
 refine wI ?_
 refine aa H λv8 Hj H=>jB ⟨[(1,tI v8)],[],0⟩ ?_ ?_
 .refine iT Hj (λq=>⟨[(0,.v (.c (.z (.l (a0.map bu))))),(1,tI q.1),(5,tI q.2)],[],0⟩) ?_
  rintro⟨v1,v2⟩ o H
  refine ad ?_
  refine cC H ?_ ?_<;>intro H
  .refine aa H λx9 hx9 H=>nA (xzT (enc:=bu) hx9 (λ_=>rfl) rfl rfl rfl) ?_
   refine aa H λx10 hx10 H=>nA (xzT (enc:=bu) hx10 (λ_=>rfl) rfl rfl rfl) ?_
   refine aa H λx11 hx11 H=>nA (xzT (enc:=bu) hx11 (λ_=>rfl) rfl rfl rfl) ?_
   refine aa H λx12 hx12 H=>nA (xzT (enc:=bu) hx12 (λ_=>rfl) rfl rfl rfl) ?_
   refine aa H λr13 q13 H=>sA (cz rfl (vB q13) rfl rfl) ?_
   exact aN H
  exact aE H
 exact ao H
def jS(a0:List aH):(Int×Int)->Option (bN (Int×Int) (Int))
 |(v1,v2)=>cond (ltB v2 (a0.length:Int)) (abX (ix a0 v2) λx26=>abX (ix a0 v2) λx27=>abX (ix a0 v2) λx28=>abX (ix a0 v2) λx29=>abX (ix a0 v2) λx30=>abX (ix a0 v2) λx31=>abX (ix a0 v2) λx32=>abX (ix a0 v2) λx33=>abX (ix a0 v2) λx34=>abX (ix a0 v2) λx35=>abX (ix a0 v2) λx36=>abX (ix a0 v2) λx37=>abX (ix a0 v2) λx38=>abX (ix a0 v2) λx39=>abX (ix a0 v2) λx40=>abX (ix a0 v2) λx41=>abX (ix a0 v2) λx42=>abX (ix a0 v2) λx43=>abX (ix a0 v2) λx44=>abX (ix a0 v2) λx45=>abX (nC x45.cY.a9.bk (WR ((WR ((WR ((WR ((WR ((WR ((WR ((WR ((WR ((WR ((WR ((WR ((WR ((WR ((WR ((WR ((WR ((WR ((WR (v1+1))+1))+1))+1))+1))+1))+1))+1))+1))+1))+1))+1))+1))+1))+1))+1))+1))+1))+1))) λr46=>abX (ix a0 v2) λx47=>ς (.next (WR (r46+1),WR (v2+1)))) (ς (.done v1))
def rj(a0:List aH)(a1:Int):Option Int:=
 abX (iter (jS a0) FU (a1,0)) λ(v25:Int)=>ς v25
theorem Br{a0:List aH}(H:rj a0 a1=ς r):FnM prog 49 [.v (.c (.z (.l (a0.map aW)))),tI a1] r:=by
 refine pJ func49 (hN:=ntmps49) (h:=?_)
 refine wI ?_
 refine aa H λv25 Hj H=>jB ⟨[(1,tI v25)],[],0⟩ ?_ ?_
 .refine iT Hj (λq=>⟨[(0,.v (.c (.z (.l (a0.map aW))))),(1,tI q.1),(5,tI q.2)],[],0⟩) ?_
  rintro⟨v1,v2⟩ o H
  refine ad ?_
  refine cC H ?_ ?_<;>intro H
  .refine aa H λx26 hx26 H=>nA (xzT (enc:=aW) hx26 (λ_=>rfl) rfl rfl rfl) ?_
   refine nA (ir rfl rfl rfl (by decide)) ?_
   refine aa H λx27 hx27 H=>nA (xzT (enc:=aW) hx27 (λ_=>rfl) rfl rfl rfl) ?_
   refine nA (ir rfl rfl rfl (by decide)) ?_
   refine aa H λx28 hx28 H=>nA (xzT (enc:=aW) hx28 (λ_=>rfl) rfl rfl rfl) ?_
   refine aa H λx29 hx29 H=>nA (xzT (enc:=aW) hx29 (λ_=>rfl) rfl rfl rfl) ?_
   refine aa H λx30 hx30 H=>nA (xzT (enc:=aW) hx30 (λ_=>rfl) rfl rfl rfl) ?_
   refine aa H λx31 hx31 H=>nA (xzT (enc:=aW) hx31 (λ_=>rfl) rfl rfl rfl) ?_
   refine aa H λx32 hx32 H=>nA (xzT (enc:=aW) hx32 (λ_=>rfl) rfl rfl rfl) ?_
   refine aa H λx33 hx33 H=>nA (xzT (enc:=aW) hx33 (λ_=>rfl) rfl rfl rfl) ?_
   refine aa H λx34 hx34 H=>nA (xzT (enc:=aW) hx34 (λ_=>rfl) rfl rfl rfl) ?_
   refine aa H λx35 hx35 H=>nA (xzT (enc:=aW) hx35 (λ_=>rfl) rfl rfl rfl) ?_
   refine aa H λx36 hx36 H=>nA (xzT (enc:=aW) hx36 (λ_=>rfl) rfl rfl rfl) ?_
   refine aa H λx37 hx37 H=>nA (xzT (enc:=aW) hx37 (λ_=>rfl) rfl rfl rfl) ?_
   refine aa H λx38 hx38 H=>nA (xzT (enc:=aW) hx38 (λ_=>rfl) rfl rfl rfl) ?_
   refine aa H λx39 hx39 H=>nA (xzT (enc:=aW) hx39 (λ_=>rfl) rfl rfl rfl) ?_
   refine aa H λx40 hx40 H=>nA (xzT (enc:=aW) hx40 (λ_=>rfl) rfl rfl rfl) ?_
   refine aa H λx41 hx41 H=>nA (xzT (enc:=aW) hx41 (λ_=>rfl) rfl rfl rfl) ?_
   refine aa H λx42 hx42 H=>nA (xzT (enc:=aW) hx42 (λ_=>rfl) rfl rfl rfl) ?_
   refine aa H λx43 hx43 H=>nA (xzT (enc:=aW) hx43 (λ_=>rfl) rfl rfl rfl) ?_
   refine aa H λx44 hx44 H=>nA (xzT (enc:=aW) hx44 (λ_=>rfl) rfl rfl rfl) ?_
   refine aa H λx45 hx45 H=>nA (xzT (enc:=aW) hx45 (λ_=>rfl) rfl rfl rfl) ?_
   refine aa H λr46 q46 H=>sA (cz rfl (rf q46) rfl rfl) ?_
   refine aa H λx47 hx47 H=>nA (xzT (enc:=aW) hx47 (λ_=>rfl) rfl rfl rfl) ?_
   exact aN H
  exact aE H
 exact ao H
def nH(a0:ae)(a1:Int):Option Int:=
 abX (nD a0.gr a1) λr1=>abX (rh a0.aO r1) λr2=>abX (pQ a0.a8 r2) λr3=>abX (pN a0.bU r3) λr4=>abX (rj a0.ax r4) λr5=>ς r5
theorem Bs{a0:ae}(H:nH a0 a1=ς r):FnM prog 12 [.v (.agg [.z (.l (a0.gr.bD.map cQ)),.z (.l (a0.aO.map aZ)),.z (.l (a0.a8.map aB)),.z (.l (a0.bU.map bu)),.z (.l (a0.ax.map aW)),.z (.i .i64 a0.dy),.z (.i .i64 a0.kG.sk),.z (.i .i64 a0.kG.iK),.z (.i .i64 a0.Fr),.z (.i .i64 a0.lb)]),tI a1] r:=by
 refine pJ func12 (hN:=ntmps12) (h:=?_)
 refine wI ?_
 refine aa H λr1 q1 H=>sA (cz rfl (Bp q1) rfl rfl) ?_
 refine aa H λr2 q2 H=>sA (cz rfl (Bq q2) rfl rfl) ?_
 refine aa H λr3 q3 H=>sA (cz rfl (Aj q3) rfl rfl) ?_
 refine aa H λr4 q4 H=>sA (cz rfl (Ai q4) rfl rfl) ?_
 refine aa H λr5 q5 H=>sA (cz rfl (Br q5) rfl rfl) ?_
 exact ao H
def qo(a0:List Int):(Int×Int)->Option (bN (Int×Int) (Int))
 |(v1,v2)=>cond (ltB v2 (a0.length:Int)) (abX (ix a0 v2) λx3=>cond (!eqB x3 v1) (dn (ς (-1))) (ς (.next (WR (v1+1),WR (v2+1))))) (dn (ς v1))
def xB(a0:List Int)(a1:Int):Option Int:=
 iter (qo a0) FU (a1,0)
instance Zq:FC prog (xB a0 a1=ς r) 104 [aL (a0.map eI),aI a1] [.c (.d (.i .i64 r))]:=gG func104 ntmps104 (hm 0 1 5)
def o8(a0:List cA):(Int×Int)->Option (bN (Int×Int) (Int))
 |(v1,v2)=>cond (ltB v2 (a0.length:Int)) (abX (ix a0 v2) λx3=>cond (!eqB x3.mG v1) (dn (ς (-1))) (abX (ix a0 v2) λx4=>abX (xB x4.bI (WR (v1+1))) λr5=>cond (ltB r5 0) (dn (ς (-1))) (ς (.next (r5,WR (v2+1)))))) (dn (ς v1))
def zg(a0:List cA)(a1:Int):Option Int:=
 iter (o8 a0) FU (a1,0)
instance XK{a0:List cA} :FC prog (zg a0 a1=ς r) 101 [aL (a0.map cQ),aI a1] [.c (.d (.i .i64 r))]:=gG func101 ntmps101 (hm 0 1 5)
def uD(a0:bz)(a1:Int):Option Int:=
 abX (zg a0.bD a1) λr1=>cond (ltB r1 0) (ς (-1)) (ς r1)
instance Uf{a0:bz} :FC prog (uD a0 a1=ς r) 50 [.agg (gm a0),aI a1] [.c (.d (.i .i64 r))]:=gG func50 ntmps50
def o7(a0:List Int):(Int×Int)->Option (bN (Int×Int) (Int))
 |(v1,v2)=>cond (ltB v2 (a0.length:Int)) (abX (ix a0 v2) λx3=>cond (!eqB x3 (IntKind.u8.wrap (v1))) (dn (ς (-1))) (ς (.next (WR (v1+1),WR (v2+1))))) (dn (ς v1))
def re(a0:List Int)(a1:Int):Option Int:=
 iter (o7 a0) FU (a1,0)
instance XJ:FC prog (re a0 a1=ς r) 106 [aL (a0.map eU8),aI a1] [.c (.d (.i .i64 r))]:=gG func106 ntmps106 (hm 0 1 5)
def fr(a0:List ab):(Int×Int)->Option (bN (Int×Int) (Int))
 |(v1,v2)=>cond (ltB v2 (a0.length:Int)) (abX (ix a0 v2) λx3=>cond (!eqB x3.cP v1) (dn (ς (-1))) (abX (ix a0 v2) λx4=>abX (re x4.bk (WR (v1+1))) λr5=>cond (ltB r5 0) (dn (ς (-1))) (ς (.next (r5,WR (v2+1)))))) (dn (ς v1))
def gF(a0:List ab)(a1:Int):Option Int:=
 iter (fr a0) FU (a1,0)
instance H4{a0:List ab} :FC prog (gF a0 a1=ς r) 102 [aL (a0.map ah),aI a1] [.c (.d (.i .i64 r))]:=gG func102 ntmps102 (hm 0 1 5)
def kP(a0:List aC):(Int×Int)->Option (bN (Int×Int) (Int))
 |(v1,v2)=>cond (ltB v2 (a0.length:Int)) (abX (ix a0 v2) λx3=>abX (re x3.bk v1) λr4=>cond (ltB r4 0) (dn (ς (-1))) (ς (.next (r4,WR (v2+1))))) (dn (ς v1))
def o9(a0:List aC)(a1:Int):Option Int:=
 iter (kP a0) FU (a1,0)
instance Sa{a0:List aC} :FC prog (o9 a0 a1=ς r) 103 [aL (a0.map bQ),aI a1] [.c (.d (.i .i64 r))]:=gG func103 ntmps103 (hm 0 1 5)
def lS(a0:List av):(Int×Int)->Option (bN (Int×Int) (Int))
 |(v1,v2)=>cond (ltB v2 (a0.length:Int)) (abX (ix a0 v2) λx3=>cond (!eqB x3.dJ.ID.dF v1) (dn (ς (-1))) (abX (ix a0 v2) λx4=>cond (!eqB x4.dJ.ID.bW (WR (v1+1))) (dn (ς (-1))) (abX (ix a0 v2) λx5=>cond (!eqB x5.dJ.fg (WR ((WR (v1+1))+1))) (dn (ς (-1))) (abX (ix a0 v2) λx6=>cond (!eqB x6.dJ.dE (WR ((WR ((WR (v1+1))+1))+1))) (dn (ς (-1))) (abX (ix a0 v2) λx7=>cond (!eqB x7.bV (WR ((WR ((WR ((WR (v1+1))+1))+1))+1))) (dn (ς (-1))) (abX (ix a0 v2) λx8=>cond (!eqB x8.bJ (WR ((WR ((WR ((WR ((WR (v1+1))+1))+1))+1))+1))) (dn (ς (-1))) (abX (ix a0 v2) λx9=>cond (!eqB x9.ak (WR ((WR ((WR ((WR ((WR ((WR (v1+1))+1))+1))+1))+1))+1))) (dn (ς (-1))) (abX (ix a0 v2) λx10=>cond (!eqB x10.bj (WR ((WR ((WR ((WR ((WR ((WR ((WR (v1+1))+1))+1))+1))+1))+1))+1))) (dn (ς (-1))) (abX (ix a0 v2) λx11=>cond (!eqB x11.aU (WR ((WR ((WR ((WR ((WR ((WR ((WR ((WR (v1+1))+1))+1))+1))+1))+1))+1))+1))) (dn (ς (-1))) (abX (ix a0 v2) λx12=>cond (!(booB x12.bZ (eqB (Int.tmod (WR ((WR ((WR ((WR ((WR ((WR ((WR ((WR ((WR (v1+1))+1))+1))+1))+1))+1))+1))+1))+1)) 3) 0))) (dn (ς (-1))) (abX (ix a0 v2) λx13=>cond (!eqB x13.mH (WR ((WR ((WR ((WR ((WR ((WR ((WR ((WR ((WR ((WR (v1+1))+1))+1))+1))+1))+1))+1))+1))+1))+1))) (dn (ς (-1))) (abX (ix a0 v2) λx14=>cond (!eqB x14.bY.bK (WR ((WR ((WR ((WR ((WR ((WR ((WR ((WR ((WR ((WR ((WR (v1+1))+1))+1))+1))+1))+1))+1))+1))+1))+1))+1))) (dn (ς (-1))) (abX (ix a0 v2) λx15=>abX (gF x15.bY.am (WR ((WR ((WR ((WR ((WR ((WR ((WR ((WR ((WR ((WR ((WR ((WR (v1+1))+1))+1))+1))+1))+1))+1))+1))+1))+1))+1))+1))) λr16=>cond (ltB r16 0) (dn (ς (-1))) (abX (ix a0 v2) λx17=>abX (o9 x17.bY.aD r16) λr18=>cond (ltB r18 0) (dn (ς (-1))) (ς (.next (r18,WR (v2+1)))))))))))))))))) (dn (ς v1))
def uE(a0:List av)(a1:Int):Option Int:=
 iter (lS a0) FU (a1,0)
instance Ug{a0:List av} :FC prog (uE a0 a1=ς r) 51 [aL (a0.map aZ),aI a1] [.c (.d (.i .i64 r))]:=gG func51 ntmps51 (hm 0 1 5)
def kQ(a0:List ag):(Int×Int)->Option (bN (Int×Int) (Int))
 |(v1,v2)=>cond (ltB v2 (a0.length:Int)) (abX (ix a0 v2) λx3=>cond (!eqB x3.bF.ID.dF v1) (dn (ς (-1))) (abX (ix a0 v2) λx4=>cond (!eqB x4.bF.ID.bW (WR (v1+1))) (dn (ς (-1))) (abX (ix a0 v2) λx5=>cond (!eqB x5.bF.fg (WR ((WR (v1+1))+1))) (dn (ς (-1))) (abX (ix a0 v2) λx6=>cond (!eqB x6.bF.cP (WR ((WR ((WR (v1+1))+1))+1))) (dn (ς (-1))) (abX (ix a0 v2) λx7=>cond (!eqB x7.gu.ij (WR ((WR ((WR ((WR (v1+1))+1))+1))+1))) (dn (ς (-1))) (abX (ix a0 v2) λx8=>cond (!eqB x8.gu.ic (WR ((WR ((WR ((WR ((WR (v1+1))+1))+1))+1))+1))) (dn (ς (-1))) (abX (ix a0 v2) λx9=>cond (!eqB x9.gu.ig (WR ((WR ((WR ((WR ((WR ((WR (v1+1))+1))+1))+1))+1))+1))) (dn (ς (-1))) (abX (ix a0 v2) λx10=>abX (xB x10.gu.aV (WR ((WR ((WR ((WR ((WR ((WR ((WR (v1+1))+1))+1))+1))+1))+1))+1))) λr11=>cond (ltB r11 0) (dn (ς (-1))) (abX (ix a0 v2) λx12=>cond (!eqB x12.bV r11) (dn (ς (-1))) (abX (ix a0 v2) λx13=>cond (!eqB x13.am.dT (WR (r11+1))) (dn (ς (-1))) (abX (ix a0 v2) λx14=>cond (!eqB x14.am.fK (WR ((WR (r11+1))+1))) (dn (ς (-1))) (abX (ix a0 v2) λx15=>cond (!eqB x15.am.mu (WR ((WR ((WR (r11+1))+1))+1))) (dn (ς (-1))) (abX (ix a0 v2) λx16=>cond (!eqB x16.am.A2 (WR ((WR ((WR ((WR (r11+1))+1))+1))+1))) (dn (ς (-1))) (abX (ix a0 v2) λx17=>cond (!eqB x17.am.fg (WR ((WR ((WR ((WR ((WR (r11+1))+1))+1))+1))+1))) (dn (ς (-1))) (abX (ix a0 v2) λx18=>cond (!eqB x18.bw (WR ((WR ((WR ((WR ((WR ((WR (r11+1))+1))+1))+1))+1))+1))) (dn (ς (-1))) (abX (ix a0 v2) λx19=>cond (!eqB x19.ak (WR ((WR ((WR ((WR ((WR ((WR ((WR (r11+1))+1))+1))+1))+1))+1))+1))) (dn (ς (-1))) (abX (ix a0 v2) λx20=>cond (!eqB x20.bj (WR ((WR ((WR ((WR ((WR ((WR ((WR ((WR (r11+1))+1))+1))+1))+1))+1))+1))+1))) (dn (ς (-1))) (abX (ix a0 v2) λx21=>cond (!eqB x21.aU (WR ((WR ((WR ((WR ((WR ((WR ((WR ((WR ((WR (r11+1))+1))+1))+1))+1))+1))+1))+1))+1))) (dn (ς (-1))) (abX (ix a0 v2) λx22=>cond (!eqB x22.bJ (WR ((WR ((WR ((WR ((WR ((WR ((WR ((WR ((WR ((WR (r11+1))+1))+1))+1))+1))+1))+1))+1))+1))+1))) (dn (ς (-1))) (abX (ix a0 v2) λx23=>cond (!eqB x23.kY (WR ((WR ((WR ((WR ((WR ((WR ((WR ((WR ((WR ((WR ((WR (r11+1))+1))+1))+1))+1))+1))+1))+1))+1))+1))+1))) (dn (ς (-1))) (abX (ix a0 v2) λx24=>cond (!eqB x24.oy.mG (WR ((WR ((WR ((WR ((WR ((WR ((WR ((WR ((WR ((WR ((WR ((WR (r11+1))+1))+1))+1))+1))+1))+1))+1))+1))+1))+1))+1))) (dn (ς (-1))) (abX (ix a0 v2) λx25=>cond (!eqB x25.oy.kF (WR ((WR ((WR ((WR ((WR ((WR ((WR ((WR ((WR ((WR ((WR ((WR ((WR (r11+1))+1))+1))+1))+1))+1))+1))+1))+1))+1))+1))+1))+1))) (dn (ς (-1))) (abX (ix a0 v2) λx26=>cond (!eqB x26.oy.mH (WR ((WR ((WR ((WR ((WR ((WR ((WR ((WR ((WR ((WR ((WR ((WR ((WR ((WR (r11+1))+1))+1))+1))+1))+1))+1))+1))+1))+1))+1))+1))+1))+1))) (dn (ς (-1))) (abX (ix a0 v2) λx27=>abX (o9 x27.aX (WR ((WR ((WR ((WR ((WR ((WR ((WR ((WR ((WR ((WR ((WR ((WR ((WR ((WR ((WR (r11+1))+1))+1))+1))+1))+1))+1))+1))+1))+1))+1))+1))+1))+1))+1))) λr28=>cond (ltB r28 0) (dn (ς (-1))) (abX (ix a0 v2) λx29=>cond (!eqB x29.aY.bK r28) (dn (ς (-1))) (abX (ix a0 v2) λx30=>abX (gF x30.aY.aJ (WR (r28+1))) λr31=>cond (ltB r31 0) (dn (ς (-1))) (abX (ix a0 v2) λx32=>cond (!eqB x32.kf r31) (dn (ς (-1))) (abX (ix a0 v2) λx33=>cond (!eqB x33.dq.bi (WR (r31+1))) (dn (ς (-1))) (abX (ix a0 v2) λx34=>cond (!eqB x34.dq.dg (WR ((WR (r31+1))+1))) (dn (ς (-1))) (abX (ix a0 v2) λx35=>cond (!eqB x35.dq.gO (WR ((WR ((WR (r31+1))+1))+1))) (dn (ς (-1))) (ς (.next (WR ((WR ((WR ((WR (r31+1))+1))+1))+1),WR (v2+1)))))))))))))))))))))))))))))))))) (dn (ς v1))
def th(a0:List ag)(a1:Int):Option Int:=
 iter (kQ a0) FU (a1,0)
instance Sb{a0:List ag} :FC prog (th a0 a1=ς r) 52 [aL (a0.map aB),aI a1] [.c (.d (.i .i64 r))]:=gG func52 ntmps52 (hm 0 1 5)
def gH(a0:List aA):(Int×Int)->Option (bN (Int×Int) (Int))
 |(v1,v2)=>cond (ltB v2 (a0.length:Int)) (abX (ix a0 v2) λx3=>cond (!eqB x3.bi v1) (dn (ς (-1))) (abX (ix a0 v2) λx4=>cond (!eqB x4.dX (WR (v1+1))) (dn (ς (-1))) (ς (.next (WR ((WR (v1+1))+1),WR (v2+1)))))) (dn (ς v1))
def nB(a0:List aA)(a1:Int):Option Int:=
 iter (gH a0) FU (a1,0)
instance L0{a0:List aA} :FC prog (nB a0 a1=ς r) 105 [aL (a0.map bT),aI a1] [.c (.d (.i .i64 r))]:=gG func105 ntmps105 (hm 0 1 5)
def kO(a0:List an):(Int×Int)->Option (bN (Int×Int) (Int))
 |(v1,v2)=>cond (ltB v2 (a0.length:Int)) (abX (ix a0 v2) λx3=>cond (!eqB x3.jf v1) (dn (ς (-1))) (abX (ix a0 v2) λx4=>cond (!eqB x4.er (WR (v1+1))) (dn (ς (-1))) (abX (ix a0 v2) λx5=>cond (!eqB x5.pv (WR ((WR (v1+1))+1))) (dn (ς (-1))) (abX (ix a0 v2) λx6=>abX (nB x6.aG (WR ((WR ((WR (v1+1))+1))+1))) λr7=>cond (ltB r7 0) (dn (ς (-1))) (ς (.next (r7,WR (v2+1)))))))) (dn (ς v1))
def tf(a0:List an)(a1:Int):Option Int:=
 iter (kO a0) FU (a1,0)
instance R9{a0:List an} :FC prog (tf a0 a1=ς r) 53 [aL (a0.map bu),aI a1] [.c (.d (.i .i64 r))]:=gG func53 ntmps53 (hm 0 1 5)
def lT(a0:List aH):(Int×Int)->Option (bN (Int×Int) (Int))
 |(v1,v2)=>cond (ltB v2 (a0.length:Int)) (abX (ix a0 v2) λx3=>cond (!eqB x3.bC v1) (dn (ς (-1))) (abX (ix a0 v2) λx4=>cond (!(booB x4.oE (eqB (Int.tmod (WR (v1+1)) 3) 0))) (dn (ς (-1))) (abX (ix a0 v2) λx5=>cond (!(booB x5.iJ (eqB (Int.tmod (WR ((WR (v1+1))+1)) 3) 0))) (dn (ς (-1))) (abX (ix a0 v2) λx6=>cond (!eqB x6.bJ (WR ((WR ((WR (v1+1))+1))+1))) (dn (ς (-1))) (abX (ix a0 v2) λx7=>cond (!eqB x7.bS.d9 (WR ((WR ((WR ((WR (v1+1))+1))+1))+1))) (dn (ς (-1))) (abX (ix a0 v2) λx8=>cond (!eqB x8.bS.bJ (WR ((WR ((WR ((WR ((WR (v1+1))+1))+1))+1))+1))) (dn (ς (-1))) (abX (ix a0 v2) λx9=>cond (!eqB x9.bS.ak (WR ((WR ((WR ((WR ((WR ((WR (v1+1))+1))+1))+1))+1))+1))) (dn (ς (-1))) (abX (ix a0 v2) λx10=>cond (!eqB x10.bS.aU (WR ((WR ((WR ((WR ((WR ((WR ((WR (v1+1))+1))+1))+1))+1))+1))+1))) (dn (ς (-1))) (abX (ix a0 v2) λx11=>cond (!eqB x11.bS.bW (WR ((WR ((WR ((WR ((WR ((WR ((WR ((WR (v1+1))+1))+1))+1))+1))+1))+1))+1))) (dn (ς (-1))) (abX (ix a0 v2) λx12=>cond (!eqB x12.bS.cy.dT (WR ((WR ((WR ((WR ((WR ((WR ((WR ((WR ((WR (v1+1))+1))+1))+1))+1))+1))+1))+1))+1))) (dn (ς (-1))) (abX (ix a0 v2) λx13=>cond (!eqB x13.bS.cy.fK (WR ((WR ((WR ((WR ((WR ((WR ((WR ((WR ((WR ((WR (v1+1))+1))+1))+1))+1))+1))+1))+1))+1))+1))) (dn (ς (-1))) (abX (ix a0 v2) λx14=>cond (!eqB x14.bS.cy.mu (WR ((WR ((WR ((WR ((WR ((WR ((WR ((WR ((WR ((WR ((WR (v1+1))+1))+1))+1))+1))+1))+1))+1))+1))+1))+1))) (dn (ς (-1))) (abX (ix a0 v2) λx15=>cond (!eqB x15.bS.cy.A2 (WR ((WR ((WR ((WR ((WR ((WR ((WR ((WR ((WR ((WR ((WR ((WR (v1+1))+1))+1))+1))+1))+1))+1))+1))+1))+1))+1))+1))) (dn (ς (-1))) (abX (ix a0 v2) λx16=>cond (!eqB x16.bS.cy.fg (WR ((WR ((WR ((WR ((WR ((WR ((WR ((WR ((WR ((WR ((WR ((WR ((WR (v1+1))+1))+1))+1))+1))+1))+1))+1))+1))+1))+1))+1))+1))) (dn (ς (-1))) (abX (ix a0 v2) λx17=>cond (!eqB x17.bS.mu (WR ((WR ((WR ((WR ((WR ((WR ((WR ((WR ((WR ((WR ((WR ((WR ((WR ((WR (v1+1))+1))+1))+1))+1))+1))+1))+1))+1))+1))+1))+1))+1))+1))) (dn (ς (-1))) (abX (ix a0 v2) λx18=>cond (!eqB x18.cY.ak (WR ((WR ((WR ((WR ((WR ((WR ((WR ((WR ((WR ((WR ((WR ((WR ((WR ((WR ((WR (v1+1))+1))+1))+1))+1))+1))+1))+1))+1))+1))+1))+1))+1))+1))+1))) (dn (ς (-1))) (abX (ix a0 v2) λx19=>cond (!eqB x19.cY.aU (WR ((WR ((WR ((WR ((WR ((WR ((WR ((WR ((WR ((WR ((WR ((WR ((WR ((WR ((WR ((WR (v1+1))+1))+1))+1))+1))+1))+1))+1))+1))+1))+1))+1))+1))+1))+1))+1))) (dn (ς (-1))) (abX (ix a0 v2) λx20=>cond (!eqB x20.cY.a9.cH (WR ((WR ((WR ((WR ((WR ((WR ((WR ((WR ((WR ((WR ((WR ((WR ((WR ((WR ((WR ((WR ((WR (v1+1))+1))+1))+1))+1))+1))+1))+1))+1))+1))+1))+1))+1))+1))+1))+1))+1))) (dn (ς (-1))) (abX (ix a0 v2) λx21=>cond (!eqB x21.cY.a9.fj (WR ((WR ((WR ((WR ((WR ((WR ((WR ((WR ((WR ((WR ((WR ((WR ((WR ((WR ((WR ((WR ((WR ((WR (v1+1))+1))+1))+1))+1))+1))+1))+1))+1))+1))+1))+1))+1))+1))+1))+1))+1))+1))) (dn (ς (-1))) (abX (ix a0 v2) λx22=>abX (re x22.cY.a9.bk (WR ((WR ((WR ((WR ((WR ((WR ((WR ((WR ((WR ((WR ((WR ((WR ((WR ((WR ((WR ((WR ((WR ((WR ((WR (v1+1))+1))+1))+1))+1))+1))+1))+1))+1))+1))+1))+1))+1))+1))+1))+1))+1))+1))+1))) λr23=>cond (ltB r23 0) (dn (ς (-1))) (abX (ix a0 v2) λx24=>cond (!eqB x24.cY.a9.mu r23) (dn (ς (-1))) (ς (.next (WR (r23+1),WR (v2+1))))))))))))))))))))))))) (dn (ς v1))
def uF(a0:List aH)(a1:Int):Option Int:=
 iter (lT a0) FU (a1,0)
instance Uh{a0:List aH} :FC prog (uF a0 a1=ς r) 54 [aL (a0.map aW),aI a1] [.c (.d (.i .i64 r))]:=gG func54 ntmps54 (hm 0 1 5)
def nz(a0:ae)(a1:Int):Option Int:=
 abX (uD a0.gr a1) λr1=>cond (ltB r1 0) (ς (-1)) (abX (uE a0.aO r1) λr2=>cond (ltB r2 0) (ς (-1)) (abX (th a0.a8 r2) λr3=>cond (ltB r3 0) (ς (-1)) (abX (tf a0.bU r3) λr4=>cond (ltB r4 0) (ς (-1)) (abX (uF a0.ax r4) λr5=>cond (ltB r5 0) (ς (-1)) (ς r5)))))
instance wm{a0:ae} :FC prog (nz a0 a1=ς r) 13 [.agg (ev a0),aI a1] [.c (.d (.i .i64 r))]:=gG func13 ntmps13
end Go.AM
