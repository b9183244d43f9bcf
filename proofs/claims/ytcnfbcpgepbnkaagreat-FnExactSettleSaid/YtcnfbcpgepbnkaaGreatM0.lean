/- A part. -/
import Derived.Test.YtcnfbcpgepbnkaaGreatG
set_option linter.unusedVariables false
open Option renaming some->ς,none->ξ
open Bool renaming true->ζ,false->η
open True renaming intro->θ
open Option renaming bind->aeP
open List renaming replicate->aal
namespace Go.AM
open Go.Proofs
open Tryz
attribute [local irreducible] AWN NS AWO AWR AWC DR DZ cO eB iter
set_option maxRecDepth 100000
set_option maxHeartbeats 40000000
variable{a0:List Int}{a1 r:Int}
def Gw(a0:List Int)(a1:Int):Option Int:=
 cond (ltB (WR (a1-(a0.length:Int))) 0) (ς (-1)) (ς (WR (a1-(a0.length:Int))))
instance lszIntS_c:FC prog (Gw a0 a1=ς r) 192 [aL (a0.map eI),aI a1] [.c (.d (.i .i64 r))]:=gG func192 ntmps192
def Gv(a0:cZ)(a1:Int):Option Int:=
 aeP (Gw a0.b7 a1) λr1=>cond (ltB r1 0) (ς (-1)) (ς r1)
instance lszCell_c{a0:cZ} :FC prog (Gv a0 a1=ς r) 113 [.agg (de a0),aI a1] [.c (.d (.i .i64 r))]:=gG func113 ntmps113
def Ou(a0:List cZ):(Int×Int)->Option (bJ (Int×Int) (Int))
 |(v1,v2)=>cond (ltB v2 (a0.length:Int)) (aeP (ix a0 v2) λx3=>aeP (Gv x3 v1) λr4=>cond (ltB r4 0) (dn (ς (-1))) (ς (.next (r4,WR (v2+1))))) (dn (ς v1))
def Ia(a0:List cZ)(a1:Int):Option Int:=
 cond (ltB (WR (a1-(a0.length:Int))) 0) (ς (-1)) (iter (Ou a0) FU (WR (a1-(a0.length:Int)),0))
instance lszCellS_c{a0:List cZ} :FC prog (Ia a0 a1=ς r) 57 [aL (a0.map de),aI a1] [.c (.d (.i .i64 r))]:=gG func57 ntmps57 (hm 0 1 5)
def xH(a0:aU)(a1:Int):Option Int:=
 aeP (Ia a0.bh a1) λr1=>cond (ltB r1 0) (ς (-1)) (ς r1)
instance abQ{a0:aU} :FC prog (xH a0 a1=ς r) 20 [.agg (eh a0),aI a1] [.c (.d (.i .i64 r))]:=gG func20 ntmps20
def zt(a0:List Int)(a1:Int):Option Int:=
 cond (ltB (WR (a1-(a0.length:Int))) 0) (ς (-1)) (ς (WR (a1-(a0.length:Int))))
instance lszByteS_c:FC prog (zt a0 a1=ς r) 281 [aL (a0.map eU8),aI a1] [.c (.d (.i .i64 r))]:=gG func281 ntmps281
def xJ(a0:aP)(a1:Int):Option Int:=
 aeP (zt a0.be a1) λr1=>cond (ltB r1 0) (ς (-1)) (ς r1)
instance abT{a0:aP} :FC prog (xJ a0 a1=ς r) 194 [.agg (b9 a0),aI a1] [.c (.d (.i .i64 r))]:=gG func194 ntmps194
def Ib(a0:List aP):(Int×Int)->Option (bJ (Int×Int) (Int))
 |(v1,v2)=>cond (ltB v2 (a0.length:Int)) (aeP (ix a0 v2) λx3=>aeP (xJ x3 v1) λr4=>cond (ltB r4 0) (dn (ς (-1))) (ς (.next (r4,WR (v2+1))))) (dn (ς v1))
def u5(a0:List aP)(a1:Int):Option Int:=
 cond (ltB (WR (a1-(a0.length:Int))) 0) (ς (-1)) (iter (Ib a0) FU (WR (a1-(a0.length:Int)),0))
instance aaH{a0:List aP} :FC prog (u5 a0 a1=ς r) 116 [aL (a0.map b9),aI a1] [.c (.d (.i .i64 r))]:=gG func116 ntmps116 (hm 0 1 5)
def lh(a0:ab)(a1:Int):Option Int:=
 aeP (zt a0.be a1) λr1=>cond (ltB r1 0) (ς (-1)) (ς r1)
instance P6{a0:ab} :FC prog (lh a0 a1=ς r) 280 [.agg (an a0),aI a1] [.c (.d (.i .i64 r))]:=gG func280 ntmps280
def yK(a0:List ab):(Int×Int)->Option (bJ (Int×Int) (Int))
 |(v1,v2)=>cond (ltB v2 (a0.length:Int)) (aeP (ix a0 v2) λx3=>aeP (lh x3 v1) λr4=>cond (ltB r4 0) (dn (ς (-1))) (ς (.next (r4,WR (v2+1))))) (dn (ς v1))
def kf(a0:List ab)(a1:Int):Option Int:=
 cond (ltB (WR (a1-(a0.length:Int))) 0) (ς (-1)) (iter (yK a0) FU (WR (a1-(a0.length:Int)),0))
instance Ov{a0:List ab} :FC prog (kf a0 a1=ς r) 193 [aL (a0.map an),aI a1] [.c (.d (.i .i64 r))]:=gG func193 ntmps193 (hm 0 1 5)
def mj(a0:aB)(a1:Int):Option Int:=
 aeP (kf a0.aA a1) λr1=>cond (ltB r1 0) (ς (-1)) (aeP (u5 a0.aY r1) λr2=>cond (ltB r2 0) (ς (-1)) (ς r2))
instance QC{a0:aB} :FC prog (mj a0 a1=ς r) 114 [.agg (dW a0),aI a1] [.c (.d (.i .i64 r))]:=gG func114 ntmps114
def AL(a0:aF)(a1:Int):Option Int:=
 aeP (mj a0.ct a1) λr1=>cond (ltB r1 0) (ς (-1)) (ς r1)
instance adx{a0:aF} :FC prog (AL a0 a1=ς r) 58 [.agg (bG a0),aI a1] [.c (.d (.i .i64 r))]:=gG func58 ntmps58
def JQ(a0:List aF):(Int×Int)->Option (bJ (Int×Int) (Int))
 |(v1,v2)=>cond (ltB v2 (a0.length:Int)) (aeP (ix a0 v2) λx3=>aeP (AL x3 v1) λr4=>cond (ltB r4 0) (dn (ς (-1))) (ς (.next (r4,WR (v2+1))))) (dn (ς v1))
def B0(a0:List aF)(a1:Int):Option Int:=
 cond (ltB (WR (a1-(a0.length:Int))) 0) (ς (-1)) (iter (JQ a0) FU (WR (a1-(a0.length:Int)),0))
instance abR{a0:List aF} :FC prog (B0 a0 a1=ς r) 21 [aL (a0.map bG),aI a1] [.c (.d (.i .i64 r))]:=gG func21 ntmps21 (hm 0 1 5)
def ny(a0:bK)(a1:Int):Option Int:=
 aeP (Gw a0.bi a1) λr1=>cond (ltB r1 0) (ς (-1)) (ς r1)
instance Tb{a0:bK} :FC prog (ny a0 a1=ς r) 115 [.agg (ga a0),aI a1] [.c (.d (.i .i64 r))]:=gG func115 ntmps115
def qt(a0:aG)(a1:Int):Option Int:=
 aeP (kf a0.ar a1) λr1=>cond (ltB r1 0) (ς (-1)) (ς r1)
instance Wn{a0:aG} :FC prog (qt a0 a1=ς r) 117 [.agg (ec a0),aI a1] [.c (.d (.i .i64 r))]:=gG func117 ntmps117
def xK(a0:ag)(a1:Int):Option Int:=
 aeP (ny a0.fr a1) λr1=>cond (ltB r1 0) (ς (-1)) (aeP (u5 a0.aS r1) λr2=>cond (ltB r2 0) (ς (-1)) (aeP (qt a0.aC r2) λr3=>cond (ltB r3 0) (ς (-1)) (ς r3)))
instance abU{a0:ag} :FC prog (xK a0 a1=ς r) 59 [.agg (aM a0),aI a1] [.c (.d (.i .i64 r))]:=gG func59 ntmps59
def Ic(a0:List ag):(Int×Int)->Option (bJ (Int×Int) (Int))
 |(v1,v2)=>cond (ltB v2 (a0.length:Int)) (aeP (ix a0 v2) λx3=>aeP (xK x3 v1) λr4=>cond (ltB r4 0) (dn (ς (-1))) (ς (.next (r4,WR (v2+1))))) (dn (ς v1))
def zu(a0:List ag)(a1:Int):Option Int:=
 cond (ltB (WR (a1-(a0.length:Int))) 0) (ς (-1)) (iter (Ic a0) FU (WR (a1-(a0.length:Int)),0))
instance aaI{a0:List ag} :FC prog (zu a0 a1=ς r) 22 [aL (a0.map aM),aI a1] [.c (.d (.i .i64 r))]:=gG func22 ntmps22 (hm 0 1 5)
def rJ(a0:List ah)(a1:Int):Option Int:=
 cond (ltB (WR (a1-(a0.length:Int))) 0) (ς (-1)) (ς (WR (a1-(a0.length:Int))))
instance Ta{a0:List ah} :FC prog (rJ a0 a1=ς r) 118 [aL (a0.map aO),aI a1] [.c (.d (.i .i64 r))]:=gG func118 ntmps118
def xG(a0:aj)(a1:Int):Option Int:=
 aeP (rJ a0.ak a1) λr1=>cond (ltB r1 0) (ς (-1)) (ς r1)
instance abP{a0:aj} :FC prog (xG a0 a1=ς r) 60 [.agg (bj a0),aI a1] [.c (.d (.i .i64 r))]:=gG func60 ntmps60
def H9(a0:List aj):(Int×Int)->Option (bJ (Int×Int) (Int))
 |(v1,v2)=>cond (ltB v2 (a0.length:Int)) (aeP (ix a0 v2) λx3=>aeP (xG x3 v1) λr4=>cond (ltB r4 0) (dn (ς (-1))) (ς (.next (r4,WR (v2+1))))) (dn (ς v1))
def zr(a0:List aj)(a1:Int):Option Int:=
 cond (ltB (WR (a1-(a0.length:Int))) 0) (ς (-1)) (iter (H9 a0) FU (WR (a1-(a0.length:Int)),0))
instance aaG{a0:List aj} :FC prog (zr a0 a1=ς r) 23 [aL (a0.map bj),aI a1] [.c (.d (.i .i64 r))]:=gG func23 ntmps23 (hm 0 1 5)
def li(a0:aV)(a1:Int):Option Int:=
 aeP (zt a0.be a1) λr1=>cond (ltB r1 0) (ς (-1)) (ς r1)
instance P7{a0:aV} :FC prog (li a0 a1=ς r) 195 [.agg (dL a0),aI a1] [.c (.d (.i .i64 r))]:=gG func195 ntmps195
def o8(a0:am)(a1:Int):Option Int:=
 aeP (li a0.bH a1) λr1=>cond (ltB r1 0) (ς (-1)) (ς r1)
instance UW{a0:am} :FC prog (o8 a0 a1=ς r) 119 [.agg (cQ a0),aI a1] [.c (.d (.i .i64 r))]:=gG func119 ntmps119
def AN(a0:a9)(a1:Int):Option Int:=
 aeP (o8 a0.cF a1) λr1=>cond (ltB r1 0) (ς (-1)) (ς r1)
instance ady{a0:a9} :FC prog (AN a0 a1=ς r) 61 [.agg (bA a0),aI a1] [.c (.d (.i .i64 r))]:=gG func61 ntmps61
def JR(a0:List a9):(Int×Int)->Option (bJ (Int×Int) (Int))
 |(v1,v2)=>cond (ltB v2 (a0.length:Int)) (aeP (ix a0 v2) λx3=>aeP (AN x3 v1) λr4=>cond (ltB r4 0) (dn (ς (-1))) (ς (.next (r4,WR (v2+1))))) (dn (ς v1))
def B1(a0:List a9)(a1:Int):Option Int:=
 cond (ltB (WR (a1-(a0.length:Int))) 0) (ς (-1)) (iter (JR a0) FU (WR (a1-(a0.length:Int)),0))
instance abS{a0:List a9} :FC prog (B1 a0 a1=ς r) 24 [aL (a0.map bA),aI a1] [.c (.d (.i .i64 r))]:=gG func24 ntmps24 (hm 0 1 5)
def pY(a0:ae)(a1:Int):Option Int:=
 aeP (xH a0.fH a1) λr1=>cond (ltB r1 0) (ς (-1)) (aeP (B0 a0.aH r1) λr2=>cond (ltB r2 0) (ς (-1)) (aeP (zu a0.aT r2) λr3=>cond (ltB r3 0) (ς (-1)) (aeP (zr a0.bu r3) λr4=>cond (ltB r4 0) (ς (-1)) (aeP (B1 a0.aJ r4) λr5=>cond (ltB r5 0) (ς (-1)) (ς r5)))))
instance xI{a0:ae} :FC prog (pY a0 a1=ς r) 7 [.agg (eC a0),aI a1] [.c (.d (.i .i64 r))]:=gG func7 ntmps7
def QD(a0:List Int):(Int×List Int)->Option (bJ (Int×List Int) (List Int))
 |(v1,v2)=>cond (ltB v1 (a0.length:Int)) (aeP (ix a0 v1) λx6=>aeP (ix v2 v1) λx7=>ς (.next (WR (v1+1),(v2.set (v1).toNat x6)))) (ς (.done v2))
def Gy(a0:List Int):Option (List Int):=
 cond (jh 8 (a0.length:Int) (a0.length:Int)) (aeP (iter (QD a0) FU (0,(aal ((a0.length:Int)).toNat (0:Int)))) λ(v5:List Int)=>ς v5) ξ
instance ltoIntS_c{r:List Int}:FC prog (Gy a0=ς r) 223 [aL (a0.map eI)] [.c (.own 3 1 (r.map eI) r.length)]:=gG func223 ntmps223 (hL 0 (λ(v:Int×List Int) sl ob nx=>⟨(3,.v (.c (.w 0 v.2.length)))::(4,tI v.1)::xS [0] sl,[(0,w3 v.2)]++ob,nx⟩)) (hB 0 (λ(v:List Int) sl ob nx=>⟨(3,.v (.c (.w 0 v.length)))::(4,.any)::xS [0] sl,[(0,w3 v)]++ob,nx⟩))
def Gx(a0:cZ):Option cZ:=
 aeP (Gy a0.b7) λr1=>ς (⟨a0.eO,r1⟩:cZ)
instance ltoCell_c{a0:cZ}{r:cZ}:FC prog (Gx a0=ς r) 137 [.agg (de a0)] [.agg (qM [.o] (fTCell r))]:=gG func137 ntmps137
def OA(a0:List cZ):(Int×List cZ)->Option (bJ (Int×List cZ) (List cZ))
 |(v1,v2)=>cond (ltB v1 (a0.length:Int)) (aeP (ix a0 v1) λx7=>aeP (Gx x7) λr8=>aeP (ix v2 v1) λx9=>ς (.next (WR (v1+1),(v2.set (v1).toNat r8)))) (ς (.done v2))
def If(a0:List cZ):Option (List cZ):=
 cond (jh 32 (a0.length:Int) (a0.length:Int)) (aeP (iter (OA a0) FU (0,(aal ((a0.length:Int)).toNat Ju))) λ(v6:List cZ)=>ς v6) ξ
instance ltoCellS_c{a0:List cZ}{r:List cZ}:FC prog (If a0=ς r) 71 [aL (a0.map de)] [.c (.own 198 2 (r.map de) r.length)]:=gG func71 ntmps71 (hL 0 (λ(v:Int×List cZ) sl ob nx=>⟨(3,.v (.c (.w 0 v.2.length)))::(4,tI v.1)::xS [0] sl,[(0,w198 v.2)]++ob,nx⟩)) (hB 0 (λ(v:List cZ) sl ob nx=>⟨(3,.v (.c (.w 0 v.length)))::(4,.any)::xS [0] sl,[(0,w198 v)]++ob,nx⟩))
def xM(a0:aU):Option aU:=
 aeP (If a0.bh) λr1=>ς (⟨r1⟩:aU)
instance abX{a0:aU}{r:aU}:FC prog (xM a0=ς r) 29 [.agg (eh a0)] [.agg [.own 198 2 (r.bh.map de) r.bh.length]]:=gG func29 ntmps29
def kC(a0:cG):Option cG:=
 ς a0
instance Te{a0:cG}{r:cG}:FC prog (kC a0=ς r) 224 [.agg (ie a0)] [.agg (qM [] (Hl r))]:=gG func224 ntmps224
def Gz(a0:ju):Option ju:=
 aeP (kC a0.ID) λr1=>ς {a0 with ID:=r1}
instance ltoUSIM_c{a0:ju}{r:ju}:FC prog (Gz a0=ς r) 138 [.agg (BJ a0)] [.agg (qM [] (LI r))]:=gG func138 ntmps138
def Oz(a0:List Int):(Int×List Int)->Option (bJ (Int×List Int) (List Int))
 |(v1,v2)=>cond (ltB v1 (a0.length:Int)) (aeP (ix a0 v1) λx6=>aeP (ix v2 v1) λx7=>ς (.next (WR (v1+1),(v2.set (v1).toNat x6)))) (ς (.done v2))
def zx(a0:List Int):Option (List Int):=
 cond (jh 1 (a0.length:Int) (a0.length:Int)) (aeP (iter (Oz a0) FU (0,(aal ((a0.length:Int)).toNat (0:Int)))) λ(v5:List Int)=>ς v5) ξ
instance ltoByteS_c{r:List Int}:FC prog (zx a0=ς r) 302 [aL (a0.map eU8)] [.c (.own 5 1 (r.map eU8) r.length)]:=gG func302 ntmps302 (hL 0 (λ(v:Int×List Int) sl ob nx=>⟨(3,.v (.c (.w 0 v.2.length)))::(4,tI v.1)::xS [0] sl,[(0,w5 v.2)]++ob,nx⟩)) (hB 0 (λ(v:List Int) sl ob nx=>⟨(3,.v (.c (.w 0 v.length)))::(4,.any)::xS [0] sl,[(0,w5 v)]++ob,nx⟩))
def xN(a0:aP):Option aP:=
 aeP (zx a0.be) λr1=>ς (⟨r1⟩:aP)
instance ab0{a0:aP}{r:aP}:FC prog (xN a0=ς r) 226 [.agg (b9 a0)] [.agg [.own 5 1 (r.be.map eU8) r.be.length]]:=gG func226 ntmps226
def Ig(a0:List aP):(Int×List aP)->Option (bJ (Int×List aP) (List aP))
 |(v1,v2)=>cond (ltB v1 (a0.length:Int)) (aeP (ix a0 v1) λx7=>aeP (xN x7) λr8=>aeP (ix v2 v1) λx9=>ς (.next (WR (v1+1),(v2.set (v1).toNat r8)))) (ς (.done v2))
def u7(a0:List aP):Option (List aP):=
 cond (jh 24 (a0.length:Int) (a0.length:Int)) (aeP (iter (Ig a0) FU (0,(aal ((a0.length:Int)).toNat (⟨[]⟩:aP)))) λ(v6:List aP)=>ς v6) ξ
instance aaK{a0:List aP}{r:List aP}:FC prog (u7 a0=ς r) 144 [aL (a0.map b9)] [.c (.own 251 1 (r.map b9) r.length)]:=gG func144 ntmps144 (hL 0 (λ(v:Int×List aP) sl ob nx=>⟨(3,.v (.c (.w 0 v.2.length)))::(4,tI v.1)::xS [0] sl,[(0,V4 v.2)]++ob,nx⟩)) (hB 0 (λ(v:List aP) sl ob nx=>⟨(3,.v (.c (.w 0 v.length)))::(4,.any)::xS [0] sl,[(0,V4 v)]++ob,nx⟩))
def lj(a0:ab):Option ab:=
 aeP (zx a0.be) λr1=>ς (⟨a0.df,r1⟩:ab)
instance P8{a0:ab}{r:ab}:FC prog (lj a0=ς r) 301 [.agg (an a0)] [.agg (qM [.o] (dv r))]:=gG func301 ntmps301
def yL(a0:List ab):(Int×List ab)->Option (bJ (Int×List ab) (List ab))
 |(v1,v2)=>cond (ltB v1 (a0.length:Int)) (aeP (ix a0 v1) λx7=>aeP (lj x7) λr8=>aeP (ix v2 v1) λx9=>ς (.next (WR (v1+1),(v2.set (v1).toNat r8)))) (ς (.done v2))
def kg(a0:List ab):Option (List ab):=
 cond (jh 32 (a0.length:Int) (a0.length:Int)) (aeP (iter (yL a0) FU (0,(aal ((a0.length:Int)).toNat bE))) λ(v6:List ab)=>ς v6) ξ
instance OB{a0:List ab}{r:List ab}:FC prog (kg a0=ς r) 225 [aL (a0.map an)] [.c (.own 249 2 (r.map an) r.length)]:=gG func225 ntmps225 (hL 0 (λ(v:Int×List ab) sl ob nx=>⟨(3,.v (.c (.w 0 v.2.length)))::(4,tI v.1)::xS [0] sl,[(0,M6 v.2)]++ob,nx⟩)) (hB 0 (λ(v:List ab) sl ob nx=>⟨(3,.v (.c (.w 0 v.length)))::(4,.any)::xS [0] sl,[(0,M6 v)]++ob,nx⟩))
def ml(a0:aB):Option aB:=
 aeP (kg a0.aA) λr1=>aeP (u7 a0.aY) λr2=>ς (⟨a0.bw,r1,r2⟩:aB)
instance QE{a0:aB}{r:aB}:FC prog (ml a0=ς r) 139 [.agg (dW a0)] [.agg (qM [.o,.o] (cr r))]:=gG func139 ntmps139
def AO(a0:aF):Option aF:=
 aeP (Gz a0.ea) λr1=>aeP (ml a0.ct) λr2=>ς {a0 with ea:=r1,ct:=r2}
instance adz{a0:aF}{r:aF}:FC prog (AO a0=ς r) 72 [.agg (bG a0)] [.agg (qM [.o,.o] (ku r))]:=gG func72 ntmps72
def JS(a0:List aF):(Int×List aF)->Option (bJ (Int×List aF) (List aF))
 |(v1,v2)=>cond (ltB v1 (a0.length:Int)) (aeP (ix a0 v1) λx7=>aeP (AO x7) λr8=>aeP (ix v2 v1) λx9=>ς (.next (WR (v1+1),(v2.set (v1).toNat r8)))) (ς (.done v2))
def B2(a0:List aF):Option (List aF):=
 cond (jh 144 (a0.length:Int) (a0.length:Int)) (aeP (iter (JS a0) FU (0,(aal ((a0.length:Int)).toNat Ap))) λ(v6:List aF)=>ς v6) ξ
instance abY{a0:List aF}{r:List aF}:FC prog (B2 a0=ς r) 30 [aL (a0.map bG)] [.c (.own 129 14 (r.map bG) r.length)]:=gG func30 ntmps30 (hL 0 (λ(v:Int×List aF) sl ob nx=>⟨(3,.v (.c (.w 0 v.2.length)))::(4,tI v.1)::xS [0] sl,[(0,w129 v.2)]++ob,nx⟩)) (hB 0 (λ(v:List aF) sl ob nx=>⟨(3,.v (.c (.w 0 v.length)))::(4,.any)::xS [0] sl,[(0,w129 v)]++ob,nx⟩))
def jp(a0:bI):Option bI:=
 aeP (kC a0.ID) λr1=>ς {a0 with ID:=r1}
instance Nc{a0:bI}{r:bI}:FC prog (jp a0=ς r) 140 [.agg (eX a0)] [.agg (qM [] (nK r))]:=gG func140 ntmps140
def nz(a0:bK):Option bK:=
 aeP (Gy a0.bi) λr1=>ς {a0 with bi:=r1}
instance Tf{a0:bK}{r:bK}:FC prog (nz a0=ς r) 141 [.agg (ga a0)] [.agg (qM [.o] (tu r))]:=gG func141 ntmps141
def mR(a0:cb):Option cb:=
 ς a0
instance Wo{a0:cb}{r:cb}:FC prog (mR a0=ς r) 142 [.agg (gR a0)] [.agg (qM [] (ow r))]:=gG func142 ntmps142
def o9(a0:bL):Option bL:=
 ς a0
instance UX{a0:bL}{r:bL}:FC prog (o9 a0=ς r) 143 [.agg (iY a0)] [.agg (qM [] (kO r))]:=gG func143 ntmps143
def qv(a0:aG):Option aG:=
 aeP (kg a0.ar) λr1=>ς (⟨a0.bw,r1⟩:aG)
instance Wq{a0:aG}{r:aG}:FC prog (qv a0=ς r) 145 [.agg (ec a0)] [.agg (qM [.o] (dF r))]:=gG func145 ntmps145
def Dd(a0:cq):Option cq:=
 ς a0
instance ltoQuota_c{a0:cq}{r:cq}:FC prog (Dd a0=ς r) 146 [.agg (jT a0)] [.agg (qM [] (wZ r))]:=gG func146 ntmps146
def xO(a0:ag):Option ag:=
 aeP (jp a0.bO) λr1=>aeP (nz a0.fr) λr2=>aeP (mR a0.aA) λr3=>aeP (o9 a0.fJ) λr4=>aeP (u7 a0.aS) λr5=>aeP (qv a0.aC) λr6=>aeP (Dd a0.bM) λr7=>ς {a0 with bO:=r1,fr:=r2,aA:=r3,fJ:=r4,aS:=r5,aC:=r6,bM:=r7}
instance ab1{a0:ag}{r:ag}:FC prog (xO a0=ς r) 73 [.agg (aM a0)] [.agg (qM [.o,.o,.o] (dh r))]:=gG func73 ntmps73
def Ih(a0:List ag):(Int×List ag)->Option (bJ (Int×List ag) (List ag))
 |(v1,v2)=>cond (ltB v1 (a0.length:Int)) (aeP (ix a0 v1) λx7=>aeP (xO x7) λr8=>aeP (ix v2 v1) λx9=>ς (.next (WR (v1+1),(v2.set (v1).toNat r8)))) (ς (.done v2))
def zy(a0:List ag):Option (List ag):=
 cond (jh 288 (a0.length:Int) (a0.length:Int)) (aeP (iter (Ih a0) FU (0,(aal ((a0.length:Int)).toNat s8))) λ(v6:List ag)=>ς v6) ξ
instance aaL{a0:List ag}{r:List ag}:FC prog (zy a0=ς r) 31 [aL (a0.map aM)] [.c (.own 140 30 (r.map aM) r.length)]:=gG func31 ntmps31 (hL 0 (λ(v:Int×List ag) sl ob nx=>⟨(3,.v (.c (.w 0 v.2.length)))::(4,tI v.1)::xS [0] sl,[(0,w140 v.2)]++ob,nx⟩)) (hB 0 (λ(v:List ag) sl ob nx=>⟨(3,.v (.c (.w 0 v.length)))::(4,.any)::xS [0] sl,[(0,w140 v)]++ob,nx⟩))
def pb(a0:ah):Option ah:=
 ς a0
instance UZ{a0:ah}{r:ah}:FC prog (pb a0=ς r) 227 [.agg (aO a0)] [.agg (qM [] (JA r))]:=gG func227 ntmps227
def B4(a0:List ah):(Int×List ah)->Option (bJ (Int×List ah) (List ah))
 |(v1,v2)=>cond (ltB v1 (a0.length:Int)) (aeP (ix a0 v1) λx7=>aeP (pb x7) λr8=>aeP (ix v2 v1) λx9=>ς (.next (WR (v1+1),(v2.set (v1).toNat r8)))) (ς (.done v2))
def rK(a0:List ah):Option (List ah):=
 cond (jh 16 (a0.length:Int) (a0.length:Int)) (aeP (iter (B4 a0) FU (0,(aal ((a0.length:Int)).toNat cS))) λ(v6:List ah)=>ς v6) ξ
instance Td{a0:List ah}{r:List ah}:FC prog (rK a0=ς r) 147 [aL (a0.map aO)] [.c (.own 232 2 (r.map aO) r.length)]:=gG func147 ntmps147 (hL 0 (λ(v:Int×List ah) sl ob nx=>⟨(3,.v (.c (.w 0 v.2.length)))::(4,tI v.1)::xS [0] sl,[(0,w232 v.2)]++ob,nx⟩)) (hB 0 (λ(v:List ah) sl ob nx=>⟨(3,.v (.c (.w 0 v.length)))::(4,.any)::xS [0] sl,[(0,w232 v)]++ob,nx⟩))
def xL(a0:aj):Option aj:=
 aeP (rK a0.ak) λr1=>ς {a0 with ak:=r1}
instance abW{a0:aj}{r:aj}:FC prog (xL a0=ς r) 74 [.agg (bj a0)] [.agg (qM [.o] (cp r))]:=gG func74 ntmps74
def Ie(a0:List aj):(Int×List aj)->Option (bJ (Int×List aj) (List aj))
 |(v1,v2)=>cond (ltB v1 (a0.length:Int)) (aeP (ix a0 v1) λx7=>aeP (xL x7) λr8=>aeP (ix v2 v1) λx9=>ς (.next (WR (v1+1),(v2.set (v1).toNat r8)))) (ς (.done v2))
def zw(a0:List aj):Option (List aj):=
 cond (jh 48 (a0.length:Int) (a0.length:Int)) (aeP (iter (Ie a0) FU (0,(aal ((a0.length:Int)).toNat jL))) λ(v6:List aj)=>ς v6) ξ
instance aaJ{a0:List aj}{r:List aj}:FC prog (zw a0=ς r) 32 [aL (a0.map bj)] [.c (.own 144 4 (r.map bj) r.length)]:=gG func32 ntmps32 (hL 0 (λ(v:Int×List aj) sl ob nx=>⟨(3,.v (.c (.w 0 v.2.length)))::(4,tI v.1)::xS [0] sl,[(0,w144 v.2)]++ob,nx⟩)) (hB 0 (λ(v:List aj) sl ob nx=>⟨(3,.v (.c (.w 0 v.length)))::(4,.any)::xS [0] sl,[(0,w144 v)]++ob,nx⟩))
def AS(a0:aD):Option aD:=
 aeP (mR a0.cW) λr1=>ς {a0 with cW:=r1}
instance adB{a0:aD}{r:aD}:FC prog (AS a0=ς r) 148 [.agg (cP a0)] [.agg (qM [] (fM r))]:=gG func148 ntmps148
def lk(a0:aV):Option aV:=
 aeP (zx a0.be) λr1=>ς {a0 with be:=r1}
instance P9{a0:aV}{r:aV}:FC prog (lk a0=ς r) 228 [.agg (dL a0)] [.agg (qM [.o] (lX r))]:=gG func228 ntmps228
def pa(a0:am):Option am:=
 aeP (lk a0.bH) λr1=>ς {a0 with bH:=r1}
instance UY{a0:am}{r:am}:FC prog (pa a0=ς r) 149 [.agg (cQ a0)] [.agg (qM [.o] (gX r))]:=gG func149 ntmps149
def AP(a0:a9):Option a9:=
 aeP (AS a0.cg) λr1=>aeP (pa a0.cF) λr2=>ς {a0 with cg:=r1,cF:=r2}
instance adA{a0:a9}{r:a9}:FC prog (AP a0=ς r) 75 [.agg (bA a0)] [.agg (qM [.o] (ox r))]:=gG func75 ntmps75
def JT(a0:List a9):(Int×List a9)->Option (bJ (Int×List a9) (List a9))
 |(v1,v2)=>cond (ltB v1 (a0.length:Int)) (aeP (ix a0 v1) λx7=>aeP (AP x7) λr8=>aeP (ix v2 v1) λx9=>ς (.next (WR (v1+1),(v2.set (v1).toNat r8)))) (ς (.done v2))
def B3(a0:List a9):Option (List a9):=
 cond (jh 176 (a0.length:Int) (a0.length:Int)) (aeP (iter (JT a0) FU (0,(aal ((a0.length:Int)).toNat jM))) λ(v6:List a9)=>ς v6) ξ
instance abZ{a0:List a9}{r:List a9}:FC prog (B3 a0=ς r) 33 [aL (a0.map bA)] [.c (.own 152 21 (r.map bA) r.length)]:=gG func33 ntmps33 (hL 0 (λ(v:Int×List a9) sl ob nx=>⟨(3,.v (.c (.w 0 v.2.length)))::(4,tI v.1)::xS [0] sl,[(0,w152 v.2)]++ob,nx⟩)) (hB 0 (λ(v:List a9) sl ob nx=>⟨(3,.v (.c (.w 0 v.length)))::(4,.any)::xS [0] sl,[(0,w152 v)]++ob,nx⟩))
def qw(a0:dO):Option dO:=
 ς a0
instance Wr{a0:dO}{r:dO}:FC prog (qw a0=ς r) 34 [.agg (ov a0)] [.agg (qM [] (LH r))]:=gG func34 ntmps34
def fc(a0:ae):Option ae:=
 aeP (xM a0.fH) λr1=>aeP (B2 a0.aH) λr2=>aeP (zy a0.aT) λr3=>aeP (zw a0.bu) λr4=>aeP (B3 a0.aJ) λr5=>aeP (qw a0.lA) λr6=>ς (⟨r1,r2,r3,r4,r5,a0.dK,r6,a0.vU,a0.my⟩:ae)
instance eU{a0:ae}{r:ae}:FC prog (fc a0=ς r) 9 [.agg (eC a0)] [.agg (qM [.o,.o,.o,.o,.o] (cX r))]:=gG func9 ntmps9
def Qz(a0:List Int)(a1:List Int):Int->Option (bJ (Int) (Bool))
 |v1=>cond (ltB v1 (a0.length:Int)) (aeP (ix a0 v1) λx2=>aeP (ix a1 v1) λx3=>cond (!eqB x2 x3) (dn (ς η)) (ς (.next (WR (v1+1))))) (dn (ς ζ))
def Gt(a0:List Int)(a1:List Int):Option Bool:=
 cond (!eqB (a0.length:Int) (a1.length:Int)) (ς η) (iter (Qz a0 a1) FU 0)
instance leqIntS_c{a1:List Int}{r:Bool}:FC prog (Gt a0 a1=ς r) 259 [aL (a0.map eI),aL (a1.map eI)] [.c (.d (.b r))]:=gG func259 ntmps259 (hl 0 5)
def Gs(a0:cZ)(a1:cZ):Option Bool:=
 cond (!eqB a0.eO a1.eO) (ς η) (aeP (Gt a0.b7 a1.b7) λr1=>cond (!r1) (ς η) (ς ζ))
instance leqCell_c{a0:cZ}{a1:cZ}{r:Bool}:FC prog (Gs a0 a1=ς r) 168 [.agg (de a0),.agg (de a1)] [.c (.d (.b r))]:=gG func168 ntmps168
def Ok(a0:List cZ)(a1:List cZ):Int->Option (bJ (Int) (Bool))
 |v1=>cond (ltB v1 (a0.length:Int)) (aeP (ix a0 v1) λx2=>aeP (ix a1 v1) λx3=>aeP (Gs x2 x3) λr4=>cond (!r4) (dn (ς η)) (ς (.next (WR (v1+1))))) (dn (ς ζ))
def H1(a0:List cZ)(a1:List cZ):Option Bool:=
 cond (!eqB (a0.length:Int) (a1.length:Int)) (ς η) (iter (Ok a0 a1) FU 0)
instance leqCellS_c{a0:List cZ}{a1:List cZ}{r:Bool}:FC prog (H1 a0 a1=ς r) 90 [aL (a0.map de),aL (a1.map de)] [.c (.d (.b r))]:=gG func90 ntmps90 (hl 0 5)
def xo(a0:aU)(a1:aU):Option Bool:=
 aeP (H1 a0.bh a1.bh) λr1=>cond (!r1) (ς η) (ς ζ)
instance abH{a0:aU}{a1:aU}{r:Bool}:FC prog (xo a0 a1=ς r) 39 [.agg (eh a0),.agg (eh a1)] [.c (.d (.b r))]:=gG func39 ntmps39
def kB(a0:cG)(a1:cG):Option Bool:=
 cond (!eqB a0.dT a1.dT) (ς η) (cond (!eqB a0.cj a1.cj) (ς η) (ς ζ))
instance SW{a0:cG}{a1:cG}{r:Bool}:FC prog (kB a0 a1=ς r) 260 [.agg (ie a0),.agg (ie a1)] [.c (.d (.b r))]:=gG func260 ntmps260
def Gu(a0:ju)(a1:ju):Option Bool:=
 aeP (kB a0.ID a1.ID) λr1=>cond (!r1) (ς η) (cond (!eqB a0.f9 a1.f9) (ς η) (cond (!eqB a0.d7 a1.d7) (ς η) (ς ζ)))
instance leqUSIM_c{a0:ju}{a1:ju}{r:Bool}:FC prog (Gu a0 a1=ς r) 169 [.agg (BJ a0),.agg (BJ a1)] [.c (.d (.b r))]:=gG func169 ntmps169
def Oj(a0:List Int)(a1:List Int):Int->Option (bJ (Int) (Bool))
 |v1=>cond (ltB v1 (a0.length:Int)) (aeP (ix a0 v1) λx2=>aeP (ix a1 v1) λx3=>cond (!eqB x2 x3) (dn (ς η)) (ς (.next (WR (v1+1))))) (dn (ς ζ))
def zn(a0:List Int)(a1:List Int):Option Bool:=
 cond (!eqB (a0.length:Int) (a1.length:Int)) (ς η) (iter (Oj a0 a1) FU 0)
instance leqByteS_c{a1:List Int}{r:Bool}:FC prog (zn a0 a1=ς r) 321 [aL (a0.map eU8),aL (a1.map eU8)] [.c (.d (.b r))]:=gG func321 ntmps321 (hl 0 5)
def xp(a0:aP)(a1:aP):Option Bool:=
 aeP (zn a0.be a1.be) λr1=>cond (!r1) (ς η) (ς ζ)
instance abK{a0:aP}{a1:aP}{r:Bool}:FC prog (xp a0 a1=ς r) 262 [.agg (b9 a0),.agg (b9 a1)] [.c (.d (.b r))]:=gG func262 ntmps262
def H2(a0:List aP)(a1:List aP):Int->Option (bJ (Int) (Bool))
 |v1=>cond (ltB v1 (a0.length:Int)) (aeP (ix a0 v1) λx2=>aeP (ix a1 v1) λx3=>aeP (xp x2 x3) λr4=>cond (!r4) (dn (ς η)) (ς (.next (WR (v1+1))))) (dn (ς ζ))
def uX(a0:List aP)(a1:List aP):Option Bool:=
 cond (!eqB (a0.length:Int) (a1.length:Int)) (ς η) (iter (H2 a0 a1) FU 0)
instance aaE{a0:List aP}{a1:List aP}{r:Bool}:FC prog (uX a0 a1=ς r) 175 [aL (a0.map b9),aL (a1.map b9)] [.c (.d (.b r))]:=gG func175 ntmps175 (hl 0 5)
def lb(a0:ab)(a1:ab):Option Bool:=
 cond (!eqB a0.df a1.df) (ς η) (aeP (zn a0.be a1.be) λr1=>cond (!r1) (ς η) (ς ζ))
instance P3{a0:ab}{a1:ab}{r:Bool}:FC prog (lb a0 a1=ς r) 320 [.agg (an a0),.agg (an a1)] [.c (.d (.b r))]:=gG func320 ntmps320
def yI(a0:List ab)(a1:List ab):Int->Option (bJ (Int) (Bool))
 |v1=>cond (ltB v1 (a0.length:Int)) (aeP (ix a0 v1) λx2=>aeP (ix a1 v1) λx3=>aeP (lb x2 x3) λr4=>cond (!r4) (dn (ς η)) (ς (.next (WR (v1+1))))) (dn (ς ζ))
def jY(a0:List ab)(a1:List ab):Option Bool:=
 cond (!eqB (a0.length:Int) (a1.length:Int)) (ς η) (iter (yI a0 a1) FU 0)
instance Ol{a0:List ab}{a1:List ab}{r:Bool}:FC prog (jY a0 a1=ς r) 261 [aL (a0.map an),aL (a1.map an)] [.c (.d (.b r))]:=gG func261 ntmps261 (hl 0 5)
def md(a0:aB)(a1:aB):Option Bool:=
 cond (!eqB a0.bw a1.bw) (ς η) (aeP (jY a0.aA a1.aA) λr1=>cond (!r1) (ς η) (aeP (uX a0.aY a1.aY) λr2=>cond (!r2) (ς η) (ς ζ)))
instance QA{a0:aB}{a1:aB}{r:Bool}:FC prog (md a0 a1=ς r) 170 [.agg (dW a0),.agg (dW a1)] [.c (.d (.b r))]:=gG func170 ntmps170
def AH(a0:aF)(a1:aF):Option Bool:=
 aeP (Gu a0.ea a1.ea) λr1=>cond (!r1) (ς η) (cond (!eqB a0.bF a1.bF) (ς η) (cond (!eqB a0.bC a1.bC) (ς η) (cond (!eqB a0.av a1.av) (ς η) (cond (!eqB a0.bp a1.bp) (ς η) (cond (!eqB a0.a8 a1.a8) (ς η) (cond (!(booB a0.bR a1.bR)) (ς η) (cond (!eqB a0.eG a1.eG) (ς η) (aeP (md a0.ct a1.ct) λr2=>cond (!r2) (ς η) (ς ζ)))))))))
instance adt{a0:aF}{a1:aF}{r:Bool}:FC prog (AH a0 a1=ς r) 91 [.agg (bG a0),.agg (bG a1)] [.c (.d (.b r))]:=gG func91 ntmps91
def JO(a0:List aF)(a1:List aF):Int->Option (bJ (Int) (Bool))
 |v1=>cond (ltB v1 (a0.length:Int)) (aeP (ix a0 v1) λx2=>aeP (ix a1 v1) λx3=>aeP (AH x2 x3) λr4=>cond (!r4) (dn (ς η)) (ς (.next (WR (v1+1))))) (dn (ς ζ))
def BV(a0:List aF)(a1:List aF):Option Bool:=
 cond (!eqB (a0.length:Int) (a1.length:Int)) (ς η) (iter (JO a0 a1) FU 0)
instance abI{a0:List aF}{a1:List aF}{r:Bool}:FC prog (BV a0 a1=ς r) 40 [aL (a0.map bG),aL (a1.map bG)] [.c (.d (.b r))]:=gG func40 ntmps40 (hl 0 5)
def jo(a0:bI)(a1:bI):Option Bool:=
 aeP (kB a0.ID a1.ID) λr1=>cond (!r1) (ς η) (cond (!eqB a0.f9 a1.f9) (ς η) (cond (!eqB a0.df a1.df) (ς η) (ς ζ)))
instance Nb{a0:bI}{a1:bI}{r:Bool}:FC prog (jo a0 a1=ς r) 171 [.agg (eX a0),.agg (eX a1)] [.c (.d (.b r))]:=gG func171 ntmps171
def ni(a0:bK)(a1:bK):Option Bool:=
 cond (!eqB a0.iB a1.iB) (ς η) (cond (!eqB a0.iA a1.iA) (ς η) (cond (!eqB a0.dR a1.dR) (ς η) (aeP (Gt a0.bi a1.bi) λr1=>cond (!r1) (ς η) (ς ζ))))
instance SX{a0:bK}{a1:bK}{r:Bool}:FC prog (ni a0 a1=ς r) 172 [.agg (ga a0),.agg (ga a1)] [.c (.d (.b r))]:=gG func172 ntmps172
def mP(a0:cb)(a1:cb):Option Bool:=
 cond (!eqB a0.ei a1.ei) (ς η) (cond (!eqB a0.gL a1.gL) (ς η) (cond (!eqB a0.nJ a1.nJ) (ς η) (cond (!eqB a0.D0 a1.D0) (ς η) (cond (!eqB a0.f9 a1.f9) (ς η) (ς ζ)))))
instance Wh{a0:cb}{a1:cb}{r:Bool}:FC prog (mP a0 a1=ς r) 173 [.agg (gR a0),.agg (gR a1)] [.c (.d (.b r))]:=gG func173 ntmps173
def oX(a0:bL)(a1:bL):Option Bool:=
 cond (!eqB a0.eO a1.eO) (ς η) (cond (!eqB a0.em a1.em) (ς η) (cond (!eqB a0.eG a1.eG) (ς η) (ς ζ)))
instance US{a0:bL}{a1:bL}{r:Bool}:FC prog (oX a0 a1=ς r) 174 [.agg (iY a0),.agg (iY a1)] [.c (.d (.b r))]:=gG func174 ntmps174
def qo(a0:aG)(a1:aG):Option Bool:=
 cond (!eqB a0.bw a1.bw) (ς η) (aeP (jY a0.ar a1.ar) λr1=>cond (!r1) (ς η) (ς ζ))
instance Wi{a0:aG}{a1:aG}{r:Bool}:FC prog (qo a0 a1=ς r) 176 [.agg (ec a0),.agg (ec a1)] [.c (.d (.b r))]:=gG func176 ntmps176
def C9(a0:cq)(a1:cq):Option Bool:=
 cond (!eqB a0.ax a1.ax) (ς η) (cond (!eqB a0.cH a1.cH) (ς η) (cond (!eqB a0.et a1.et) (ς η) (ς ζ)))
instance leqQuota_c{a0:cq}{a1:cq}{r:Bool}:FC prog (C9 a0 a1=ς r) 177 [.agg (jT a0),.agg (jT a1)] [.c (.d (.b r))]:=gG func177 ntmps177
def xq(a0:ag)(a1:ag):Option Bool:=
 aeP (jo a0.bO a1.bO) λr1=>cond (!r1) (ς η) (aeP (ni a0.fr a1.fr) λr2=>cond (!r2) (ς η) (cond (!eqB a0.bF a1.bF) (ς η) (aeP (mP a0.aA a1.aA) λr3=>cond (!r3) (ς η) (cond (!eqB a0.bN a1.bN) (ς η) (cond (!eqB a0.av a1.av) (ς η) (cond (!eqB a0.bp a1.bp) (ς η) (cond (!eqB a0.a8 a1.a8) (ς η) (cond (!eqB a0.bC a1.bC) (ς η) (cond (!eqB a0.dy a1.dy) (ς η) (aeP (oX a0.fJ a1.fJ) λr4=>cond (!r4) (ς η) (aeP (uX a0.aS a1.aS) λr5=>cond (!r5) (ς η) (aeP (qo a0.aC a1.aC) λr6=>cond (!r6) (ς η) (cond (!eqB a0.du a1.du) (ς η) (aeP (C9 a0.bM a1.bM) λr7=>cond (!r7) (ς η) (ς ζ)))))))))))))))
instance abL{a0:ag}{a1:ag}{r:Bool}:FC prog (xq a0 a1=ς r) 92 [.agg (aM a0),.agg (aM a1)] [.c (.d (.b r))]:=gG func92 ntmps92
def H3(a0:List ag)(a1:List ag):Int->Option (bJ (Int) (Bool))
 |v1=>cond (ltB v1 (a0.length:Int)) (aeP (ix a0 v1) λx2=>aeP (ix a1 v1) λx3=>aeP (xq x2 x3) λr4=>cond (!r4) (dn (ς η)) (ς (.next (WR (v1+1))))) (dn (ς ζ))
def zo(a0:List ag)(a1:List ag):Option Bool:=
 cond (!eqB (a0.length:Int) (a1.length:Int)) (ς η) (iter (H3 a0 a1) FU 0)
instance aaF{a0:List ag}{a1:List ag}{r:Bool}:FC prog (zo a0 a1=ς r) 41 [aL (a0.map aM),aL (a1.map aM)] [.c (.d (.b r))]:=gG func41 ntmps41 (hl 0 5)
def oZ(a0:ah)(a1:ah):Option Bool:=
 cond (!eqB a0.ax a1.ax) (ς η) (cond (!eqB a0.dq a1.dq) (ς η) (ς ζ))
instance UU{a0:ah}{a1:ah}{r:Bool}:FC prog (oZ a0 a1=ς r) 263 [.agg (aO a0),.agg (aO a1)] [.c (.d (.b r))]:=gG func263 ntmps263
def BX(a0:List ah)(a1:List ah):Int->Option (bJ (Int) (Bool))
 |v1=>cond (ltB v1 (a0.length:Int)) (aeP (ix a0 v1) λx2=>aeP (ix a1 v1) λx3=>aeP (oZ x2 x3) λr4=>cond (!r4) (dn (ς η)) (ς (.next (WR (v1+1))))) (dn (ς ζ))
def ry(a0:List ah)(a1:List ah):Option Bool:=
 cond (!eqB (a0.length:Int) (a1.length:Int)) (ς η) (iter (BX a0 a1) FU 0)
instance SV{a0:List ah}{a1:List ah}{r:Bool}:FC prog (ry a0 a1=ς r) 178 [aL (a0.map aO),aL (a1.map aO)] [.c (.d (.b r))]:=gG func178 ntmps178 (hl 0 5)
def xn(a0:aj)(a1:aj):Option Bool:=
 cond (!eqB a0.gu a1.gu) (ς η) (cond (!eqB a0.bB a1.bB) (ς η) (cond (!eqB a0.eW a1.eW) (ς η) (aeP (ry a0.ak a1.ak) λr1=>cond (!r1) (ς η) (ς ζ))))
instance abG{a0:aj}{a1:aj}{r:Bool}:FC prog (xn a0 a1=ς r) 93 [.agg (bj a0),.agg (bj a1)] [.c (.d (.b r))]:=gG func93 ntmps93
def HY(a0:List aj)(a1:List aj):Int->Option (bJ (Int) (Bool))
 |v1=>cond (ltB v1 (a0.length:Int)) (aeP (ix a0 v1) λx2=>aeP (ix a1 v1) λx3=>aeP (xn x2 x3) λr4=>cond (!r4) (dn (ς η)) (ς (.next (WR (v1+1))))) (dn (ς ζ))
def zm(a0:List aj)(a1:List aj):Option Bool:=
 cond (!eqB (a0.length:Int) (a1.length:Int)) (ς η) (iter (HY a0 a1) FU 0)
instance aaD{a0:List aj}{a1:List aj}{r:Bool}:FC prog (zm a0 a1=ς r) 42 [aL (a0.map bj),aL (a1.map bj)] [.c (.d (.b r))]:=gG func42 ntmps42 (hl 0 5)
def AJ(a0:aD)(a1:aD):Option Bool:=
 cond (!eqB a0.eb a1.eb) (ς η) (cond (!eqB a0.bC a1.bC) (ς η) (cond (!eqB a0.av a1.av) (ς η) (cond (!eqB a0.a8 a1.a8) (ς η) (cond (!eqB a0.cj a1.cj) (ς η) (aeP (mP a0.cW a1.cW) λr1=>cond (!r1) (ς η) (cond (!eqB a0.nJ a1.nJ) (ς η) (ς ζ)))))))
instance adv{a0:aD}{a1:aD}{r:Bool}:FC prog (AJ a0 a1=ς r) 179 [.agg (cP a0),.agg (cP a1)] [.c (.d (.b r))]:=gG func179 ntmps179
def lc(a0:aV)(a1:aV):Option Bool:=
 cond (!eqB a0.c7 a1.c7) (ς η) (cond (!eqB a0.f8 a1.f8) (ς η) (aeP (zn a0.be a1.be) λr1=>cond (!r1) (ς η) (cond (!eqB a0.nJ a1.nJ) (ς η) (ς ζ))))
instance P4{a0:aV}{a1:aV}{r:Bool}:FC prog (lc a0 a1=ς r) 264 [.agg (dL a0),.agg (dL a1)] [.c (.d (.b r))]:=gG func264 ntmps264
def oY(a0:am)(a1:am):Option Bool:=
 cond (!eqB a0.av a1.av) (ς η) (cond (!eqB a0.a8 a1.a8) (ς η) (aeP (lc a0.bH a1.bH) λr1=>cond (!r1) (ς η) (ς ζ)))
instance UT{a0:am}{a1:am}{r:Bool}:FC prog (oY a0 a1=ς r) 180 [.agg (cQ a0),.agg (cQ a1)] [.c (.d (.b r))]:=gG func180 ntmps180
def AI(a0:a9)(a1:a9):Option Bool:=
 cond (!eqB a0.bS a1.bS) (ς η) (cond (!(booB a0.pK a1.pK)) (ς η) (cond (!(booB a0.jQ a1.jQ)) (ς η) (cond (!eqB a0.bC a1.bC) (ς η) (aeP (AJ a0.cg a1.cg) λr1=>cond (!r1) (ς η) (aeP (oY a0.cF a1.cF) λr2=>cond (!r2) (ς η) (ς ζ))))))
instance adu{a0:a9}{a1:a9}{r:Bool}:FC prog (AI a0 a1=ς r) 94 [.agg (bA a0),.agg (bA a1)] [.c (.d (.b r))]:=gG func94 ntmps94
def JP(a0:List a9)(a1:List a9):Int->Option (bJ (Int) (Bool))
 |v1=>cond (ltB v1 (a0.length:Int)) (aeP (ix a0 v1) λx2=>aeP (ix a1 v1) λx3=>aeP (AI x2 x3) λr4=>cond (!r4) (dn (ς η)) (ς (.next (WR (v1+1))))) (dn (ς ζ))
def BW(a0:List a9)(a1:List a9):Option Bool:=
 cond (!eqB (a0.length:Int) (a1.length:Int)) (ς η) (iter (JP a0 a1) FU 0)
instance abJ{a0:List a9}{a1:List a9}{r:Bool}:FC prog (BW a0 a1=ς r) 43 [aL (a0.map bA),aL (a1.map bA)] [.c (.d (.b r))]:=gG func43 ntmps43 (hl 0 5)
def qp(a0:dO)(a1:dO):Option Bool:=
 cond (!eqB a0.uy a1.uy) (ς η) (cond (!eqB a0.jS a1.jS) (ς η) (ς ζ))
instance Wj{a0:dO}{a1:dO}{r:Bool}:FC prog (qp a0 a1=ς r) 44 [.agg (ov a0),.agg (ov a1)] [.c (.d (.b r))]:=gG func44 ntmps44
def fa(a0:ae)(a1:ae):Option Bool:=
 aeP (xo a0.fH a1.fH) λr1=>cond (!r1) (ς η) (aeP (BV a0.aH a1.aH) λr2=>cond (!r2) (ς η) (aeP (zo a0.aT a1.aT) λr3=>cond (!r3) (ς η) (aeP (zm a0.bu a1.bu) λr4=>cond (!r4) (ς η) (aeP (BW a0.aJ a1.aJ) λr5=>cond (!r5) (ς η) (cond (!eqB a0.dK a1.dK) (ς η) (aeP (qp a0.lA a1.lA) λr6=>cond (!r6) (ς η) (cond (!eqB a0.vU a1.vU) (ς η) (cond (!eqB a0.my a1.my) (ς η) (ς ζ)))))))))
instance eT{a0:ae}{a1:ae}{r:Bool}:FC prog (fa a0 a1=ς r) 11 [.agg (eC a0),.agg (eC a1)] [.c (.d (.b r))]:=gG func11 ntmps11
def o6(a0:List Int):(Int×Int)->Option (bJ (Int×Int) (Int))
 |(v1,v2)=>cond (ltB v2 (a0.length:Int)) (aeP (ix a0 v2) λx5=>ς (.next (WR (v1+1),WR (v2+1)))) (ς (.done v1))
def uY(a0:List Int)(a1:Int):Option Int:=
 aeP (iter (o6 a0) FU (a1,0)) λ(v4:Int)=>ς v4
theorem Bt(H:uY a0 a1=ς r):FnM prog 98 [.v (.c (.z (.l (a0.map eI)))),tI a1] r:=by
 refine rr func98 (hN:=ntmps98) (h:=?_)
 refine wI ?_
 refine aa H λv4 Hj H=>jB ⟨[(1,tI v4)],[],0⟩ ?_ ?_
 .refine iT Hj (λq=>⟨[(0,.v (.c (.z (.l (a0.map eI))))),(1,tI q.1),(5,tI q.2)],[],0⟩) ?_
  rintro⟨v1,v2⟩ o H
  refine ad ?_
  refine cC H ?_ ?_<;>intro H
  .refine aa H λx5 hx5 H=>nA (xzT (enc:=eI) hx5 (λ_=>rfl) rfl rfl rfl) ?_
   exact aN H
  exact aE H
 exact ao H
def np(a0:List cZ):(Int×Int)->Option (bJ (Int×Int) (Int))
 |(v1,v2)=>cond (ltB v2 (a0.length:Int)) (aeP (ix a0 v2) λx7=>aeP (ix a0 v2) λx8=>aeP (uY x8.b7 (WR (v1+1))) λr9=>ς (.next (r9,WR (v2+1)))) (ς (.done v1))
def xz(a0:List cZ)(a1:Int):Option Int:=
 aeP (iter (np a0) FU (a1,0)) λ(v6:Int)=>ς v6
theorem H5{a0:List cZ}(H:xz a0 a1=ς r):FnM prog 95 [.v (.c (.z (.l (a0.map de)))),tI a1] r:=by
 refine rr func95 (hN:=ntmps95) (h:=?_)
 refine wI ?_
 refine aa H λv6 Hj H=>jB ⟨[(1,tI v6)],[],0⟩ ?_ ?_
 .refine iT Hj (λq=>⟨[(0,.v (.c (.z (.l (a0.map de))))),(1,tI q.1),(5,tI q.2)],[],0⟩) ?_
  rintro⟨v1,v2⟩ o H
  refine ad ?_
  refine cC H ?_ ?_<;>intro H
  .refine aa H λx7 hx7 H=>nA (xzT (enc:=de) hx7 (λ_=>rfl) rfl rfl rfl) ?_
   refine aa H λx8 hx8 H=>nA (xzT (enc:=de) hx8 (λ_=>rfl) rfl rfl rfl) ?_
   refine aa H λr9 q9 H=>sA (cz rfl (Bt q9) rfl rfl) ?_
   exact aN H
  exact aE H
 exact ao H
def o5(a0:aU)(a1:Int):Option Int:=
 aeP (xz a0.bh a1) λr1=>ς r1
theorem Ev{a0:aU}(H:o5 a0 a1=ς r):FnM prog 45 [.v (.agg [.z (.l (a0.bh.map de))]),tI a1] r:=by
 refine rr func45 (hN:=ntmps45) (h:=?_)
 refine wI ?_
 refine aa H λr1 q1 H=>sA (cz rfl (H5 q1) rfl rfl) ?_
 exact ao H
def nm(a0:List Int):(Int×Int)->Option (bJ (Int×Int) (Int))
 |(v1,v2)=>cond (ltB v2 (a0.length:Int)) (aeP (ix a0 v2) λx5=>ς (.next (WR (v1+1),WR (v2+1)))) (ς (.done v1))
def o4(a0:List Int)(a1:Int):Option Int:=
 aeP (iter (nm a0) FU (a1,0)) λ(v4:Int)=>ς v4
theorem tL(H:o4 a0 a1=ς r):FnM prog 100 [.v (.c (.z (.l (a0.map eU8)))),tI a1] r:=by
 refine rr func100 (hN:=ntmps100) (h:=?_)
 refine wI ?_
 refine aa H λv4 Hj H=>jB ⟨[(1,tI v4)],[],0⟩ ?_ ?_
 .refine iT Hj (λq=>⟨[(0,.v (.c (.z (.l (a0.map eU8))))),(1,tI q.1),(5,tI q.2)],[],0⟩) ?_
  rintro⟨v1,v2⟩ o H
  refine ad ?_
  refine cC H ?_ ?_<;>intro H
  .refine aa H λx5 hx5 H=>nA (xzT (enc:=eU8) hx5 (λ_=>rfl) rfl rfl rfl) ?_
   exact aN H
  exact aE H
 exact ao H
def fL(a0:List ab):(Int×Int)->Option (bJ (Int×Int) (Int))
 |(v1,v2)=>cond (ltB v2 (a0.length:Int)) (aeP (ix a0 v2) λx7=>aeP (ix a0 v2) λx8=>aeP (o4 x8.be (WR (v1+1))) λr9=>ς (.next (r9,WR (v2+1)))) (ς (.done v1))
def gU(a0:List ab)(a1:Int):Option Int:=
 aeP (iter (fL a0) FU (a1,0)) λ(v6:Int)=>ς v6
theorem mQ{a0:List ab}(H:gU a0 a1=ς r):FnM prog 96 [.v (.c (.z (.l (a0.map an)))),tI a1] r:=by
 refine rr func96 (hN:=ntmps96) (h:=?_)
 refine wI ?_
 refine aa H λv6 Hj H=>jB ⟨[(1,tI v6)],[],0⟩ ?_ ?_
 .refine iT Hj (λq=>⟨[(0,.v (.c (.z (.l (a0.map an))))),(1,tI q.1),(5,tI q.2)],[],0⟩) ?_
  rintro⟨v1,v2⟩ o H
  refine ad ?_
  refine cC H ?_ ?_<;>intro H
  .refine aa H λx7 hx7 H=>nA (xzT (enc:=an) hx7 (λ_=>rfl) rfl rfl rfl) ?_
   refine aa H λx8 hx8 H=>nA (xzT (enc:=an) hx8 (λ_=>rfl) rfl rfl rfl) ?_
   refine aa H λr9 q9 H=>sA (cz rfl (tL q9) rfl rfl) ?_
   exact aN H
  exact aE H
 exact ao H
def kc(a0:List aP):(Int×Int)->Option (bJ (Int×Int) (Int))
 |(v1,v2)=>cond (ltB v2 (a0.length:Int)) (aeP (ix a0 v2) λx6=>aeP (o4 x6.be v1) λr7=>ς (.next (r7,WR (v2+1)))) (ς (.done v1))
def nu(a0:List aP)(a1:Int):Option Int:=
 aeP (iter (kc a0) FU (a1,0)) λ(v5:Int)=>ς v5
theorem uZ{a0:List aP}(H:nu a0 a1=ς r):FnM prog 97 [.v (.c (.z (.l (a0.map b9)))),tI a1] r:=by
 refine rr func97 (hN:=ntmps97) (h:=?_)
 refine wI ?_
 refine aa H λv5 Hj H=>jB ⟨[(1,tI v5)],[],0⟩ ?_ ?_
 .refine iT Hj (λq=>⟨[(0,.v (.c (.z (.l (a0.map b9))))),(1,tI q.1),(5,tI q.2)],[],0⟩) ?_
  rintro⟨v1,v2⟩ o H
  refine ad ?_
  refine cC H ?_ ?_<;>intro H
  .refine aa H λx6 hx6 H=>nA (xzT (enc:=b9) hx6 (λ_=>rfl) rfl rfl rfl) ?_
   refine aa H λr7 q7 H=>sA (cz rfl (tL q7) rfl rfl) ?_
   exact aN H
  exact aE H
 exact ao H
def le(a0:List aF):(Int×Int)->Option (bJ (Int×Int) (Int))
 |(v1,v2)=>cond (ltB v2 (a0.length:Int)) (aeP (ix a0 v2) λx20=>aeP (ix a0 v2) λx21=>aeP (ix a0 v2) λx22=>aeP (ix a0 v2) λx23=>aeP (ix a0 v2) λx24=>aeP (ix a0 v2) λx25=>aeP (ix a0 v2) λx26=>aeP (ix a0 v2) λx27=>aeP (ix a0 v2) λx28=>aeP (ix a0 v2) λx29=>aeP (ix a0 v2) λx30=>aeP (ix a0 v2) λx31=>aeP (ix a0 v2) λx32=>aeP (gU x32.ct.aA (WR ((WR ((WR ((WR ((WR ((WR ((WR ((WR ((WR ((WR ((WR ((WR (v1+1))+1))+1))+1))+1))+1))+1))+1))+1))+1))+1))+1))) λr33=>aeP (ix a0 v2) λx34=>aeP (nu x34.ct.aY r33) λr35=>ς (.next (r35,WR (v2+1)))) (ς (.done v1))
def tM(a0:List aF)(a1:Int):Option Int:=
 aeP (iter (le a0) FU (a1,0)) λ(v19:Int)=>ς v19
theorem Ew{a0:List aF}(H:tM a0 a1=ς r):FnM prog 46 [.v (.c (.z (.l (a0.map bG)))),tI a1] r:=by
 refine rr func46 (hN:=ntmps46) (h:=?_)
 refine wI ?_
 refine aa H λv19 Hj H=>jB ⟨[(1,tI v19)],[],0⟩ ?_ ?_
 .refine iT Hj (λq=>⟨[(0,.v (.c (.z (.l (a0.map bG))))),(1,tI q.1),(5,tI q.2)],[],0⟩) ?_
  rintro⟨v1,v2⟩ o H
  refine ad ?_
  refine cC H ?_ ?_<;>intro H
  .refine aa H λx20 hx20 H=>nA (xzT (enc:=bG) hx20 (λ_=>rfl) rfl rfl rfl) ?_
   refine aa H λx21 hx21 H=>nA (xzT (enc:=bG) hx21 (λ_=>rfl) rfl rfl rfl) ?_
   refine aa H λx22 hx22 H=>nA (xzT (enc:=bG) hx22 (λ_=>rfl) rfl rfl rfl) ?_
   refine aa H λx23 hx23 H=>nA (xzT (enc:=bG) hx23 (λ_=>rfl) rfl rfl rfl) ?_
   refine aa H λx24 hx24 H=>nA (xzT (enc:=bG) hx24 (λ_=>rfl) rfl rfl rfl) ?_
   refine aa H λx25 hx25 H=>nA (xzT (enc:=bG) hx25 (λ_=>rfl) rfl rfl rfl) ?_
   refine aa H λx26 hx26 H=>nA (xzT (enc:=bG) hx26 (λ_=>rfl) rfl rfl rfl) ?_
   refine aa H λx27 hx27 H=>nA (xzT (enc:=bG) hx27 (λ_=>rfl) rfl rfl rfl) ?_
   refine aa H λx28 hx28 H=>nA (xzT (enc:=bG) hx28 (λ_=>rfl) rfl rfl rfl) ?_
   refine nA (ir rfl rfl rfl (by decide)) ?_
   refine aa H λx29 hx29 H=>nA (xzT (enc:=bG) hx29 (λ_=>rfl) rfl rfl rfl) ?_
   refine aa H λx30 hx30 H=>nA (xzT (enc:=bG) hx30 (λ_=>rfl) rfl rfl rfl) ?_
   refine aa H λx31 hx31 H=>nA (xzT (enc:=bG) hx31 (λ_=>rfl) rfl rfl rfl) ?_
   refine aa H λx32 hx32 H=>nA (xzT (enc:=bG) hx32 (λ_=>rfl) rfl rfl rfl) ?_
   refine aa H λr33 q33 H=>sA (cz rfl (mQ q33) rfl rfl) ?_
   refine aa H λx34 hx34 H=>nA (xzT (enc:=bG) hx34 (λ_=>rfl) rfl rfl rfl) ?_
   refine aa H λr35 q35 H=>sA (cz rfl (uZ q35) rfl rfl) ?_
   exact aN H
  exact aE H
 exact ao H
def ke(a0:List ag):(Int×Int)->Option (bJ (Int×Int) (Int))
 |(v1,v2)=>cond (ltB v2 (a0.length:Int)) (aeP (ix a0 v2) λx37=>aeP (ix a0 v2) λx38=>aeP (ix a0 v2) λx39=>aeP (ix a0 v2) λx40=>aeP (ix a0 v2) λx41=>aeP (ix a0 v2) λx42=>aeP (ix a0 v2) λx43=>aeP (ix a0 v2) λx44=>aeP (uY x44.fr.bi (WR ((WR ((WR ((WR ((WR ((WR ((WR (v1+1))+1))+1))+1))+1))+1))+1))) λr45=>aeP (ix a0 v2) λx46=>aeP (ix a0 v2) λx47=>aeP (ix a0 v2) λx48=>aeP (ix a0 v2) λx49=>aeP (ix a0 v2) λx50=>aeP (ix a0 v2) λx51=>aeP (ix a0 v2) λx52=>aeP (ix a0 v2) λx53=>aeP (ix a0 v2) λx54=>aeP (ix a0 v2) λx55=>aeP (ix a0 v2) λx56=>aeP (ix a0 v2) λx57=>aeP (ix a0 v2) λx58=>aeP (ix a0 v2) λx59=>aeP (ix a0 v2) λx60=>aeP (ix a0 v2) λx61=>aeP (nu x61.aS (WR ((WR ((WR ((WR ((WR ((WR ((WR ((WR ((WR ((WR ((WR ((WR ((WR ((WR ((WR (r45+1))+1))+1))+1))+1))+1))+1))+1))+1))+1))+1))+1))+1))+1))+1))) λr62=>aeP (ix a0 v2) λx63=>aeP (ix a0 v2) λx64=>aeP (gU x64.aC.ar (WR (r62+1))) λr65=>aeP (ix a0 v2) λx66=>aeP (ix a0 v2) λx67=>aeP (ix a0 v2) λx68=>aeP (ix a0 v2) λx69=>ς (.next (WR ((WR ((WR ((WR (r65+1))+1))+1))+1),WR (v2+1)))) (ς (.done v1))
def rG(a0:List ag)(a1:Int):Option Int:=
 aeP (iter (ke a0) FU (a1,0)) λ(v36:Int)=>ς v36
theorem Db{a0:List ag}(H:rG a0 a1=ς r):FnM prog 47 [.v (.c (.z (.l (a0.map aM)))),tI a1] r:=by
 refine rr func47 (hN:=ntmps47) (h:=?_)
 refine wI ?_
 refine aa H λv36 Hj H=>jB ⟨[(1,tI v36)],[],0⟩ ?_ ?_
 .refine iT Hj (λq=>⟨[(0,.v (.c (.z (.l (a0.map aM))))),(1,tI q.1),(5,tI q.2)],[],0⟩) ?_
  rintro⟨v1,v2⟩ o H
  refine ad ?_
  refine cC H ?_ ?_<;>intro H
  .refine aa H λx37 hx37 H=>nA (xzT (enc:=aM) hx37 (λ_=>rfl) rfl rfl rfl) ?_
   refine aa H λx38 hx38 H=>nA (xzT (enc:=aM) hx38 (λ_=>rfl) rfl rfl rfl) ?_
   refine aa H λx39 hx39 H=>nA (xzT (enc:=aM) hx39 (λ_=>rfl) rfl rfl rfl) ?_
   refine aa H λx40 hx40 H=>nA (xzT (enc:=aM) hx40 (λ_=>rfl) rfl rfl rfl) ?_
   refine aa H λx41 hx41 H=>nA (xzT (enc:=aM) hx41 (λ_=>rfl) rfl rfl rfl) ?_
   refine aa H λx42 hx42 H=>nA (xzT (enc:=aM) hx42 (λ_=>rfl) rfl rfl rfl) ?_
   refine aa H λx43 hx43 H=>nA (xzT (enc:=aM) hx43 (λ_=>rfl) rfl rfl rfl) ?_
   refine aa H λx44 hx44 H=>nA (xzT (enc:=aM) hx44 (λ_=>rfl) rfl rfl rfl) ?_
   refine aa H λr45 q45 H=>sA (cz rfl (Bt q45) rfl rfl) ?_
   refine aa H λx46 hx46 H=>nA (xzT (enc:=aM) hx46 (λ_=>rfl) rfl rfl rfl) ?_
   refine aa H λx47 hx47 H=>nA (xzT (enc:=aM) hx47 (λ_=>rfl) rfl rfl rfl) ?_
   refine aa H λx48 hx48 H=>nA (xzT (enc:=aM) hx48 (λ_=>rfl) rfl rfl rfl) ?_
   refine aa H λx49 hx49 H=>nA (xzT (enc:=aM) hx49 (λ_=>rfl) rfl rfl rfl) ?_
   refine aa H λx50 hx50 H=>nA (xzT (enc:=aM) hx50 (λ_=>rfl) rfl rfl rfl) ?_
   refine aa H λx51 hx51 H=>nA (xzT (enc:=aM) hx51 (λ_=>rfl) rfl rfl rfl) ?_
   refine aa H λx52 hx52 H=>nA (xzT (enc:=aM) hx52 (λ_=>rfl) rfl rfl rfl) ?_
   refine aa H λx53 hx53 H=>nA (xzT (enc:=aM) hx53 (λ_=>rfl) rfl rfl rfl) ?_
   refine aa H λx54 hx54 H=>nA (xzT (enc:=aM) hx54 (λ_=>rfl) rfl rfl rfl) ?_
   refine aa H λx55 hx55 H=>nA (xzT (enc:=aM) hx55 (λ_=>rfl) rfl rfl rfl) ?_
   refine aa H λx56 hx56 H=>nA (xzT (enc:=aM) hx56 (λ_=>rfl) rfl rfl rfl) ?_
   refine aa H λx57 hx57 H=>nA (xzT (enc:=aM) hx57 (λ_=>rfl) rfl rfl rfl) ?_
   refine aa H λx58 hx58 H=>nA (xzT (enc:=aM) hx58 (λ_=>rfl) rfl rfl rfl) ?_
   refine aa H λx59 hx59 H=>nA (xzT (enc:=aM) hx59 (λ_=>rfl) rfl rfl rfl) ?_
   refine aa H λx60 hx60 H=>nA (xzT (enc:=aM) hx60 (λ_=>rfl) rfl rfl rfl) ?_
   refine aa H λx61 hx61 H=>nA (xzT (enc:=aM) hx61 (λ_=>rfl) rfl rfl rfl) ?_
   refine aa H λr62 q62 H=>sA (cz rfl (uZ q62) rfl rfl) ?_
   refine aa H λx63 hx63 H=>nA (xzT (enc:=aM) hx63 (λ_=>rfl) rfl rfl rfl) ?_
   refine aa H λx64 hx64 H=>nA (xzT (enc:=aM) hx64 (λ_=>rfl) rfl rfl rfl) ?_
   refine aa H λr65 q65 H=>sA (cz rfl (mQ q65) rfl rfl) ?_
   refine aa H λx66 hx66 H=>nA (xzT (enc:=aM) hx66 (λ_=>rfl) rfl rfl rfl) ?_
   refine aa H λx67 hx67 H=>nA (xzT (enc:=aM) hx67 (λ_=>rfl) rfl rfl rfl) ?_
   refine aa H λx68 hx68 H=>nA (xzT (enc:=aM) hx68 (λ_=>rfl) rfl rfl rfl) ?_
   refine aa H λx69 hx69 H=>nA (xzT (enc:=aM) hx69 (λ_=>rfl) rfl rfl rfl) ?_
   exact aN H
  exact aE H
 exact ao H
def gW(a0:List ah):(Int×Int)->Option (bJ (Int×Int) (Int))
 |(v1,v2)=>cond (ltB v2 (a0.length:Int)) (aeP (ix a0 v2) λx6=>aeP (ix a0 v2) λx7=>ς (.next (WR ((WR (v1+1))+1),WR (v2+1)))) (ς (.done v1))
def mE(a0:List ah)(a1:Int):Option Int:=
 aeP (iter (gW a0) FU (a1,0)) λ(v5:Int)=>ς v5
theorem yJ{a0:List ah}(H:mE a0 a1=ς r):FnM prog 99 [.v (.c (.z (.l (a0.map aO)))),tI a1] r:=by
 refine rr func99 (hN:=ntmps99) (h:=?_)
 refine wI ?_
 refine aa H λv5 Hj H=>jB ⟨[(1,tI v5)],[],0⟩ ?_ ?_
 .refine iT Hj (λq=>⟨[(0,.v (.c (.z (.l (a0.map aO))))),(1,tI q.1),(5,tI q.2)],[],0⟩) ?_
  rintro⟨v1,v2⟩ o H
  refine ad ?_
  refine cC H ?_ ?_<;>intro H
  .refine aa H λx6 hx6 H=>nA (xzT (enc:=aO) hx6 (λ_=>rfl) rfl rfl rfl) ?_
   refine aa H λx7 hx7 H=>nA (xzT (enc:=aO) hx7 (λ_=>rfl) rfl rfl rfl) ?_
   exact aN H
  exact aE H
 exact ao H
def jZ(a0:List aj):(Int×Int)->Option (bJ (Int×Int) (Int))
 |(v1,v2)=>cond (ltB v2 (a0.length:Int)) (aeP (ix a0 v2) λx9=>aeP (ix a0 v2) λx10=>aeP (ix a0 v2) λx11=>aeP (ix a0 v2) λx12=>aeP (mE x12.ak (WR ((WR ((WR (v1+1))+1))+1))) λr13=>ς (.next (r13,WR (v2+1)))) (ς (.done v1))
def rA(a0:List aj)(a1:Int):Option Int:=
 aeP (iter (jZ a0) FU (a1,0)) λ(v8:Int)=>ς v8
theorem Da{a0:List aj}(H:rA a0 a1=ς r):FnM prog 48 [.v (.c (.z (.l (a0.map bj)))),tI a1] r:=by
 refine rr func48 (hN:=ntmps48) (h:=?_)
 refine wI ?_
 refine aa H λv8 Hj H=>jB ⟨[(1,tI v8)],[],0⟩ ?_ ?_
 .refine iT Hj (λq=>⟨[(0,.v (.c (.z (.l (a0.map bj))))),(1,tI q.1),(5,tI q.2)],[],0⟩) ?_
  rintro⟨v1,v2⟩ o H
  refine ad ?_
  refine cC H ?_ ?_<;>intro H
  .refine aa H λx9 hx9 H=>nA (xzT (enc:=bj) hx9 (λ_=>rfl) rfl rfl rfl) ?_
   refine aa H λx10 hx10 H=>nA (xzT (enc:=bj) hx10 (λ_=>rfl) rfl rfl rfl) ?_
   refine aa H λx11 hx11 H=>nA (xzT (enc:=bj) hx11 (λ_=>rfl) rfl rfl rfl) ?_
   refine aa H λx12 hx12 H=>nA (xzT (enc:=bj) hx12 (λ_=>rfl) rfl rfl rfl) ?_
   refine aa H λr13 q13 H=>sA (cz rfl (yJ q13) rfl rfl) ?_
   exact aN H
  exact aE H
 exact ao H
def lf(a0:List a9):(Int×Int)->Option (bJ (Int×Int) (Int))
 |(v1,v2)=>cond (ltB v2 (a0.length:Int)) (aeP (ix a0 v2) λx26=>aeP (ix a0 v2) λx27=>aeP (ix a0 v2) λx28=>aeP (ix a0 v2) λx29=>aeP (ix a0 v2) λx30=>aeP (ix a0 v2) λx31=>aeP (ix a0 v2) λx32=>aeP (ix a0 v2) λx33=>aeP (ix a0 v2) λx34=>aeP (ix a0 v2) λx35=>aeP (ix a0 v2) λx36=>aeP (ix a0 v2) λx37=>aeP (ix a0 v2) λx38=>aeP (ix a0 v2) λx39=>aeP (ix a0 v2) λx40=>aeP (ix a0 v2) λx41=>aeP (ix a0 v2) λx42=>aeP (ix a0 v2) λx43=>aeP (ix a0 v2) λx44=>aeP (ix a0 v2) λx45=>aeP (o4 x45.cF.bH.be (WR ((WR ((WR ((WR ((WR ((WR ((WR ((WR ((WR ((WR ((WR ((WR ((WR ((WR ((WR ((WR ((WR ((WR ((WR (v1+1))+1))+1))+1))+1))+1))+1))+1))+1))+1))+1))+1))+1))+1))+1))+1))+1))+1))+1))) λr46=>aeP (ix a0 v2) λx47=>ς (.next (WR (r46+1),WR (v2+1)))) (ς (.done v1))
def tO(a0:List a9)(a1:Int):Option Int:=
 aeP (iter (lf a0) FU (a1,0)) λ(v25:Int)=>ς v25
theorem Ex{a0:List a9}(H:tO a0 a1=ς r):FnM prog 49 [.v (.c (.z (.l (a0.map bA)))),tI a1] r:=by
 refine rr func49 (hN:=ntmps49) (h:=?_)
 refine wI ?_
 refine aa H λv25 Hj H=>jB ⟨[(1,tI v25)],[],0⟩ ?_ ?_
 .refine iT Hj (λq=>⟨[(0,.v (.c (.z (.l (a0.map bA))))),(1,tI q.1),(5,tI q.2)],[],0⟩) ?_
  rintro⟨v1,v2⟩ o H
  refine ad ?_
  refine cC H ?_ ?_<;>intro H
  .refine aa H λx26 hx26 H=>nA (xzT (enc:=bA) hx26 (λ_=>rfl) rfl rfl rfl) ?_
   refine nA (ir rfl rfl rfl (by decide)) ?_
   refine aa H λx27 hx27 H=>nA (xzT (enc:=bA) hx27 (λ_=>rfl) rfl rfl rfl) ?_
   refine nA (ir rfl rfl rfl (by decide)) ?_
   refine aa H λx28 hx28 H=>nA (xzT (enc:=bA) hx28 (λ_=>rfl) rfl rfl rfl) ?_
   refine aa H λx29 hx29 H=>nA (xzT (enc:=bA) hx29 (λ_=>rfl) rfl rfl rfl) ?_
   refine aa H λx30 hx30 H=>nA (xzT (enc:=bA) hx30 (λ_=>rfl) rfl rfl rfl) ?_
   refine aa H λx31 hx31 H=>nA (xzT (enc:=bA) hx31 (λ_=>rfl) rfl rfl rfl) ?_
   refine aa H λx32 hx32 H=>nA (xzT (enc:=bA) hx32 (λ_=>rfl) rfl rfl rfl) ?_
   refine aa H λx33 hx33 H=>nA (xzT (enc:=bA) hx33 (λ_=>rfl) rfl rfl rfl) ?_
   refine aa H λx34 hx34 H=>nA (xzT (enc:=bA) hx34 (λ_=>rfl) rfl rfl rfl) ?_
   refine aa H λx35 hx35 H=>nA (xzT (enc:=bA) hx35 (λ_=>rfl) rfl rfl rfl) ?_
   refine aa H λx36 hx36 H=>nA (xzT (enc:=bA) hx36 (λ_=>rfl) rfl rfl rfl) ?_
   refine aa H λx37 hx37 H=>nA (xzT (enc:=bA) hx37 (λ_=>rfl) rfl rfl rfl) ?_
   refine aa H λx38 hx38 H=>nA (xzT (enc:=bA) hx38 (λ_=>rfl) rfl rfl rfl) ?_
   refine aa H λx39 hx39 H=>nA (xzT (enc:=bA) hx39 (λ_=>rfl) rfl rfl rfl) ?_
   refine aa H λx40 hx40 H=>nA (xzT (enc:=bA) hx40 (λ_=>rfl) rfl rfl rfl) ?_
   refine aa H λx41 hx41 H=>nA (xzT (enc:=bA) hx41 (λ_=>rfl) rfl rfl rfl) ?_
   refine aa H λx42 hx42 H=>nA (xzT (enc:=bA) hx42 (λ_=>rfl) rfl rfl rfl) ?_
   refine aa H λx43 hx43 H=>nA (xzT (enc:=bA) hx43 (λ_=>rfl) rfl rfl rfl) ?_
   refine aa H λx44 hx44 H=>nA (xzT (enc:=bA) hx44 (λ_=>rfl) rfl rfl rfl) ?_
   refine aa H λx45 hx45 H=>nA (xzT (enc:=bA) hx45 (λ_=>rfl) rfl rfl rfl) ?_
   refine aa H λr46 q46 H=>sA (cz rfl (tL q46) rfl rfl) ?_
   refine aa H λx47 hx47 H=>nA (xzT (enc:=bA) hx47 (λ_=>rfl) rfl rfl rfl) ?_
   exact aN H
  exact aE H
 exact ao H
def jG(a0:ae)(a1:Int):Option Int:=
 aeP (o5 a0.fH a1) λr1=>aeP (tM a0.aH r1) λr2=>aeP (rG a0.aT r2) λr3=>aeP (rA a0.bu r3) λr4=>aeP (tO a0.aJ r4) λr5=>ς r5
theorem pU{a0:ae}(H:jG a0 a1=ς r):FnM prog 12 [.v (.agg [.z (.l (a0.fH.bh.map de)),.z (.l (a0.aH.map bG)),.z (.l (a0.aT.map aM)),.z (.l (a0.bu.map bj)),.z (.l (a0.aJ.map bA)),.z (.i .i64 a0.dK),.z (.i .i64 a0.lA.uy),.z (.i .i64 a0.lA.jS),.z (.i .i64 a0.vU),.z (.i .i64 a0.my)]),tI a1] r:=by
 refine rr func12 (hN:=ntmps12) (h:=?_)
 refine wI ?_
 refine aa H λr1 q1 H=>sA (cz rfl (Ev q1) rfl rfl) ?_
 refine aa H λr2 q2 H=>sA (cz rfl (Ew q2) rfl rfl) ?_
 refine aa H λr3 q3 H=>sA (cz rfl (Db q3) rfl rfl) ?_
 refine aa H λr4 q4 H=>sA (cz rfl (Da q4) rfl rfl) ?_
 refine aa H λr5 q5 H=>sA (cz rfl (Ex q5) rfl rfl) ?_
 exact ao H
def sE(a0:List Int):(Int×Int)->Option (bJ (Int×Int) (Int))
 |(v1,v2)=>cond (ltB v2 (a0.length:Int)) (aeP (ix a0 v2) λx3=>cond (!eqB x3 v1) (dn (ς (-1))) (ς (.next (WR (v1+1),WR (v2+1))))) (dn (ς v1))
def AK(a0:List Int)(a1:Int):Option Int:=
 iter (sE a0) FU (a1,0)
instance adw:FC prog (AK a0 a1=ς r) 104 [aL (a0.map eI),aI a1] [.c (.d (.i .i64 r))]:=gG func104 ntmps104 (hm 0 1 5)
def qr(a0:List cZ):(Int×Int)->Option (bJ (Int×Int) (Int))
 |(v1,v2)=>cond (ltB v2 (a0.length:Int)) (aeP (ix a0 v2) λx3=>cond (!eqB x3.eO v1) (dn (ς (-1))) (aeP (ix a0 v2) λx4=>aeP (AK x4.b7 (WR (v1+1))) λr5=>cond (ltB r5 0) (dn (ς (-1))) (ς (.next (r5,WR (v2+1)))))) (dn (ς v1))
def BZ(a0:List cZ)(a1:Int):Option Int:=
 iter (qr a0) FU (a1,0)
instance abN{a0:List cZ} :FC prog (BZ a0 a1=ς r) 101 [aL (a0.map de),aI a1] [.c (.d (.i .i64 r))]:=gG func101 ntmps101 (hm 0 1 5)
def xr(a0:aU)(a1:Int):Option Int:=
 aeP (BZ a0.bh a1) λr1=>cond (ltB r1 0) (ς (-1)) (ς r1)
instance Yd{a0:aU} :FC prog (xr a0 a1=ς r) 50 [.agg (eh a0),aI a1] [.c (.d (.i .i64 r))]:=gG func50 ntmps50
def qq(a0:List Int):(Int×Int)->Option (bJ (Int×Int) (Int))
 |(v1,v2)=>cond (ltB v2 (a0.length:Int)) (aeP (ix a0 v2) λx3=>cond (!eqB x3 (IntKind.u8.wrap (v1))) (dn (ς (-1))) (ς (.next (WR (v1+1),WR (v2+1))))) (dn (ς v1))
def tK(a0:List Int)(a1:Int):Option Int:=
 iter (qq a0) FU (a1,0)
instance abM:FC prog (tK a0 a1=ς r) 106 [aL (a0.map eU8),aI a1] [.c (.d (.i .i64 r))]:=gG func106 ntmps106 (hm 0 1 5)
def gA(a0:List ab):(Int×Int)->Option (bJ (Int×Int) (Int))
 |(v1,v2)=>cond (ltB v2 (a0.length:Int)) (aeP (ix a0 v2) λx3=>cond (!eqB x3.df v1) (dn (ς (-1))) (aeP (ix a0 v2) λx4=>aeP (tK x4.be (WR (v1+1))) λr5=>cond (ltB r5 0) (dn (ς (-1))) (ς (.next (r5,WR (v2+1)))))) (dn (ς v1))
def iM(a0:List ab)(a1:Int):Option Int:=
 iter (gA a0) FU (a1,0)
instance L2{a0:List ab} :FC prog (iM a0 a1=ς r) 102 [aL (a0.map an),aI a1] [.c (.d (.i .i64 r))]:=gG func102 ntmps102 (hm 0 1 5)
def mf(a0:List aP):(Int×Int)->Option (bJ (Int×Int) (Int))
 |(v1,v2)=>cond (ltB v2 (a0.length:Int)) (aeP (ix a0 v2) λx3=>aeP (tK x3.be v1) λr4=>cond (ltB r4 0) (dn (ς (-1))) (ς (.next (r4,WR (v2+1))))) (dn (ς v1))
def qs(a0:List aP)(a1:Int):Option Int:=
 iter (mf a0) FU (a1,0)
instance Wl{a0:List aP} :FC prog (qs a0 a1=ς r) 103 [aL (a0.map b9),aI a1] [.c (.d (.i .i64 r))]:=gG func103 ntmps103 (hm 0 1 5)
def nj(a0:List aF):(Int×Int)->Option (bJ (Int×Int) (Int))
 |(v1,v2)=>cond (ltB v2 (a0.length:Int)) (aeP (ix a0 v2) λx3=>cond (!eqB x3.ea.ID.dT v1) (dn (ς (-1))) (aeP (ix a0 v2) λx4=>cond (!eqB x4.ea.ID.cj (WR (v1+1))) (dn (ς (-1))) (aeP (ix a0 v2) λx5=>cond (!eqB x5.ea.f9 (WR ((WR (v1+1))+1))) (dn (ς (-1))) (aeP (ix a0 v2) λx6=>cond (!eqB x6.ea.d7 (WR ((WR ((WR (v1+1))+1))+1))) (dn (ς (-1))) (aeP (ix a0 v2) λx7=>cond (!eqB x7.bF (WR ((WR ((WR ((WR (v1+1))+1))+1))+1))) (dn (ς (-1))) (aeP (ix a0 v2) λx8=>cond (!eqB x8.bC (WR ((WR ((WR ((WR ((WR (v1+1))+1))+1))+1))+1))) (dn (ς (-1))) (aeP (ix a0 v2) λx9=>cond (!eqB x9.av (WR ((WR ((WR ((WR ((WR ((WR (v1+1))+1))+1))+1))+1))+1))) (dn (ς (-1))) (aeP (ix a0 v2) λx10=>cond (!eqB x10.bp (WR ((WR ((WR ((WR ((WR ((WR ((WR (v1+1))+1))+1))+1))+1))+1))+1))) (dn (ς (-1))) (aeP (ix a0 v2) λx11=>cond (!eqB x11.a8 (WR ((WR ((WR ((WR ((WR ((WR ((WR ((WR (v1+1))+1))+1))+1))+1))+1))+1))+1))) (dn (ς (-1))) (aeP (ix a0 v2) λx12=>cond (!(booB x12.bR (eqB (Int.tmod (WR ((WR ((WR ((WR ((WR ((WR ((WR ((WR ((WR (v1+1))+1))+1))+1))+1))+1))+1))+1))+1)) 3) 0))) (dn (ς (-1))) (aeP (ix a0 v2) λx13=>cond (!eqB x13.eG (WR ((WR ((WR ((WR ((WR ((WR ((WR ((WR ((WR ((WR (v1+1))+1))+1))+1))+1))+1))+1))+1))+1))+1))) (dn (ς (-1))) (aeP (ix a0 v2) λx14=>cond (!eqB x14.ct.bw (WR ((WR ((WR ((WR ((WR ((WR ((WR ((WR ((WR ((WR ((WR (v1+1))+1))+1))+1))+1))+1))+1))+1))+1))+1))+1))) (dn (ς (-1))) (aeP (ix a0 v2) λx15=>aeP (iM x15.ct.aA (WR ((WR ((WR ((WR ((WR ((WR ((WR ((WR ((WR ((WR ((WR ((WR (v1+1))+1))+1))+1))+1))+1))+1))+1))+1))+1))+1))+1))) λr16=>cond (ltB r16 0) (dn (ς (-1))) (aeP (ix a0 v2) λx17=>aeP (qs x17.ct.aY r16) λr18=>cond (ltB r18 0) (dn (ς (-1))) (ς (.next (r18,WR (v2+1)))))))))))))))))) (dn (ς v1))
def xt(a0:List aF)(a1:Int):Option Int:=
 iter (nj a0) FU (a1,0)
instance Ye{a0:List aF} :FC prog (xt a0 a1=ς r) 51 [aL (a0.map bG),aI a1] [.c (.d (.i .i64 r))]:=gG func51 ntmps51 (hm 0 1 5)
def mh(a0:List ag):(Int×Int)->Option (bJ (Int×Int) (Int))
 |(v1,v2)=>cond (ltB v2 (a0.length:Int)) (aeP (ix a0 v2) λx3=>cond (!eqB x3.bO.ID.dT v1) (dn (ς (-1))) (aeP (ix a0 v2) λx4=>cond (!eqB x4.bO.ID.cj (WR (v1+1))) (dn (ς (-1))) (aeP (ix a0 v2) λx5=>cond (!eqB x5.bO.f9 (WR ((WR (v1+1))+1))) (dn (ς (-1))) (aeP (ix a0 v2) λx6=>cond (!eqB x6.bO.df (WR ((WR ((WR (v1+1))+1))+1))) (dn (ς (-1))) (aeP (ix a0 v2) λx7=>cond (!eqB x7.fr.iB (WR ((WR ((WR ((WR (v1+1))+1))+1))+1))) (dn (ς (-1))) (aeP (ix a0 v2) λx8=>cond (!eqB x8.fr.iA (WR ((WR ((WR ((WR ((WR (v1+1))+1))+1))+1))+1))) (dn (ς (-1))) (aeP (ix a0 v2) λx9=>cond (!eqB x9.fr.dR (WR ((WR ((WR ((WR ((WR ((WR (v1+1))+1))+1))+1))+1))+1))) (dn (ς (-1))) (aeP (ix a0 v2) λx10=>aeP (AK x10.fr.bi (WR ((WR ((WR ((WR ((WR ((WR ((WR (v1+1))+1))+1))+1))+1))+1))+1))) λr11=>cond (ltB r11 0) (dn (ς (-1))) (aeP (ix a0 v2) λx12=>cond (!eqB x12.bF r11) (dn (ς (-1))) (aeP (ix a0 v2) λx13=>cond (!eqB x13.aA.ei (WR (r11+1))) (dn (ς (-1))) (aeP (ix a0 v2) λx14=>cond (!eqB x14.aA.gL (WR ((WR (r11+1))+1))) (dn (ς (-1))) (aeP (ix a0 v2) λx15=>cond (!eqB x15.aA.nJ (WR ((WR ((WR (r11+1))+1))+1))) (dn (ς (-1))) (aeP (ix a0 v2) λx16=>cond (!eqB x16.aA.D0 (WR ((WR ((WR ((WR (r11+1))+1))+1))+1))) (dn (ς (-1))) (aeP (ix a0 v2) λx17=>cond (!eqB x17.aA.f9 (WR ((WR ((WR ((WR ((WR (r11+1))+1))+1))+1))+1))) (dn (ς (-1))) (aeP (ix a0 v2) λx18=>cond (!eqB x18.bN (WR ((WR ((WR ((WR ((WR ((WR (r11+1))+1))+1))+1))+1))+1))) (dn (ς (-1))) (aeP (ix a0 v2) λx19=>cond (!eqB x19.av (WR ((WR ((WR ((WR ((WR ((WR ((WR (r11+1))+1))+1))+1))+1))+1))+1))) (dn (ς (-1))) (aeP (ix a0 v2) λx20=>cond (!eqB x20.bp (WR ((WR ((WR ((WR ((WR ((WR ((WR ((WR (r11+1))+1))+1))+1))+1))+1))+1))+1))) (dn (ς (-1))) (aeP (ix a0 v2) λx21=>cond (!eqB x21.a8 (WR ((WR ((WR ((WR ((WR ((WR ((WR ((WR ((WR (r11+1))+1))+1))+1))+1))+1))+1))+1))+1))) (dn (ς (-1))) (aeP (ix a0 v2) λx22=>cond (!eqB x22.bC (WR ((WR ((WR ((WR ((WR ((WR ((WR ((WR ((WR ((WR (r11+1))+1))+1))+1))+1))+1))+1))+1))+1))+1))) (dn (ς (-1))) (aeP (ix a0 v2) λx23=>cond (!eqB x23.dy (WR ((WR ((WR ((WR ((WR ((WR ((WR ((WR ((WR ((WR ((WR (r11+1))+1))+1))+1))+1))+1))+1))+1))+1))+1))+1))) (dn (ς (-1))) (aeP (ix a0 v2) λx24=>cond (!eqB x24.fJ.eO (WR ((WR ((WR ((WR ((WR ((WR ((WR ((WR ((WR ((WR ((WR ((WR (r11+1))+1))+1))+1))+1))+1))+1))+1))+1))+1))+1))+1))) (dn (ς (-1))) (aeP (ix a0 v2) λx25=>cond (!eqB x25.fJ.em (WR ((WR ((WR ((WR ((WR ((WR ((WR ((WR ((WR ((WR ((WR ((WR ((WR (r11+1))+1))+1))+1))+1))+1))+1))+1))+1))+1))+1))+1))+1))) (dn (ς (-1))) (aeP (ix a0 v2) λx26=>cond (!eqB x26.fJ.eG (WR ((WR ((WR ((WR ((WR ((WR ((WR ((WR ((WR ((WR ((WR ((WR ((WR ((WR (r11+1))+1))+1))+1))+1))+1))+1))+1))+1))+1))+1))+1))+1))+1))) (dn (ς (-1))) (aeP (ix a0 v2) λx27=>aeP (qs x27.aS (WR ((WR ((WR ((WR ((WR ((WR ((WR ((WR ((WR ((WR ((WR ((WR ((WR ((WR ((WR (r11+1))+1))+1))+1))+1))+1))+1))+1))+1))+1))+1))+1))+1))+1))+1))) λr28=>cond (ltB r28 0) (dn (ς (-1))) (aeP (ix a0 v2) λx29=>cond (!eqB x29.aC.bw r28) (dn (ς (-1))) (aeP (ix a0 v2) λx30=>aeP (iM x30.aC.ar (WR (r28+1))) λr31=>cond (ltB r31 0) (dn (ς (-1))) (aeP (ix a0 v2) λx32=>cond (!eqB x32.du r31) (dn (ς (-1))) (aeP (ix a0 v2) λx33=>cond (!eqB x33.bM.ax (WR (r31+1))) (dn (ς (-1))) (aeP (ix a0 v2) λx34=>cond (!eqB x34.bM.cH (WR ((WR (r31+1))+1))) (dn (ς (-1))) (aeP (ix a0 v2) λx35=>cond (!eqB x35.bM.et (WR ((WR ((WR (r31+1))+1))+1))) (dn (ς (-1))) (ς (.next (WR ((WR ((WR ((WR (r31+1))+1))+1))+1),WR (v2+1)))))))))))))))))))))))))))))))))) (dn (ς v1))
def vK(a0:List ag)(a1:Int):Option Int:=
 iter (mh a0) FU (a1,0)
instance Wm{a0:List ag} :FC prog (vK a0 a1=ς r) 52 [aL (a0.map aM),aI a1] [.c (.d (.i .i64 r))]:=gG func52 ntmps52 (hm 0 1 5)
def iN(a0:List ah):(Int×Int)->Option (bJ (Int×Int) (Int))
 |(v1,v2)=>cond (ltB v2 (a0.length:Int)) (aeP (ix a0 v2) λx3=>cond (!eqB x3.ax v1) (dn (ς (-1))) (aeP (ix a0 v2) λx4=>cond (!eqB x4.dq (WR (v1+1))) (dn (ς (-1))) (ς (.next (WR ((WR (v1+1))+1),WR (v2+1)))))) (dn (ς v1))
def o3(a0:List ah)(a1:Int):Option Int:=
 iter (iN a0) FU (a1,0)
instance P5{a0:List ah} :FC prog (o3 a0 a1=ς r) 105 [aL (a0.map aO),aI a1] [.c (.d (.i .i64 r))]:=gG func105 ntmps105 (hm 0 1 5)
def me(a0:List aj):(Int×Int)->Option (bJ (Int×Int) (Int))
 |(v1,v2)=>cond (ltB v2 (a0.length:Int)) (aeP (ix a0 v2) λx3=>cond (!eqB x3.gu v1) (dn (ς (-1))) (aeP (ix a0 v2) λx4=>cond (!eqB x4.bB (WR (v1+1))) (dn (ς (-1))) (aeP (ix a0 v2) λx5=>cond (!eqB x5.eW (WR ((WR (v1+1))+1))) (dn (ς (-1))) (aeP (ix a0 v2) λx6=>aeP (o3 x6.ak (WR ((WR ((WR (v1+1))+1))+1))) λr7=>cond (ltB r7 0) (dn (ς (-1))) (ς (.next (r7,WR (v2+1)))))))) (dn (ς v1))
def vJ(a0:List aj)(a1:Int):Option Int:=
 iter (me a0) FU (a1,0)
instance Wk{a0:List aj} :FC prog (vJ a0 a1=ς r) 53 [aL (a0.map bj),aI a1] [.c (.d (.i .i64 r))]:=gG func53 ntmps53 (hm 0 1 5)
def nk(a0:List a9):(Int×Int)->Option (bJ (Int×Int) (Int))
 |(v1,v2)=>cond (ltB v2 (a0.length:Int)) (aeP (ix a0 v2) λx3=>cond (!eqB x3.bS v1) (dn (ς (-1))) (aeP (ix a0 v2) λx4=>cond (!(booB x4.pK (eqB (Int.tmod (WR (v1+1)) 3) 0))) (dn (ς (-1))) (aeP (ix a0 v2) λx5=>cond (!(booB x5.jQ (eqB (Int.tmod (WR ((WR (v1+1))+1)) 3) 0))) (dn (ς (-1))) (aeP (ix a0 v2) λx6=>cond (!eqB x6.bC (WR ((WR ((WR (v1+1))+1))+1))) (dn (ς (-1))) (aeP (ix a0 v2) λx7=>cond (!eqB x7.cg.eb (WR ((WR ((WR ((WR (v1+1))+1))+1))+1))) (dn (ς (-1))) (aeP (ix a0 v2) λx8=>cond (!eqB x8.cg.bC (WR ((WR ((WR ((WR ((WR (v1+1))+1))+1))+1))+1))) (dn (ς (-1))) (aeP (ix a0 v2) λx9=>cond (!eqB x9.cg.av (WR ((WR ((WR ((WR ((WR ((WR (v1+1))+1))+1))+1))+1))+1))) (dn (ς (-1))) (aeP (ix a0 v2) λx10=>cond (!eqB x10.cg.a8 (WR ((WR ((WR ((WR ((WR ((WR ((WR (v1+1))+1))+1))+1))+1))+1))+1))) (dn (ς (-1))) (aeP (ix a0 v2) λx11=>cond (!eqB x11.cg.cj (WR ((WR ((WR ((WR ((WR ((WR ((WR ((WR (v1+1))+1))+1))+1))+1))+1))+1))+1))) (dn (ς (-1))) (aeP (ix a0 v2) λx12=>cond (!eqB x12.cg.cW.ei (WR ((WR ((WR ((WR ((WR ((WR ((WR ((WR ((WR (v1+1))+1))+1))+1))+1))+1))+1))+1))+1))) (dn (ς (-1))) (aeP (ix a0 v2) λx13=>cond (!eqB x13.cg.cW.gL (WR ((WR ((WR ((WR ((WR ((WR ((WR ((WR ((WR ((WR (v1+1))+1))+1))+1))+1))+1))+1))+1))+1))+1))) (dn (ς (-1))) (aeP (ix a0 v2) λx14=>cond (!eqB x14.cg.cW.nJ (WR ((WR ((WR ((WR ((WR ((WR ((WR ((WR ((WR ((WR ((WR (v1+1))+1))+1))+1))+1))+1))+1))+1))+1))+1))+1))) (dn (ς (-1))) (aeP (ix a0 v2) λx15=>cond (!eqB x15.cg.cW.D0 (WR ((WR ((WR ((WR ((WR ((WR ((WR ((WR ((WR ((WR ((WR ((WR (v1+1))+1))+1))+1))+1))+1))+1))+1))+1))+1))+1))+1))) (dn (ς (-1))) (aeP (ix a0 v2) λx16=>cond (!eqB x16.cg.cW.f9 (WR ((WR ((WR ((WR ((WR ((WR ((WR ((WR ((WR ((WR ((WR ((WR ((WR (v1+1))+1))+1))+1))+1))+1))+1))+1))+1))+1))+1))+1))+1))) (dn (ς (-1))) (aeP (ix a0 v2) λx17=>cond (!eqB x17.cg.nJ (WR ((WR ((WR ((WR ((WR ((WR ((WR ((WR ((WR ((WR ((WR ((WR ((WR ((WR (v1+1))+1))+1))+1))+1))+1))+1))+1))+1))+1))+1))+1))+1))+1))) (dn (ς (-1))) (aeP (ix a0 v2) λx18=>cond (!eqB x18.cF.av (WR ((WR ((WR ((WR ((WR ((WR ((WR ((WR ((WR ((WR ((WR ((WR ((WR ((WR ((WR (v1+1))+1))+1))+1))+1))+1))+1))+1))+1))+1))+1))+1))+1))+1))+1))) (dn (ς (-1))) (aeP (ix a0 v2) λx19=>cond (!eqB x19.cF.a8 (WR ((WR ((WR ((WR ((WR ((WR ((WR ((WR ((WR ((WR ((WR ((WR ((WR ((WR ((WR ((WR (v1+1))+1))+1))+1))+1))+1))+1))+1))+1))+1))+1))+1))+1))+1))+1))+1))) (dn (ς (-1))) (aeP (ix a0 v2) λx20=>cond (!eqB x20.cF.bH.c7 (WR ((WR ((WR ((WR ((WR ((WR ((WR ((WR ((WR ((WR ((WR ((WR ((WR ((WR ((WR ((WR ((WR (v1+1))+1))+1))+1))+1))+1))+1))+1))+1))+1))+1))+1))+1))+1))+1))+1))+1))) (dn (ς (-1))) (aeP (ix a0 v2) λx21=>cond (!eqB x21.cF.bH.f8 (WR ((WR ((WR ((WR ((WR ((WR ((WR ((WR ((WR ((WR ((WR ((WR ((WR ((WR ((WR ((WR ((WR ((WR (v1+1))+1))+1))+1))+1))+1))+1))+1))+1))+1))+1))+1))+1))+1))+1))+1))+1))+1))) (dn (ς (-1))) (aeP (ix a0 v2) λx22=>aeP (tK x22.cF.bH.be (WR ((WR ((WR ((WR ((WR ((WR ((WR ((WR ((WR ((WR ((WR ((WR ((WR ((WR ((WR ((WR ((WR ((WR ((WR (v1+1))+1))+1))+1))+1))+1))+1))+1))+1))+1))+1))+1))+1))+1))+1))+1))+1))+1))+1))) λr23=>cond (ltB r23 0) (dn (ς (-1))) (aeP (ix a0 v2) λx24=>cond (!eqB x24.cF.bH.nJ r23) (dn (ς (-1))) (ς (.next (WR (r23+1),WR (v2+1))))))))))))))))))))))))) (dn (ς v1))
def xu(a0:List a9)(a1:Int):Option Int:=
 iter (nk a0) FU (a1,0)
instance Yf{a0:List a9} :FC prog (xu a0 a1=ς r) 54 [aL (a0.map bA),aI a1] [.c (.d (.i .i64 r))]:=gG func54 ntmps54 (hm 0 1 5)
def gT(a0:ae)(a1:Int):Option Int:=
 aeP (xr a0.fH a1) λr1=>cond (ltB r1 0) (ς (-1)) (aeP (xt a0.aH r1) λr2=>cond (ltB r2 0) (ς (-1)) (aeP (vK a0.aT r2) λr3=>cond (ltB r3 0) (ς (-1)) (aeP (vJ a0.bu r3) λr4=>cond (ltB r4 0) (ς (-1)) (aeP (xu a0.aJ r4) λr5=>cond (ltB r5 0) (ς (-1)) (ς r5)))))
instance jF{a0:ae} :FC prog (gT a0 a1=ς r) 13 [.agg (eC a0),aI a1] [.c (.d (.i .i64 r))]:=gG func13 ntmps13
end Go.AM
