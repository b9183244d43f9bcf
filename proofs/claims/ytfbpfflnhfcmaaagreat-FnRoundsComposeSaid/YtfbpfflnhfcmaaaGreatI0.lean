/- A part. -/
import Derived.Test.YtfbpfflnhfcmaaaGreatG
set_option linter.unusedVariables false
open Option renaming some->ς,none->ξ
open Bool renaming true->ζ,false->η
open True renaming intro->θ
open Option renaming bind->acE
open List renaming replicate->aaI,range->v0
open Int renaming tmod->acF
namespace Go.AM
open Go.Proofs
open Tryz
attribute [local irreducible] AWN NS AWO AWR AWC DR DZ du gr iter
set_option maxRecDepth 100000
set_option maxHeartbeats 40000000
variable{a0 a1 a2:Int}{r:Bool}
def cd(a0:Int)(a1:Int)(a2:Int):Option Bool:=
 acE (cond (leB a1 a0) (ς (leB a0 a2)) (ς η)) λ(v1:Bool)=>ς v1
instance NT:FC prog (cd a0 a1 a2=ς r) 40 [aI a0,aI a1,aI a2] [.c (.d (.b r))]:=gG func40 ntmps40 (hb 10 6)
def lQ(a0:aZ)(a1:Int):Option Bool:=
 acE (cd a1 0 (WR ((a0.bp.length:Int)-1))) λr1=>ς r1
instance iisCell_c{a0:aZ} :FC prog (lQ a0 a1=ς r) 71 [.agg (fT a0),aI a1] [.c (.d (.b r))]:=gG func71 ntmps71
def lb(a0:List Int):Int->Option (ci (Int) (Bool))
 |v1=>cond (ltB v1 (a0.length:Int)) (acE (ix a0 (WR (v1-1))) λx2=>acE (ix a0 v1) λx3=>cond (leB x3 x2) (dn (ς η)) (ς (.next (WR (v1+1))))) (dn (ς ζ))
def pb(a0:List Int):Option Bool:=
 iter (lb a0) FU 1
instance VD{a0:List Int} :FC prog (pb a0=ς r) 125 [aL (a0.map eI)] [.c (.d (.b r))]:=gG func125 ntmps125 (hl 0 3)
def gN(a0:Int):Option Bool:=
 acE (cd a0 1 2147483646) λr1=>ς r1
instance Yi:FC prog (gN a0=ς r) 215 [aI a0] [.c (.d (.b r))]:=gG func215 ntmps215
def gO(a0:dq):Option Bool:=
 acE (cd a0.d4 0 3) λr1=>acE (cond r1 (acE (cd a0.bZ 0 99) λr3=>ς r3) (ς η)) λ(v2:Bool)=>ς v2
instance JO{a0:dq} :FC prog (gO a0=ς r) 301 [.agg (oL a0)] [.c (.d (.b r))]:=gG func301 ntmps301 (hb 6 2)
def oU(a0:jG):Option Bool:=
 acE (gO a0.ID) λr1=>acE (cond r1 (acE (gN a0.fA) λr3=>cond r3 (acE (cd a0.c8 0 999999) λr4=>ς r4) (ς η)) (ς η)) λ(v2:Bool)=>ς v2
instance Vq{a0:jG} :FC prog (oU a0=ς r) 214 [.agg (FB a0)] [.c (.d (.b r))]:=gG func214 ntmps214 (hb 6 2)
def tC(a0:List bI):Int->Option (ci (Int) (Bool))
 |v1=>cond (ltB v1 (a0.length:Int)) (acE (ix a0 v1) λx2=>cond (ltB 60 (x2.bk.length:Int)) (dn (ς η)) (ς (.next (WR (v1+1))))) (dn (ς ζ))
def uG(a0:List bI):Option Bool:=
 iter (tC a0) FU 0
instance Yq{a0:List bI} :FC prog (uG a0=ς r) 221 [aL (a0.map d8)] [.c (.d (.b r))]:=gG func221 ntmps221 (hl 0 7)
def jK(a0:aM):Int->Option (ci (Int) (Bool))
 |v3=>cond (ltB v3 (a0.aA.length:Int)) (acE (ix a0.aA v3) λx4=>acE (cond (ltB 60 (x4.bk.length:Int)) (ς ζ) (acE (cd x4.cX (WR (a0.bB+1)) (WR ((WR (a0.bB+8))-1))) λr6=>ς (!r6))) λ(v5:Bool)=>cond v5 (dn (ς η)) (acE (cond (ltB 0 v3) (acE (ix a0.aA (WR (v3-1))) λx8=>ς (leB x4.cX x8.cX)) (ς η)) λ(v7:Bool)=>cond v7 (dn (ς η)) (ς (.next (WR (v3+1)))))) (dn (ς ζ))
def jV(a0:aM):Option Bool:=
 acE (cond (!eqB a0.bB (WR ((a0.bi.length:Int)+1))) (ς ζ) (cond (ltB 24 (a0.bi.length:Int)) (ς ζ) (acE (uG a0.bi) λr2=>cond (!r2) (ς ζ) (ς (ltB 8 (a0.aA.length:Int)))))) λ(v1:Bool)=>cond v1 (ς η) (iter (jK a0) FU 0)
instance NU{a0:aM} :FC prog (jV a0=ς r) 216 [.agg (fG a0)] [.c (.d (.b r))]:=gG func216 ntmps216 (hb 12 29) (hl 0 33) (hb 42 54) (hb 57 68)
def jC(a0:cY):Option Bool:=
 acE (cond (leB 0 a0.aO) (cond (leB 0 a0.eH) (cond (leB a0.eH a0.cP) (ς (leB a0.cP 100000)) (ς η)) (ς η)) (ς η)) λ(v1:Bool)=>ς v1
instance TD{a0:cY} :FC prog (jC a0=ς r) 106 [.agg (nE a0)] [.c (.d (.b r))]:=gG func106 ntmps106 (hb 6 2)
def kX(a0:cY):Option Int:=
 acE (jC a0) λr1=>cond (!r1) (ς 0) (ς (WR (a0.cP-a0.eH)))
instance PJ{a0:cY}{r:Int}:FC prog (kX a0=ς r) 56 [.agg (nE a0)] [.c (.d (.i .i64 r))]:=gG func56 ntmps56
def yE(a0:List Int)(a1:List Int):Option Bool:=
 acE (B5 a0 a1) λr1=>ς r1
instance Yg{a0:List Int}{a1:List Int} :FC prog (yE a0 a1=ς r) 176 [aL (a0.map eU8),aL (a1.map eU8)] [.c (.d (.b r))]:=gG func176 ntmps176
def fC(a0:aU):Option Bool:=
 acE (gO a0.ID) λr1=>acE (cond r1 (acE (gN a0.fA) λr3=>cond r3 (acE (cd a0.cX 0 999999) λr4=>ς r4) (ς η)) (ς η)) λ(v2:Bool)=>ς v2
instance FY{a0:aU} :FC prog (fC a0=ς r) 217 [.agg (er a0)] [.c (.d (.b r))]:=gG func217 ntmps217 (hb 6 2)
def g7(a0:bO):Int->Option (ci (Int) (Bool))
 |v5=>cond (ltB v5 (a0.bQ.length:Int)) (acE (ix a0.bQ v5) λx6=>acE (cd x6 0 3) λr7=>cond (!r7) (dn (ς η)) (ς (.next (WR (v5+1))))) (dn (acE (pb a0.bQ) λr8=>ς r8))
def jh(a0:bO):Option Bool:=
 acE (cd a0.jS 1 1000) λr1=>acE (cond (!r1) (ς ζ) (acE (cd a0.jO 1 4) λr3=>cond (!r3) (ς ζ) (acE (cd a0.eB 1 100000) λr4=>ς (!r4)))) λ(v2:Bool)=>cond v2 (ς η) (iter (g7 a0) FU 0)
instance JP{a0:bO} :FC prog (jh a0=ς r) 218 [.agg (iJ a0)] [.c (.d (.b r))]:=gG func218 ntmps218 (hb 9 20) (hl 0 24)
def oT(a0:cV):Option Bool:=
 acE (cd a0.fF 0 2) λr1=>acE (cond r1 (acE (cd a0.eT 0 4) λr3=>cond r3 (acE (cd a0.eU 0 3) λr4=>ς r4) (ς η)) (ς η)) λ(v2:Bool)=>ς v2
instance RT{a0:cV} :FC prog (oT a0=ς r) 219 [.agg (qw a0)] [.c (.d (.b r))]:=gG func219 ntmps219 (hb 6 2)
def lK(a0:aV):Int->Option (ci (Int) (Bool))
 |v3=>cond (ltB v3 (a0.aF.length:Int)) (acE (ix a0.aF v3) λx4=>acE (cond (!eqB x4.cX (WR ((WR (a0.bB-(a0.aF.length:Int)))+v3))) (ς ζ) (ς (ltB 60 (x4.bk.length:Int)))) λ(v5:Bool)=>cond v5 (dn (ς η)) (ς (.next (WR (v3+1))))) (dn (ς ζ))
def mb(a0:aV):Option Bool:=
 acE (cd a0.bB 1 100000) λr1=>acE (cond (!r1) (ς ζ) (ς (ltB 8 (a0.aF.length:Int)))) λ(v2:Bool)=>cond v2 (ς η) (cond (ltB (WR (a0.bB-(a0.aF.length:Int))) 1) (ς η) (iter (lK a0) FU 0))
instance wa{a0:aV} :FC prog (mb a0=ς r) 220 [.agg (fH a0)] [.c (.d (.b r))]:=gG func220 ntmps220 (hb 10 15) (hl 0 27) (hb 38 43)
def ph(a0:List ab):(Int×Int)->Option (ci (Int×Int) (Int))
 |(v1,v2)=>cond (ltB v2 (a0.length:Int)) (acE (ix a0 v2) λx5=>ς (.next (WR (v1+(x5.bk.length:Int)),WR (v2+1)))) (ς (.done v1))
def pf(a0:List ab):Option Int:=
 acE (iter (ph a0) FU (0,0)) λ(v4:Int)=>ς v4
instance Sc{a0:List ab}{r:Int}:FC prog (pf a0=ς r) 302 [aL (a0.map aX)] [.c (.d (.i .i64 r))]:=gG func302 ntmps302 (hm 0 3 8) (he 0 3 8)
def ji(a0:ag):Option Int:=
 acE (pf a0.aK.aF) λr1=>ς r1
instance Ni{a0:ag}{r:Int}:FC prog (ji a0=ς r) 222 [.agg (cp a0)] [.c (.d (.i .i64 r))]:=gG func222 ntmps222
def gv(a0:ag):Int->Option (ci (Int) (Bool))
 |v23=>cond (ltB v23 (a0.aK.aF.length:Int)) (acE (ix a0.aK.aF v23) λx24=>acE (ix a0.aS (WR (x24.cX-1))) λx25=>acE (yE x24.bk x25.bk) λr26=>cond (!r26) (dn (ς η)) (ς (.next (WR (v23+1))))) (dn (acE (ji a0) λr27=>acE (kX a0.bX) λr28=>ς (leB r27 r28)))
def i8(a0:ag):Option Bool:=
 acE (fC a0.bT) λr1=>acE (cond (!r1) (ς ζ) (acE (jh a0.gB) λr3=>cond (!r3) (ς ζ) (acE (oT a0.f6) λr4=>cond (!r4) (ς ζ) (acE (mb a0.aK) λr5=>cond (!r5) (ς ζ) (acE (jC a0.bX) λr6=>ς (!r6)))))) λ(v2:Bool)=>cond v2 (ς η) (acE (cond (!eqB a0.bz 0) (ς (!eqB a0.bz 1)) (ς η)) λ(v7:Bool)=>cond v7 (ς η) (acE (cond (eqB a0.bz 1) (acE (gN a0.bg) λr9=>cond (!r9) (ς ζ) (cond (ltB 0 a0.bG) (acE (gN a0.aA.fA) λr10=>ς (!r10)) (ς η))) (cond (ltB 0 a0.bG) (acE (gN a0.aA.fA) λr11=>ς (!r11)) (ς η))) λ(v8:Bool)=>cond v8 (ς η) (acE (cd a0.bG 0 999999) λr12=>acE (cond (!r12) (ς ζ) (acE (cd a0.ah 0 999999) λr14=>cond (!r14) (ς ζ) (acE (cd a0.aY 0 999999) λr15=>cond (!r15) (ς ζ) (acE (cd a0.bg 0 2147483646) λr16=>ς (!r16))))) λ(v13:Bool)=>cond v13 (ς η) (acE (cd a0.bh 0 5) λr17=>acE (cond (!r17) (ς ζ) (acE (cd a0.dQ 0 5) λr19=>cond (!r19) (ς ζ) (acE (cd a0.dL 0 3) λr20=>ς (!r20)))) λ(v18:Bool)=>cond v18 (ς η) (acE (cond (ltB 24 (a0.aS.length:Int)) (ς ζ) (acE (uG a0.aS) λr22=>cond (!r22) (ς ζ) (ς (ltB (WR ((a0.aS.length:Int)+1)) a0.aK.bB)))) λ(v21:Bool)=>cond v21 (ς η) (iter (gv a0) FU 0))))))
instance uz{a0:ag} :FC prog (i8 a0=ς r) 128 [.agg (cp a0)] [.c (.d (.b r))]:=gG func128 ntmps128 (hb 9 32) (hb 36 40) (hb 44 61) (hb 66 83) (hb 88 99) (hb 104 119) (hl 0 124)
def o7(a0:aj):(Int×Int)->Option (ci (Int×Int) (Int))
 |(v1,v2)=>cond (ltB v2 (a0.an.length:Int)) (acE (ix a0.an v2) λx5=>ς (.next (WR (v1+x5.ea),WR (v2+1)))) (ς (.done v1))
def o6(a0:aj):Option Int:=
 acE (iter (o7 a0) FU (0,0)) λ(v4:Int)=>ς v4
instance R7{a0:aj}{r:Int}:FC prog (o6 a0=ς r) 223 [.agg (dh a0)] [.c (.d (.i .i64 r))]:=gG func223 ntmps223 (hm 0 3 9) (he 0 3 9)
def kC(a0:aj):Int->Option (ci (Int) (Bool))
 |v5=>cond (ltB v5 (a0.an.length:Int)) (acE (ix a0.an v5) λx6=>acE (cond (ltB x6.aO 0) (ς ζ) (acE (cd x6.ea 1 100000) λr8=>ς (!r8))) λ(v7:Bool)=>cond v7 (dn (ς η)) (acE (cond (ltB 0 v5) (acE (ix a0.an (WR (v5-1))) λx10=>ς (leB x6.aO x10.aO)) (ς η)) λ(v9:Bool)=>cond v9 (dn (ς η)) (ς (.next (WR (v5+1)))))) (dn (acE (o6 a0) λr11=>ς (eqB (WR ((WR (a0.bK+a0.eR))+r11)) a0.gm)))
def ik(a0:aj):Option Bool:=
 acE (cd a0.gm 0 100000) λr1=>acE (cond (!r1) (ς ζ) (acE (cd a0.bK 0 a0.gm) λr3=>cond (!r3) (ς ζ) (acE (cd a0.eR 0 a0.gm) λr4=>ς (!r4)))) λ(v2:Bool)=>cond v2 (ς η) (cond (ltB 8 (a0.an.length:Int)) (ς η) (iter (kC a0) FU 0))
instance PC{a0:aj} :FC prog (ik a0=ς r) 129 [.agg (dh a0)] [.c (.d (.b r))]:=gG func129 ntmps129 (hb 9 24) (hl 0 32) (hb 40 45) (hb 48 59)
def jk(a0:aj)(a1:Int):Int->Option (ci (Int) (Int))
 |v1=>cond (ltB v1 (a0.an.length:Int)) (acE (ix a0.an v1) λx2=>cond (eqB x2.aO a1) (dn (ς v1)) (ς (.next (WR (v1+1))))) (dn (ς (-1)))
def gh(a0:aj)(a1:Int):Option Int:=
 iter (jk a0 a1) FU 0
instance Nm{a0:aj}{r:Int}:FC prog (gh a0 a1=ς r) 303 [.agg (dh a0),aI a1] [.c (.d (.i .i64 r))]:=gG func303 ntmps303 (hl 0 10)
def o4(a0:aj)(a1:Int):Option Int:=
 acE (gh a0 a1) λr1=>cond (ltB r1 0) (ς 0) (acE (ix a0.an r1) λx2=>ς x2.ea)
instance Vs{a0:aj}{r:Int}:FC prog (o4 a0 a1=ς r) 224 [.agg (dh a0),aI a1] [.c (.d (.i .i64 r))]:=gG func224 ntmps224
def fX(a0:aj)(a1:cY):Option Bool:=
 acE (ik a0) λr1=>acE (cond r1 (acE (jC a1) λr3=>cond r3 (acE (o4 a0 a1.aO) λr4=>ς (eqB r4 a1.cP)) (ς η)) (ς η)) λ(v2:Bool)=>ς v2
instance JQ{a0:aj}{a1:cY} :FC prog (fX a0 a1=ς r) 130 [.agg (dh a0),.agg (nE a1)] [.c (.d (.b r))]:=gG func130 ntmps130 (hb 7 4)
def s6(a0:List Int):Option (List Int):=
 cond (qj 8 (a0.length:Int) (a0.length:Int)) (ς (cpL (aaI ((a0.length:Int)).toNat (0:Int)) a0)) ξ
instance aa0{a0:List Int}{r:List Int}:FC prog (s6 a0=ς r) 160 [aL (a0.map eI)] [.c (.own 3 1 (r.map eI) r.length)]:=gG func160 ntmps160
def eY(a0:List Int):Option (List Int):=
 cond (qj 1 (a0.length:Int) (a0.length:Int)) (ς (cpL (aaI ((a0.length:Int)).toNat (0:Int)) a0)) ξ
instance sE{a0:List Int}{r:List Int}:FC prog (eY a0=ς r) 263 [aL (a0.map eU8)] [.c (.own 5 1 (r.map eU8) r.length)]:=gG func263 ntmps263
def qc(a0:List bI):(Int×List bI)->Option (ci (Int×List bI) (List bI))
 |(v1,v2)=>cond (ltB v1 (a0.length:Int)) (acE (ix a0 v1) λx7=>acE (eY x7.bk) λr8=>acE (ix v2 v1) λx9=>ς (.next (WR (v1+1),(v2.set (v1).toNat (⟨r8⟩:bI))))) (ς (.done v2))
def m9(a0:List bI):Option (List bI):=
 cond (qj 24 (a0.length:Int) (a0.length:Int)) (acE (iter (qc a0) FU (0,(aaI ((a0.length:Int)).toNat (⟨[]⟩:bI)))) λ(v6:List bI)=>ς v6) ξ
instance TQ{a0:List bI}{r:List bI}:FC prog (m9 a0=ς r) 163 [aL (a0.map d8)] [.c (.own 151 1 (r.map d8) r.length)]:=gG func163 ntmps163 (hL 0 (λ(v:Int×List bI) sl ob nx=>⟨(3,.v (.c (.w 0 v.2.length)))::(11,tI v.1)::xS [0] sl,[(0,M9 v.2)]++ob,nx⟩)) (hB 0 (λ(v:List bI) sl ob nx=>⟨(3,.v (.c (.w 0 v.length)))::(11,.any)::xS [0] sl,[(0,M9 v)]++ob,nx⟩))
def qa(a0:List ab):(Int×List ab)->Option (ci (Int×List ab) (List ab))
 |(v1,v2)=>cond (ltB v1 (a0.length:Int)) (acE (ix a0 v1) λx7=>acE (eY x7.bk) λr8=>acE (ix v2 v1) λx9=>ς (.next (WR (v1+1),(v2.set (v1).toNat (⟨x7.cX,r8⟩:ab))))) (ς (.done v2))
def ly(a0:List ab):Option (List ab):=
 cond (qj 32 (a0.length:Int) (a0.length:Int)) (acE (iter (qa a0) FU (0,(aaI ((a0.length:Int)).toNat bY))) λ(v6:List ab)=>ς v6) ξ
instance TP{a0:List ab}{r:List ab}:FC prog (ly a0=ς r) 262 [aL (a0.map aX)] [.c (.own 100 2 (r.map aX) r.length)]:=gG func262 ntmps262 (hL 0 (λ(v:Int×List ab) sl ob nx=>⟨(3,.v (.c (.w 0 v.2.length)))::(11,tI v.1)::xS [0] sl,[(0,C0 v.2)]++ob,nx⟩)) (hB 0 (λ(v:List ab) sl ob nx=>⟨(3,.v (.c (.w 0 v.length)))::(11,.any)::xS [0] sl,[(0,C0 v)]++ob,nx⟩)) (hz 5)
def nf(a0:aM):Option aM:=
 acE (ly a0.aA) λr1=>acE (m9 a0.bi) λr2=>ς (⟨a0.bB,r1,r2⟩:aM)
instance TR{a0:aM}{r:aM}:FC prog (nf a0=ς r) 161 [.agg (fG a0)] [.agg (qM [.o,.o] (bV r))]:=gG func161 ntmps161 (hz 1)
def mf(a0:aC):Option aC:=
 acE (nf a0.bW) λr1=>ς {a0 with bW:=r1}
instance Yp{a0:aC}{r:aC}:FC prog (mf a0=ς r) 85 [.agg (dF a0)] [.agg (qM [.o,.o] (eW r))]:=gG func85 ntmps85
def lP(a0:bO):Option bO:=
 acE (s6 a0.bQ) λr1=>ς {a0 with bQ:=r1}
instance Nl{a0:bO}{r:bO}:FC prog (lP a0=ς r) 162 [.agg (iJ a0)] [.agg (qM [.o] (oO r))]:=gG func162 ntmps162
def mg(a0:aV):Option aV:=
 acE (ly a0.aF) λr1=>ς (⟨a0.bB,r1⟩:aV)
instance qD{a0:aV}{r:aV}:FC prog (mg a0=ς r) 164 [.agg (fH a0)] [.agg (qM [.o] (dw r))]:=gG func164 ntmps164 (hz 1)
def gJ(a0:ag):Option ag:=
 acE (lP a0.gB) λr1=>acE (m9 a0.aS) λr2=>acE (mg a0.aK) λr3=>ς {a0 with gB:=r1,aS:=r2,aK:=r3}
instance yM{a0:ag}{r:ag}:FC prog (gJ a0=ς r) 87 [.agg (cp a0)] [.agg (qM [.o,.o,.o] (cU r))]:=gG func87 ntmps87
def f4(a0:List aH):Option (List aH):=
 cond (qj 16 (a0.length:Int) (a0.length:Int)) (ς (cpL (aaI ((a0.length:Int)).toNat dV) a0)) ξ
instance DT{a0:List aH}{r:List aH}:FC prog (f4 a0=ς r) 165 [aL (a0.map cf)] [.c (.own 165 2 (r.map cf) r.length)]:=gG func165 ntmps165
def fk(a0:aj):Option aj:=
 acE (f4 a0.an) λr1=>ς {a0 with an:=r1}
instance yI{a0:aj}{r:aj}:FC prog (fk a0=ς r) 89 [.agg (dh a0)] [.agg (qM [.o] (cO r))]:=gG func89 ntmps89
def sH(a0:bw):Option bw:=
 acE (eY a0.bk) λr1=>ς {a0 with bk:=r1}
instance Vy{a0:bw}{r:bw}:FC prog (sH a0=ς r) 264 [.agg (eg a0)] [.agg (qM [.o] (p7 r))]:=gG func264 ntmps264
def xh(a0:aD):Option aD:=
 acE (sH a0.bL) λr1=>ς {a0 with bL:=r1}
instance Zr{a0:aD}{r:aD}:FC prog (xh a0=ς r) 166 [.agg (dr a0)] [.agg (qM [.o] (jy r))]:=gG func166 ntmps166
def qU(a0:bA):Option bA:=
 acE (xh a0.ct) λr1=>ς {a0 with ct:=r1}
instance HI{a0:bA}{r:bA}:FC prog (qU a0=ς r) 91 [.agg (eP a0)] [.agg (qM [.o] (oN r))]:=gG func91 ntmps91
def uI(a0:ae)(a1:bA):Option ae:=
 cond (leB 200 (a0.aT.length:Int)) (ς {a0 with Lost:=WR (a0.Lost+1)}) (acE (qU a1) λr1=>cond (cW 176 (a0.aT++[r1]).length) (ς {a0 with aT:=(a0.aT++[r1])}) ξ)
instance isend_c{a0:ae}{a1:bA}{r:ae}:FCV prog (uI a0 a1=ς r) 123 (nI a0) [tP 200,.v (.agg (kM [.t] (oN a1)))] (nI r) (.tup []) []:=⟨λH=>by
 refine fV func123 ntmps123 ?_
 refine cC H ?_ ?_<;>intro H
 .cases H
  exact dy
 refine Pa 0 17 0 [1,2,3,4,5,6,7,8,9,10,11] Try.follows (by kernel_rfl) (by kernel_rfl) rfl (by kernel_rfl) rfl rfl ?_
 refine wI ?_
 refine aa H λr1 q1 H=>zA (ca (hF:=(HI.h q1).frzs (by repeat (first|exact θ|refine⟨?_,?_⟩|exact lm _|rfl)))) ?_
 obtain⟨h,H⟩:=rq H
 refine zB cA (kz rfl (apT (enc:=eP) (ys:=a0.aT) (zs:=[r1]) h)) cA ?_
 refine wA (spx 100496) ?_
 cases H
 exact B3⟩
def nL(a1:Int)(a2:a9):(Int×ae)->Option (ci (Int×ae) (ae))
 |(v2,v13)=>cond (ltB v2 (a2.c9.length:Int)) (acE (ix a2.c9 v2) λx27=>acE (uI v13 (⟨a1,ζ,η,x27.bh,x27,fg⟩:bA)) λr28=>ς (.next (WR (v2+1),r28))) (ς (.done v13))
def gK(a0:ae)(a1:Int)(a2:a9):Option ae:=
 acE (ix a0.ax a1) λx1=>acE (iter (nL a1 a2) FU (0,{a0 with ax:=(a0.ax.set (a1).toNat a2.bj)})) λ(v26:ae)=>ς v26
instance VN{a0:ae}{a2:a9}{r:ae}:FCV prog (gK a0 a1 a2=ς r) 119 (nI a0) [tP 200,tI a1,.v (.agg (kM [.t,.t,.t] (dx a2)))] (nI r) (.tup []) []:=gV func119 ntmps119 (hL 0 (λ(v:Int×ae) sl ob nx=>⟨(19,tI v.1)::xS [193,192,191,190] sl,nI v.2++ob,nx⟩)) (hB 0 (λ(v:ae) sl ob nx=>⟨(19,.any)::xS [193,192,191,190] sl,nI v++ob,nx⟩)) (hz 1)
def ge(a0:List aG):Option (List aG):=
 cond (qj 88 (a0.length:Int) (a0.length:Int)) (ς (cpL (aaI ((a0.length:Int)).toNat fc) a0)) ξ
instance HK{a0:List aG}{r:List aG}:FC prog (ge a0=ς r) 282 [aL (a0.map dM)] [.c (.own 42 11 (r.map dM) r.length)]:=gG func282 ntmps282
def cZ(a0:aC)(a1:List aG):Option a9:=
 acE (mf a0) λr1=>acE (ge a1) λr2=>ς (⟨r1,r2⟩:a9)
instance rI{a0:aC}{a1:List aG}{r:a9}:FC prog (cZ a0 a1=ς r) 203 [.agg (dF a0),aL (a1.map dM)] [.agg (qM [.o,.o,.o] (dx r))]:=gG func203 ntmps203
def RY(a0:Int)(a1:Int):Option Int:=
 acE (cd a1 1 1000000000000) λr1=>cond (!r1) (ς 0) (cond (!eqB a1 0) (acE (cond (ltB (acF a0 a1) 0) (ς (WR ((acF a0 a1)+a1))) (ς (acF a0 a1))) λ(v2:Int)=>ς v2) ξ)
instance iMod_c{r:Int}:FC prog (RY a0 a1=ς r) 363 [aI a0,aI a1] [.c (.d (.i .i64 r))]:=gG func363 ntmps363 (hi 13 5)
def om(a0:Int)(a1:Int):Option Int:=
 acE (RY a1 2147483647) λr1=>ς (acF (WR ((WR ((WR (a0*1000003))+r1))+13)) 2147483647)
instance aa1{r:Int}:FC prog (om a0 a1=ς r) 325 [aI a0,aI a1] [.c (.d (.i .i64 r))]:=gG func325 ntmps325
def mW(a1:List Int):(Int×Int)->Option (ci (Int×Int) (Int))
 |(v2,v3)=>cond (ltB v3 (a1.length:Int)) (acE (ix a1 v3) λx7=>acE (om v2 x7) λr8=>ς (.next (r8,WR (v3+1)))) (ς (.done v2))
def eX(a0:Int)(a1:List Int):Option Int:=
 acE (om 11 a0) λr1=>acE (iter (mW a1) FU (r1,0)) λ(v6:Int)=>acE (om v6 a0) λr9=>ς r9
instance Zn{a1:List Int}{r:Int}:FC prog (eX a0 a1=ς r) 270 [aI a0,aL (a1.map eI)] [.c (.d (.i .i64 r))]:=gG func270 ntmps270 (hm 0 5 12) (he 0 5 12)
def p8(a0:Int)(a1:Int):Option Int:=
 acE (eX a0 [9,a1]) λr1=>cond (eqB r1 0) (ς 1) (ς r1)
instance Zl{r:Int}:FC prog (p8 a0 a1=ς r) 183 [aI a0,aI a1] [.c (.d (.i .i64 r))]:=gG func183 ntmps183
def kZ(a1:List Int):(Int×Int)->Option (ci (Int×Int) (Int))
 |(v1,v2)=>cond (ltB v2 (a1.length:Int)) (acE (ix a1 v2) λx6=>acE (p8 v1 x6) λr7=>ς (.next (r7,WR (v2+1)))) (ς (.done v1))
def xi(a0:Int)(a1:List Int):Option Int:=
 acE (iter (kZ a1) FU (a0,0)) λ(v5:Int)=>ς v5
instance Vz{a1:List Int}{r:Int}:FC prog (xi a0 a1=ς r) 271 [aI a0,aL (a1.map eI)] [.c (.d (.i .i64 r))]:=gG func271 ntmps271 (hm 0 0 9) (he 0 0 9)
def qR(a0:Int)(a1:fB):Option Int:=
 acE (xi a0 a1.Steps) λr1=>ς r1
instance Yk{a1:fB}{r:Int}:FC prog (qR a0 a1=ς r) 184 [aI a0,.agg (Im a1)] [.c (.d (.i .i64 r))]:=gG func184 ntmps184
def o5:Option fB:=
 ς (⟨[1,2]⟩:fB)
instance Nk{r:fB}:FC prog (o5=ς r) 372 [] [.agg [.own 3 1 (r.Steps.map eI) r.Steps.length]]:=gG func372 ntmps372
def tA(a0:Int)(a1:aG):Option Int:=
 acE (o5) λr1=>acE (qR a0 r1) λr2=>acE (eX r2 [23,a1.bu,a1.bh,a1.ah,a1.aY,a1.bZ]) λr3=>ς r3
instance Zp{a1:aG}{r:Int}:FC prog (tA a0 a1=ς r) 337 [aI a0,.agg (dM a1)] [.c (.d (.i .i64 r))]:=gG func337 ntmps337
def ol(a0:Int)(a1:aG):Option aG:=
 acE (tA a0 a1) λr1=>ς {a1 with i7:=r1}
instance HG{a1:aG}{r:aG}:FC prog (ol a0 a1=ς r) 283 [aI a0,.agg (dM a1)] [.agg (qM [] (gL r))]:=gG func283 ntmps283
def qV(a0:aC):Option aG:=
 acE (ol a0.bg (⟨5,a0.bh,a0.ah,a0.aY,0,cH,0⟩:aG)) λr1=>ς r1
instance Yr{a0:aC}{r:aG}:FC prog (qV a0=ς r) 205 [.agg (dF a0)] [.agg (qM [] (gL r))]:=gG func205 ntmps205
def RX(a0:Int)(a1:Int):Option Int:=
 cond (ltB a1 a0) (ς a1) (ς a0)
instance iMin_c{r:Int}:FC prog (RX a0 a1=ς r) 177 [aI a0,aI a1] [.c (.d (.i .i64 r))]:=gG func177 ntmps177
def mI(a0:aj)(a1:Int):Option aj:=
 cond (em a0.an 0 a1) (cond (cW 16 (([]:List aH)++(a0.an.take (a1).toNat)).length) (cond (em a0.an (WR (a1+1)) a0.an.length) (cond (cW 16 ((([]:List aH)++(a0.an.take (a1).toNat))++(a0.an.drop (WR (a1+1)).toNat)).length) (ς {a0 with an:=((([]:List aH)++(a0.an.take (a1).toNat))++(a0.an.drop (WR (a1+1)).toNat))}) ξ) ξ) ξ) ξ
instance N1{a0:aj}{r:aj}:FC prog (mI a0 a1=ς r) 338 [.agg (dh a0),aI a1] [.agg (qM [.o] (cO r))]:=gG func338 ntmps338
def JN(a0:aj)(a1:Int)(a2:Int):Option (aj×Bool):=
 acE (fk a0) λr1=>acE (ik a0) λr2=>acE (cond (!r2) (ς ζ) (acE (o4 a0 a1) λr4=>acE (cd a2 0 r4) λr5=>ς (!r5))) λ(v3:Bool)=>cond v3 (ς (r1,η)) (acE (gh r1 a1) λr6=>cond (ltB r6 0) (ς (r1,ζ)) (acE (ix r1.an r6) λx7=>acE (ix r1.an r6) λx8=>acE (ix (r1.an.set (r6).toNat (⟨x8.aO,WR (x7.ea-a2)⟩:aH)) r6) λx9=>acE (cond (eqB x9.ea 0) (acE (mI {r1 with eR:=WR (r1.eR+a2),an:=(r1.an.set (r6).toNat (⟨x8.aO,WR (x7.ea-a2)⟩:aH))} r6) λr15=>ς r15) (ς {r1 with eR:=WR (r1.eR+a2),an:=(r1.an.set (r6).toNat (⟨x8.aO,WR (x7.ea-a2)⟩:aH))})) λ(v14:aj)=>ς (v14,ζ)))
instance iDebit_c{a0:aj}{r:aj×Bool}:FC prog (JN a0 a1 a2=ς r) 284 [.agg (dh a0),aI a1,aI a2] [.agg (qM [.o] (cO r.1)),.c (.d (.b r.2))]:=gG func284 ntmps284 (hb 15 22) (hC 51 (λ(v:aj) sl ob nx=>⟨xS [4,2] sl,oM [.w 4] 3 107 (cO v)++fO [2] ob,5⟩))
def o3(a0:aj)(a1:cY):Option (aj×cY):=
 acE (fX a0 a1) λr1=>cond (!r1) (acE (fk a0) λr2=>ς (r2,a1)) (acE (JN a0 a1.aO a1.eH) λr3=>cond (!r3.2) (acE (fk a0) λr4=>ς (r4,a1)) (ς (r3.1,(⟨a1.aO,WR (a1.cP-a1.eH),0⟩:cY))))
instance F2{a0:aj}{a1:cY}{r:aj×cY}:FC prog (o3 a0 a1=ς r) 206 [.agg (dh a0),.agg (nE a1)] [.agg (qM [.o] (cO r.1)),.agg (qM [] (z2 r.2))]:=gG func206 ntmps206 (hz 2) (hz 5) (hz 8)
def EA(a0:aZ)(a1:Int):Option Int:=
 acE (lQ a0 a1) λr1=>cond (!r1) (ς (-1)) (acE (ix a0.bp a1) λx2=>ς x2.fF)
instance iAreaOf_c{a0:aZ}{r:Int}:FC prog (EA a0 a1=ς r) 285 [.agg (fT a0),aI a1] [.c (.d (.i .i64 r))]:=gG func285 ntmps285
def Ed(a0:aZ)(a1:Int):(Int×List Int)->Option (ci (Int×List Int) (List Int))
 |(v1,v2)=>cond (ltB v1 (a0.bp.length:Int)) (acE (ix a0.bp v1) λx6=>acE (cond (eqB x6.fF a1) (cond (cW 8 (v2++[v1]).length) (ς (v2++[v1])) ξ) (ς v2)) λ(v7:List Int)=>ς (.next (WR (v1+1),v7))) (ς (.done v2))
def xa(a0:aZ)(a1:Int):Option (List Int):=
 acE (iter (Ed a0 a1) FU (0,([]:List Int))) λ(v5:List Int)=>ς v5
instance FW{a0:aZ}{r:List Int}:FC prog (xa a0 a1=ς r) 373 [.agg (fT a0),aI a1] [.c (.own 3 1 (r.map eI) r.length)]:=gG func373 ntmps373 (hL 0 (λ(v:Int×List Int) sl ob nx=>⟨(5,.v (.c (.w 1 v.2.length)))::(12,tI v.1)::xS [1] sl,[(1,w3 v.2)]++ob,nx⟩)) (hB 0 (λ(v:List Int) sl ob nx=>⟨(5,.v (.c (.w 1 v.length)))::(12,.any)::xS [1] sl,[(1,w3 v)]++ob,nx⟩)) (hC 20 (λ(v:List Int) sl ob nx=>⟨(5,.v (.c (.w 1 v.length)))::xS [1] sl,[(1,w3 v)]++ob,nx⟩))
def rG(a0:aZ):(Int×List Int)->Option (ci (Int×List Int) (List Int))
 |(v3,v4)=>cond (ltB v3 (((aaI ((a0.bp.length:Int)).toNat (0:Int)).length:Nat):Int)) (acE (ix v4 v3) λx7=>ς (.next (WR (v3+1),(v4.set (v3).toNat v3)))) (ς (.done v4))
def rH(a0:aZ):(Int×List Int)->Option (ci (Int×List Int) (List Int))
 |(v8,v9)=>cond (ltB v8 (((aaI ((a0.bp.length:Int)).toNat (0:Int)).length:Nat):Int)) (acE (ix v9 v8) λx12=>ς (.next (WR (v8+1),(v9.set (v8).toNat v8)))) (ς (.done v9))
def sr(a0:aZ)(a1:Int)(a2:Int):Option (List Int):=
 acE (cd a2 1 4) λr1=>cond (!r1) (ς ([]:List Int)) (cond (eqB a2 1) (acE (xa a0 a1) λr2=>cond (ltB 0 (r2.length:Int)) (ς r2) (cond (qj 8 (a0.bp.length:Int) (a0.bp.length:Int)) (acE (iter (rG a0) FU (0,(aaI ((a0.bp.length:Int)).toNat (0:Int)))) λ(v6:List Int)=>ς v6) ξ)) (cond (qj 8 (a0.bp.length:Int) (a0.bp.length:Int)) (acE (iter (rH a0) FU (0,(aaI ((a0.bp.length:Int)).toNat (0:Int)))) λ(v11:List Int)=>ς v11) ξ))
instance Vr{a0:aZ}{r:List Int}:FC prog (sr a0 a1 a2=ς r) 339 [.agg (fT a0),aI a1,aI a2] [.c (.own 3 1 (r.map eI) r.length)]:=⟨λH=>by
 refine fI func339 ntmps339 ?_
 refine aa H λr1 q1 H=>nA (ca (hF:=NT.h q1)) ?_
 refine cC H ?_ ?_<;>intro H
 .exact ao H
 refine cC H ?_ ?_<;>intro H
 .refine aa H λr2 q2 H=>nA (ca (hF:=FW.h q2)) ?_
  refine cC H ?_ ?_<;>intro H
  .exact ao H
  obtain⟨h,H⟩:=rq H
  refine nA (mkT (enc:=eI) (za:=0) h (by rfl)) ?_
  refine aa H λv6 Hj H=>jB ⟨[(8,.v (.c (.w 2 v6.length)))],[(2,w3 v6)],3⟩ ?_ ?_
  .refine iT Hj (λq=>⟨[(8,.v (.c (.w 2 q.2.length))),(28,tI (((aaI ((a0.bp.length:Int)).toNat (0:Int)).length:Nat):Int)),(29,tI q.1)],[(2,w3 q.2)],3⟩) ?_
   rintro⟨v3,v4⟩ o H
   refine ad ?_
   refine cC H ?_ ?_<;>intro H
   .refine aa H λx7 hx7 H=>nA (xwT hx7) ?_
    refine sA (soT (enc:=eI) (a':=v3) hx7) ?_
    exact aN H
   exact aE H
  exact ao H
 obtain⟨h,H⟩:=rq H
 refine nA (mkT (enc:=eI) (za:=0) h (by rfl)) ?_
 refine aa H λv11 Hj H=>jB ⟨[(8,.v (.c (.w 1 v11.length)))],[(1,w3 v11)],2⟩ ?_ ?_
 .refine iT Hj (λq=>⟨[(8,.v (.c (.w 1 q.2.length))),(28,tI (((aaI ((a0.bp.length:Int)).toNat (0:Int)).length:Nat):Int)),(29,tI q.1)],[(1,w3 q.2)],2⟩) ?_
  rintro⟨v8,v9⟩ o H
  refine ad ?_
  refine cC H ?_ ?_<;>intro H
  .refine aa H λx12 hx12 H=>nA (xwT hx12) ?_
   refine sA (soT (enc:=eI) (a':=v8) hx12) ?_
   exact aN H
  exact aE H
 cases H
 exact jJ⟩
def uF(a0:cV)(a1:aZ):Option (cV×List Int):=
 cond (ltB 0 a0.eU) (ς ({a0 with eU:=WR (a0.eU-1)},([]:List Int))) (acE (cond (ltB a0.eT 4) (ς (WR (a0.eT+1))) (ς 1)) λ(v1:Int)=>acE (sr a1 a0.fF v1) λr2=>ς ((⟨a0.fF,v1,3⟩:cV),r2))
instance Yn{a0:cV}{a1:aZ}{r:cV×List Int}:FC prog (uF a0 a1=ς r) 286 [.agg (qw a0),.agg (fT a1)] [.agg (qM [] (mV r.1)),.c (.own 3 1 (r.2.map eI) r.2.length)]:=gG func286 ntmps286 (hC 17 (λ(v:Int) sl ob nx=>⟨sl,[(0,.var 87 (kM [] (mV {a0 with eT:=v})))]++ob,nx⟩)) (hz 8)
def yS(r4:cV×List Int):(Int×List aG)->Option (ci (Int×List aG) (List aG))
 |(v5,v6)=>cond (ltB v5 (r4.2.length:Int)) (acE (ix r4.2 v5) λx9=>cond (cW 88 (v6++[{fc with bu:=7,bh:=x9}]).length) (ς (.next (WR (v5+1),(v6++[{fc with bu:=7,bh:=x9}])))) ξ) (ς (.done v6))
def uH(a0:ag)(a1:aj)(a2:aZ):Option bR:=
 acE (lQ a2 a0.bh) λr1=>acE (cond r1 (acE (EA a2 a0.bh) λr3=>ς r3) (ς 0)) λ(v2:Int)=>acE (uF {a0.f6 with fF:=v2} a2) λr4=>acE (iter (yS r4) FU (0,([]:List aG))) λ(v8:List aG)=>ς (⟨{a0 with f6:=r4.1},a1,v8,[]⟩:bR)
instance HN{a0:ag}{a1:aj}{a2:aZ}{r:bR}:FCV prog (uH a0 a1 a2=ς r) 207 [] [.v (.agg (kM [.t,.t,.t] (cU a0))),.v (.agg (kM [.t] (cO a1))),.v (.agg [.d η (.l (a2.bp.map eL))])] [] (.v (.agg (kM [.t,.t,.t,.t,.n 210,.z] (b9 {r with ct:=[]})))) [(210,n42 r.lW)]:=gV func207 ntmps207 (hC 17 (λ(v:Int) sl ob nx=>⟨sl,[(210,.var 93 (kM [.t,.t,.t] (cU {a0 with f6:={a0.f6 with fF:=v}})))]++ob,nx⟩)) (hL 0 (λ(v:Int×List aG) sl ob nx=>⟨(38,tI v.1)::xS [217] sl,[(217,n42 v.2)]++(uC 216 34 [.wn 217 v.2.length] ob),218⟩)) (hB 0 (λ(v:List aG) sl ob nx=>⟨(38,.any)::xS [217] sl,[(217,n42 v)]++(uC 216 34 [.wn 217 v.length] ob),218⟩))
def vB(a0:Int):Option fB:=
 ς (⟨[1,3,a0]⟩:fB)
instance TE{r:fB}:FC prog (vB a0=ς r) 100 [aI a0] [.agg [.own 3 1 (r.Steps.map eI) r.Steps.length]]:=gG func100 ntmps100
def s5(a0:Int)(a1:Int):Option Int:=
 acE (vB a1) λr1=>acE (qR a0 r1) λr2=>ς r2
instance DQ{r:Int}:FC prog (s5 a0 a1=ς r) 103 [aI a0,aI a1] [.c (.d (.i .i64 r))]:=gG func103 ntmps103
def kV(a0:List Int):(Int×List Int)->Option (ci (Int×List Int) (List Int))
 |(v1,v2)=>cond (ltB v1 (a0.length:Int)) (acE (ix a0 v1) λx5=>cond (cW 8 (v2++[WR (x5)]).length) (ς (.next (WR (v1+1),(v2++[WR (x5)])))) ξ) (ς (.done v2))
def sj(a0:List Int):Option (List Int):=
 cond (qj 8 0 (WR ((a0.length:Int)+1))) (cond (cW 8 ((aaI ((0:Int)).toNat (0:Int))++[(a0.length:Int)]).length) (acE (iter (kV a0) FU (0,((aaI ((0:Int)).toNat (0:Int))++[(a0.length:Int)]))) λ(v4:List Int)=>ς v4) ξ) ξ
instance Vn{a0:List Int}{r:List Int}:FC prog (sj a0=ς r) 324 [aL (a0.map eU8)] [.c (.own 3 1 (r.map eI) r.length)]:=gG func324 ntmps324 (hL 0 (λ(v:Int×List Int) sl ob nx=>⟨(3,.v (.c (.w 0 v.2.length)))::(17,tI v.1)::xS [0] sl,[(0,w3 v.2)]++ob,nx⟩)) (hB 0 (λ(v:List Int) sl ob nx=>⟨(3,.v (.c (.w 0 v.length)))::(17,.any)::xS [0] sl,[(0,w3 v)]++ob,nx⟩))
def oo(a0:Int)(a1:Int)(a2:Int)(a3:List Int):Option Int:=
 acE (sj a3) λr1=>cond (cW 8 ([a1,a2]++r1).length) (acE (eX a0 ([a1,a2]++r1)) λr2=>ς r2) ξ
instance Ys{a3:List Int}{r:Int}:FC prog (oo a0 a1 a2 a3=ς r) 269 [aI a0,aI a1,aI a2,aL (a3.map eU8)] [.c (.d (.i .i64 r))]:=gG func269 ntmps269
def yD(a0:Int)(r1:List Int):(Int×List Int)->Option (ci (Int×List Int) (List Int))
 |(v2,v3)=>cond (ltB v2 (r1.length:Int)) (acE (ix v3 v2) λx8=>acE (eX a0 [v2]) λr9=>acE (ix v3 v2) λx10=>ς (.next (WR (v2+1),(v3.set (v2).toNat (IntKind.u8.wrap (x8+(IntKind.u8.wrap (acF r9 256)))))))) (ς (.done v3))
def B9(a0:Int)(a1:List Int):Option (List Int):=
 acE (eY a1) λr1=>acE (iter (yD a0 r1) FU (0,r1)) λ(v7:List Int)=>ς v7
instance iEncrypt_c{a1:List Int}{r:List Int}:FC prog (B9 a0 a1=ς r) 374 [aI a0,aL (a1.map eU8)] [.c (.own 5 1 (r.map eU8) r.length)]:=gG func374 ntmps374 (hL 0 (λ(v:Int×List Int) sl ob nx=>⟨(5,.v (.c (.w 0 v.2.length)))::(11,tI v.1)::xS [0] sl,[(0,w5 v.2)]++ob,nx⟩)) (hB 0 (λ(v:List Int) sl ob nx=>⟨(5,.v (.c (.w 0 v.length)))::(11,.any)::xS [0] sl,[(0,w5 v)]++ob,nx⟩)) (hz 5)
def FZ(a0:Int)(a1:Int)(a2:Int)(a3:List Int):Option bw:=
 acE (p8 a0 (WR ((WR (2*a2))+a1))) λr1=>acE (B9 r1 a3) λr2=>acE (oo a0 a1 a2 r2) λr3=>ς (⟨a1,a2,r2,r3⟩:bw)
instance iProtect_c{a3:List Int}{r:bw}:FC prog (FZ a0 a1 a2 a3=ς r) 340 [aI a0,aI a1,aI a2,aL (a3.map eU8)] [.agg (qM [.o] (p7 r))]:=gG func340 ntmps340
def tz(a0:Int)(a1:Int)(a2:Int)(a3:ab):Option aD:=
 acE (s5 a0 a2) λr1=>acE (FZ r1 1 a3.cX a3.bk) λr2=>ς (⟨a1,a2,r2⟩:aD)
instance JR{a3:ab}{r:aD}:FC prog (tz a0 a1 a2 a3=ς r) 287 [aI a0,aI a1,aI a2,.agg (aX a3)] [.agg (qM [.o] (jy r))]:=gG func287 ntmps287 (hz 1)
def me(a0:ag)(r1:Int):(Int×List aD)->Option (ci (Int×List aD) (List aD))
 |(v2,v3)=>cond (ltB v2 (((a0.aK.aF.take (r1).toNat).length:Nat):Int)) (acE (ix (a0.aK.aF.take (r1).toNat) v2) λx7=>acE (tz a0.bg a0.ah a0.aY x7) λr8=>cond (cW 64 (v3++[r8]).length) (ς (.next (WR (v2+1),(v3++[r8])))) ξ) (ς (.done v3))
def qS(a0:ag):Option (List aD):=
 cond (!eqB a0.bz 1) (ς ([]:List aD)) (acE (RX 2 (a0.aK.aF.length:Int)) λr1=>cond (em a0.aK.aF 0 r1) (acE (iter (me a0 r1) FU (0,([]:List aD))) λ(v6:List aD)=>ς v6) ξ)
instance HF{a0:ag}{r:List aD}:FC prog (qS a0=ς r) 208 [.agg (cp a0)] [.c (.own 46 6 (r.map dr) r.length)]:=gG func208 ntmps208 (hL 0 (λ(v:Int×List aD) sl ob nx=>⟨(3,.v (.c (.w 1 v.2.length)))::(21,tI v.1)::xS [1] sl,[(1,w46 v.2)]++ob,nx⟩)) (hB 0 (λ(v:List aD) sl ob nx=>⟨(3,.v (.c (.w 1 v.length)))::(21,.any)::xS [1] sl,[(1,w46 v)]++ob,nx⟩))
def Zo(a0:Int)(a1:Int):Option Int:=
 cond (ltB a0 a1) (ς a1) (ς a0)
instance iMax_c{r:Int}:FC prog (Zo a0 a1=ς r) 178 [aI a0,aI a1] [.c (.d (.i .i64 r))]:=gG func178 ntmps178
def oV(a0:ag)(a1:Int):Option Int:=
 acE (ji a0) λr1=>acE (kX a0.bX) λr2=>acE (Zo 0 (WR ((WR (r1+a1))-r2))) λr3=>ς r3
instance F1{a0:ag}{r:Int}:FC prog (oV a0 a1=ς r) 289 [.agg (cp a0),aI a1] [.c (.d (.i .i64 r))]:=gG func289 ntmps289
def uB(a1:Int)(r1:aj):Int->Option (ci (Int) (Int))
 |v9=>acE (cond (ltB v9 (r1.an.length:Int)) (acE (ix r1.an v9) λx14=>ς (ltB x14.aO a1)) (ς η)) λ(v13:Bool)=>cond v13 (ς (.next (WR (v9+1)))) (ς (.done v9))
def Cb(a0:aj)(a1:Int)(a2:Int):Option (aj×Int):=
 acE (fk a0) λr1=>acE (ik a0) λr2=>acE (cond (!r2) (ς ζ) (cond (ltB a1 0) (ς ζ) (acE (cd a2 1 100000) λr4=>cond (!r4) (ς ζ) (ς (eqB a0.bK 0))))) λ(v3:Bool)=>cond v3 (ς (r1,0)) (acE (RX a2 a0.bK) λr5=>acE (gh a0 a1) λr6=>cond (leB 0 r6) (acE (ix r1.an r6) λx7=>acE (ix r1.an r6) λx8=>ς ({r1 with bK:=WR (r1.bK-r5),an:=(r1.an.set (r6).toNat (⟨x8.aO,WR (x7.ea+r5)⟩:aH))},r5)) (cond (leB 8 (a0.an.length:Int)) (ς (r1,0)) (acE (iter (uB a1 r1) FU 0) λ(v12:Int)=>cond (cW 16 (r1.an++[dV]).length) (cond (em (r1.an++[dV]) (WR (v12+1)) (r1.an++[dV]).length) (cond (em (r1.an++[dV]) v12 (r1.an++[dV]).length) (acE (ix (cpD (r1.an++[dV]) (WR (v12+1)).toNat ((r1.an++[dV]).drop (v12).toNat)) v12) λx15=>ς ({r1 with bK:=WR (r1.bK-r5),an:=((cpD (r1.an++[dV]) (WR (v12+1)).toNat ((r1.an++[dV]).drop (v12).toNat)).set (v12).toNat (⟨a1,r5⟩:aH))},r5)) ξ) ξ) ξ)))
instance iReserve_c{a0:aj}{r:aj×Int}:FC prog (Cb a0 a1 a2=ς r) 375 [.agg (dh a0),aI a1,aI a2] [.agg (qM [.o] (cO r.1)),.c (.d (.i .i64 r.2))]:=gG func375 ntmps375 (hb 17 30) (hl 0 11) (he 0 11 11) (hb 68 77) (hz 16)
def qA(a0:aj)(a1:cY)(a2:Int):Option (aj×cY):=
 acE (fX a0 a1) λr1=>cond (!r1) (acE (fk a0) λr2=>ς (r2,a1)) (acE (Cb a0 a1.aO a2) λr3=>cond (ltB 100000 (WR (a1.cP+r3.2))) (acE (fk a0) λr4=>ς (r4,a1)) (ς (r3.1,{a1 with cP:=WR (a1.cP+r3.2)})))
instance TG{a0:aj}{a1:cY}{r:aj×cY}:FC prog (qA a0 a1 a2=ς r) 341 [.agg (dh a0),.agg (nE a1),aI a2] [.agg (qM [.o] (cO r.1)),.agg (qM [] (z2 r.2))]:=gG func341 ntmps341 (hz 2) (hz 5) (hz 7)
def sm(a0:ag)(a1:aj)(a2:Int):Option (ag×aj):=
 acE (gJ a0) λr1=>acE (oV r1 a2) λr2=>cond (leB r2 0) (acE (fk a1) λr3=>ς (r1,r3)) (acE (Zo r2 r1.gB.eB) λr4=>acE (qA a1 r1.bX r4) λr5=>ς ({r1 with bX:=r5.2},r5.1))
instance FX{a0:ag}{a1:aj}{r:ag×aj}:FC prog (sm a0 a1 a2=ς r) 288 [.agg (cp a0),.agg (dh a1),aI a2] [.agg (qM [.o,.o,.o] (cU r.1)),.agg (qM [.o] (cO r.2))]:=gG func288 ntmps288 (hz 4) (hz 7) (hz 5)
def qT(a0:aV)(a1:List Int):Option (aV×ab×Bool):=
 acE (mg a0) λr1=>acE (eY a1) λr2=>cond (cW 32 (r1.aF++[(⟨a0.bB,r2⟩:ab)]).length) (acE (mb (⟨WR (r1.bB+1),(r1.aF++[(⟨a0.bB,r2⟩:ab)])⟩:aV)) λr3=>cond (!r3) (acE (mg a0) λr4=>ς (r4,bY,η)) (acE (eY a1) λr5=>ς ((⟨WR (r1.bB+1),(r1.aF++[(⟨a0.bB,r2⟩:ab)])⟩:aV),(⟨a0.bB,r5⟩:ab),ζ))) ξ
theorem F4{a0:aV}{a1:List Int}{r:aV×ab×Bool}(H:qT a0 a1=ς r)(hflag:r.2.2=ζ):Fn prog 290 [.agg (fH a0),aL (a1.map eU8)] [.agg (qM [.o] (dw r.1)),.agg (qM [.o] (dv r.2.1)),.c (.d (.b r.2.2))]:=by
 refine fI func290 ntmps290 ?_
 refine aa H λr1 q1 H=>nA (ca (hF:=qD.h q1)) ?_
 refine zI (v0 11) ?_
 refine aa H λr2 q2 H=>zA (ca (hF:=(sE.h q2).frzs (by repeat (first|exact θ|refine⟨?_,?_⟩|exact lm _|rfl)))) ?_
 obtain⟨h,H⟩:=rq H
 refine zB cA (kz rfl (apT (enc:=aX) (ys:=r1.aF) (zs:=[(⟨a0.bB,r2⟩:ab)]) h)) cA ?_
 refine wA (spx 100549) ?_
 refine aa H λr3 q3 H=>nA (ca (hF:=wa.h q3)) ?_
 refine cC H ?_ ?_<;>intro H
 .refine aa H λr4 q4 H=>nA (ca (hF:=qD.h q4)) ?_
  cases H
  cases hflag
 refine zI (v0 9) ?_
 refine aa H λr5 q5 H=>zA (ca (hF:=sE.h q5)) ?_
 refine wA (spx 100548) ?_
 refine wA (spx 100547) ?_
 exact ao H
theorem F3{a0:aV}{a1:List Int}{r:aV×ab×Bool}(H:qT a0 a1=ς r)(hflag:r.2.2=η):Fn prog 290 [.agg (fH a0),aL (a1.map eU8)] [.agg (qM [.o] (dw r.1)),.agg (qM [.z] (dv r.2.1)),.c (.d (.b r.2.2))]:=by
 refine fI func290 ntmps290 ?_
 refine aa H λr1 q1 H=>nA (ca (hF:=qD.h q1)) ?_
 refine zI (v0 11) ?_
 refine aa H λr2 q2 H=>zA (ca (hF:=(sE.h q2).frzs (by repeat (first|exact θ|refine⟨?_,?_⟩|exact lm _|rfl)))) ?_
 obtain⟨h,H⟩:=rq H
 refine zB cA (kz rfl (apT (enc:=aX) (ys:=r1.aF) (zs:=[(⟨a0.bB,r2⟩:ab)]) h)) cA ?_
 refine wA (spx 100552) ?_
 refine aa H λr3 q3 H=>nA (ca (hF:=wa.h q3)) ?_
 refine cC H ?_ ?_<;>intro H
 .refine aa H λr4 q4 H=>nA (ca (hF:=qD.h q4)) ?_
  exact ao H
 refine zI (v0 9) ?_
 refine aa H λr5 q5 H=>zA (ca (hF:=sE.h q5)) ?_
 refine wA (spx 100551) ?_
 refine wA (spx 100550) ?_
 cases H
 cases hflag
def uD:(Int×List aD×ag×aj)->Option (ci (Int×List aD×ag×aj) (List aD×ag×aj))
 |(v5,v36,v41,v42)=>cond (ltB v5 2) (acE (cond (ltB (v41.aS.length:Int) v41.aK.bB) (ς ζ) (ς (leB 8 (v41.aK.aF.length:Int)))) λ(v86:Bool)=>cond v86 (ς (.done (v36,v41,v42))) (acE (ix v41.aS (WR (v41.aK.bB-1))) λx87=>acE (sm v41 v42 (x87.bk.length:Int)) λr88=>acE (oV r88.1 (x87.bk.length:Int)) λr89=>cond (ltB 0 r89) (ς (.done (v36,r88.1,r88.2))) (acE (qT r88.1.aK x87.bk) λr90=>cond r90.2.2 (acE (tz r88.1.bg r88.1.ah r88.1.aY r90.2.1) λr91=>cond (cW 64 (v36++[r91]).length) (ς (.next (WR (v5+1),(v36++[r91]),{r88.1 with aK:=r90.1},r88.2))) ξ) (ς (.done (v36,r88.1,r88.2)))))) (ς (.done (v36,v41,v42)))
def Cc(a0:ag)(a1:aj):Option bR:=
 acE (gJ a0) λr1=>acE (fk a1) λr2=>acE (i8 a0) λr3=>acE (cond (!r3) (ς ζ) (ς (!eqB a0.bz 1))) λ(v4:Bool)=>cond v4 (ς {cB with bb:=r1,eN:=r2}) (acE (iter (uD) FU (0,([]:List aD),r1,r2)) λ((v79,v84,v85):List aD×ag×aj)=>ς (⟨v84,v85,[],v79⟩:bR))
instance NY{a0:ag}{a1:aj}{r:bR}:FCV prog (Cc a0 a1=ς r) 209 [] [.v (.agg (kM [.f,.f,.f] (cU a0))),.v (.agg (kM [.f] (cO a1)))] [] (.v (.agg (kM [.w 210,.w 211,.w 212,.w 213,.z,.n 214] (b9 {r with lW:=[]})))) [(210,w3 r.bb.gB.bQ),(211,M9 r.bb.aS),(212,C0 r.bb.aK.aF),(213,w165 r.eN.an),(214,n46 r.ct)]:=⟨λH=>by
 refine fV func209 ntmps209 ?_
 refine zI (v0 7) ?_
 refine aa H λr1 q1 H=>zA (ca (hF:=yM.h q1)) ?_
 refine aa H λr2 q2 H=>zA (ca (hF:=yI.h q2)) ?_
 refine wA (spx 100570) ?_
 refine aa H λr3 q3 H=>nA (ca (hF:=uz.h q3)) ?_
 refine aa H λv4 Hj H=>jR ⟨[(4,tP 212),(5,tP 217),(24,tB v4)],(oM [.w 213,.w 214,.w 215,.w 216,.z,.z] 217 173 (b9 {cB with bb:=r1,eN:=r2})++[(212,.var 173 (kM [.z,.z,.z,.z,.z,.z] (b9 cB)))]),218⟩ ?_ ?_
 .exact az Hj
 refine cC H ?_ ?_<;>intro H
 .cases H
  refine bM ((eo (o:=212) (j:=35) 46 6 ζ)) ?_
  refine bM (wS 213 210) ?_
  refine bM (wS 214 211) ?_
  refine bM (wS 215 212) ?_
  refine bM (wS 216 213) ?_
  refine bM (wS 218 214) ?_
  refine bM ((wB 214 (([]:List aD).length))) ?_
  exact dy
 obtain⟨⟨v79,v84,v85⟩,Hj,H⟩:=ob H
 refine jB ⟨[(4,tP 212),(5,tP 217)],(oM [.w 213,.w 214,.w 215,.w 216,.z,.n 218] 217 173 (b9 (⟨v84,v85,[],v79⟩:bR))++[(212,.var 173 (kM [.z,.z,.z,.z,.z,.z] (b9 cB)))]),219⟩ ?_ ?_
 .refine iT Hj (λq=>⟨[(4,tP 212),(5,tP 217),(6,tI q.1)],(oM [.w 213,.w 214,.w 215,.w 216,.z,.n 218] 217 173 (b9 (⟨q.2.2.1,q.2.2.2,[],q.2.1⟩:bR))++[(212,.var 173 (kM [.z,.z,.z,.z,.z,.z] (b9 cB)))]),219⟩) ?_ (by refine aP (eo (o:=217) (j:=35) 46 6 ζ) ?_;refine aP (wB 218 (([]:List aD).length)) ?_;exact wo)
  rintro⟨v5,v36,v41,v42⟩ o H
  refine ad ?_
  refine cC H ?_ ?_<;>intro H
  .refine aa H λv86 Hj H=>jR ⟨[(4,tP 212),(5,tP 217),(6,tI v5),(7,tI v41.aK.bB),(47,tB v86)],(oM [.w 213,.w 214,.w 215,.w 216,.z,.n 218] 217 173 (b9 (⟨v41,v42,[],v36⟩:bR))++[(212,.var 173 (kM [.z,.z,.z,.z,.z,.z] (b9 cB)))]),219⟩ ?_ ?_
   .exact az Hj
   refine cC H ?_ ?_<;>intro H
   .exact aE H
   refine aa H λx87 hx87 H=>nA (xwT hx87) ?_
   refine nA (oe (he:=kK _ hx87)) ?_
   refine aa H λr88 q88 H=>nA (ca (hF:=FX.h q88)) ?_
   refine aa H λr89 q89 H=>nA (ca (hF:=F1.h q89)) ?_
   refine cC H ?_ ?_<;>intro H
   .cases H
    refine yo (λhq=>?_)
    cases hq
    refine wI ?_
    refine aP (wS 213 219) ?_
    refine aP (wS 214 220) ?_
    refine aP (wS 215 221) ?_
    refine aP (wS 216 222) ?_
    exact wo
   obtain⟨r90,q90,H⟩:=ob H
   rcases hb:r90.2.2 with _|_
   .have H:=bf hb H
    refine oi rfl (ca (hF:=F3 q90 hb)) ?_
    simp only[hb]
    refine wI ?_
    cases H
    refine yo (λhq=>?_)
    cases hq
    refine wI ?_
    refine aP (wS 213 219) ?_
    refine aP (wS 214 220) ?_
    refine aP (wS 215 221) ?_
    refine aP (wS 216 222) ?_
    exact wo
   have H:=bt hb H
   refine oi rfl (ca (hF:=F4 q90 hb)) ?_
   simp only[hb]
   refine wI ?_
   refine zI (v0 17) ?_
   refine aa H λr91 q91 H=>zA (ca (hF:=(JR.h q91).frzs (by repeat (first|exact θ|refine⟨?_,?_⟩|exact lm _|rfl)))) ?_
   obtain⟨h,H⟩:=rq H
   refine zB cA (kz rfl (Jp (enc:=dr) (ys:=v36) (zs:=[r91]) h (by first|exact List.cons_ne_nil _ _|simp) rfl (λ_=>rfl) (by first|rfl|simp) (.w rfl (by first|rfl|exact lm _|simp)) rfl rfl rfl rfl rfl rfl rfl rfl rfl rfl)) cA ?_
   refine wA (spx 100569) ?_
   cases H
   refine uj ?_
   refine aP (fZ 218) ?_
   refine aP (wS 213 219) ?_
   refine aP (wS 214 220) ?_
   refine aP (wS 215 223) ?_
   refine aP (wS 216 222) ?_
   exact wo
  exact aE H
 cases H
 refine bM (wS 213 210) ?_
 refine bM (wS 214 211) ?_
 refine bM (wS 215 212) ?_
 refine bM (wS 216 213) ?_
 refine bM (wS 218 214) ?_
 exact dy⟩
def sB(a0:ag)(a1:aj)(a2:aZ):Option bR:=
 acE (gJ a0) λr1=>acE (fk a1) λr2=>acE (i8 r1) λr3=>acE (cond (!r3) (ς ζ) (ς (!eqB r1.bz 1))) λ(v4:Bool)=>cond v4 (ς {cB with bb:=r1,eN:=r2}) (acE (cond (leB r1.gB.eB r1.bX.eH) (acE (o3 r2 r1.bX) λr14=>ς ({r1 with bX:=r14.2},r14.1)) (ς (r1,r2))) λ((v12,v13):ag×aj)=>acE (cond (ltB 0 (v12.aK.aF.length:Int)) (acE (RX (WR (v12.dQ+1)) 5) λr16=>ς r16) (ς 0)) λ(v15:Int)=>cond (ltB 4 v15) (acE (uH {v12 with dQ:=v15} v13 a2) λr17=>ς {r17 with ct:=[]}) (acE (cond (ltB 0 (v12.aK.aF.length:Int)) (ς (ltB 0 v12.dL)) (ς η)) λ(v18:Bool)=>acE (cond v18 (ς (([]:List aD),WR (v12.dL-1))) (acE (cond (ltB 0 (v12.aK.aF.length:Int)) (acE (qS {v12 with dQ:=v15,dL:=3}) λr23=>ς (r23,3)) (ς (([]:List aD),v12.dL))) λ((v21,v22):List aD×Int)=>ς (v21,v22))) λ((v19,v20):List aD×Int)=>acE (Cc {v12 with dQ:=v15,dL:=v20} v13) λr24=>cond (cW 64 (v19++r24.ct).length) (ς {r24 with lW:=[],ct:=(v19++r24.ct)}) ξ))
instance Vv{a0:ag}{a1:aj}{a2:aZ}{r:bR}:FCV prog (sB a0 a1 a2=ς r) 121 [] [.v (.agg (kM [.f,.f,.f] (cU a0))),.v (.agg (kM [.f] (cO a1))),.v (.agg [.d η (.l (a2.bp.map eL))])] [] (.v (.agg (kM [.t,.t,.t,.t,.n 210,.t] (b9 r)))) [(210,n42 r.lW)]:=⟨λH=>by
 refine fV func121 ntmps121 ?_
 refine aa H λr1 q1 H=>nA (ca (hF:=yM.h q1)) ?_
 refine aa H λr2 q2 H=>nA (ca (hF:=yI.h q2)) ?_
 refine aa H λr3 q3 H=>nA (ca (hF:=uz.h q3)) ?_
 refine aa H λv4 Hj H=>jR ⟨[(3,tP 210),(4,tP 211),(5,tP 212),(6,tP 213),(21,tB v4)],(oM [.w 214,.w 215,.w 216] 210 93 (cU r1)++(oM [.w 217] 211 107 (cO r2)++[(212,.var 26 [.d η (.l (a2.bp.map eL))]),(213,.var 173 (kM [.z,.z,.z,.z,.z,.z] (b9 cB)))])),218⟩ ?_ ?_
 .exact az Hj
 refine cC H ?_ ?_<;>intro H
 .cases H
  refine bM ((dK (o:=214))) ?_
  refine bM ((di (k:=22))) ?_
  refine bM ((di (k:=24))) ?_
  refine bM ((dE (o:=210))) ?_
  refine bM ((dE (o:=213))) ?_
  refine bM ((dK (o:=215))) ?_
  refine bM ((di (k:=22))) ?_
  refine bM ((di (k:=24))) ?_
  refine bM ((dE (o:=210))) ?_
  refine bM ((dE (o:=213))) ?_
  refine bM ((dK (o:=216))) ?_
  refine bM ((di (k:=22))) ?_
  refine bM ((di (k:=24))) ?_
  refine bM ((dE (o:=210))) ?_
  refine bM ((dE (o:=213))) ?_
  refine bM ((dK (o:=217))) ?_
  refine bM ((di (k:=23))) ?_
  refine bM ((di (k:=24))) ?_
  refine bM ((dE (o:=211))) ?_
  refine bM ((dE (o:=213))) ?_
  refine bM ((eS (o:=213) (j:=35))) ?_
  refine bM ((eo (o:=213) (j:=34) 42 11 ζ)) ?_
  refine bM (wS 218 210) ?_
  refine bM ((wB 210 (([]:List aG).length))) ?_
  exact dy
 obtain⟨⟨v12,v13⟩,Hj,H⟩:=ob H
 refine jA ⟨[(3,tP 210),(4,tP 211),(5,tP 212),(6,tP 213)],(oM [.w 214,.w 215,.w 216] 210 93 (cU v12)++(oM [.w 218] 211 107 (cO v13)++[(212,.var 26 [.d η (.l (a2.bp.map eL))]),(213,.var 173 (kM [.z,.z,.z,.z,.z,.z] (b9 cB)))])),219⟩ ?_ ?_
 .refine cC Hj ?_ ?_<;>intro H
  .refine aa H λr14 q14 H=>nA (ca (hF:=F2.h q14)) ?_
   exact ai H
  cases H
  refine aP (vl (nx':=219) rfl) ?_
  refine aP (wS 218 217) ?_
  exact wo
 refine aa H λv15 Hj H=>jA ⟨[(3,tP 210),(4,tP 211),(5,tP 212),(6,tP 213),(7,tB (ltB 0 (v12.aK.aF.length:Int)))],(oM [.w 214,.w 215,.w 216] 210 93 (cU {v12 with dQ:=v15})++(oM [.w 218] 211 107 (cO v13)++[(212,.var 26 [.d η (.l (a2.bp.map eL))]),(213,.var 173 (kM [.z,.z,.z,.z,.z,.z] (b9 cB)))])),219⟩ ?_ ?_
 .refine cC Hj ?_ ?_<;>intro H
  .refine aa H λr16 q16 H=>nA (ca (hF:=iMin_c.h q16)) ?_
   exact ai H
  exact ai H
 refine cC H ?_ ?_<;>intro H
 .refine aa H λr17 q17 H=>dW (dK (o:=214)) ?_
  refine dW (dK (o:=215)) ?_
  refine dW (dK (o:=216)) ?_
  refine dW (di (k:=55)) ?_
  refine dW (dK (o:=218)) ?_
  refine dW (di (k:=56)) ?_
  refine sA (cwu [] [(210,219)] 220 (HN.h q17)) ?_
  cases H
  refine bM ((eS (o:=213) (j:=35))) ?_
  refine bM (wS 219 210) ?_
  exact dy
 refine aa H λv18 Hj H=>jR ⟨[(3,tP 210),(4,tP 211),(6,tP 213),(7,tB (ltB 0 (v12.aK.aF.length:Int))),(8,.v (.c (.w 219 (([]:List aD).length)))),(65,tB v18)],(oM [.w 214,.w 215,.w 216] 210 93 (cU {v12 with dQ:=v15})++(oM [.w 218] 211 107 (cO v13)++[(213,.var 173 (kM [.z,.z,.z,.z,.z,.z] (b9 cB))),(219,w46 ([]:List aD))])),220⟩ ?_ ?_
 .exact az Hj
 obtain⟨⟨v19,v20⟩,Hj,H⟩:=ob H
 refine jA ⟨[(3,tP 210),(4,tP 211),(6,tP 213),(8,.v (.c (.w 219 v19.length)))],(oM [.w 214,.w 215,.w 216] 210 93 (cU {v12 with dQ:=v15,dL:=v20})++(oM [.w 218] 211 107 (cO v13)++[(213,.var 173 (kM [.z,.z,.z,.z,.z,.z] (b9 cB))),(219,w46 v19)])),220⟩ ?_ ?_
 .refine cC Hj ?_ ?_<;>intro H
  .exact ai H
  obtain⟨⟨v21,v22⟩,Hj,H⟩:=ob H
  refine jA ⟨[(3,tP 210),(4,tP 211),(6,tP 213),(8,.v (.c (.w 220 v21.length)))],(oM [.w 214,.w 215,.w 216] 210 93 (cU {v12 with dQ:=v15,dL:=v22})++(oM [.w 218] 211 107 (cO v13)++[(213,.var 173 (kM [.z,.z,.z,.z,.z,.z] (b9 cB))),(220,w46 v21)])),221⟩ ?_ ?_
  .refine cC Hj ?_ ?_<;>intro H
   .refine aa H λr23 q23 H=>nA (ca (hF:=HF.h q23)) ?_
    exact ai H
   cases H
   refine aP (vl (nx':=221) rfl) ?_
   refine aP (wS 220 219) ?_
   exact wo
  cases H
  refine aP (wS 219 220) ?_
  exact wo
 refine aa H λr24 q24 H=>dW (dK (o:=214)) ?_
 refine dW (dK (o:=215)) ?_
 refine dW (dK (o:=216)) ?_
 refine dW (di (k:=74)) ?_
 refine dW (dK (o:=218)) ?_
 refine dW (di (k:=75)) ?_
 refine sA (cwv [] [(210,220),(211,221),(212,222),(213,223),(214,224)] 225 (NY.h q24)) ?_
 obtain⟨h,H⟩:=rq H
 refine sA (apT (enc:=dr) (ys:=v19) (zs:=r24.ct) h) ?_
 cases H
 refine bM ((dK (o:=220))) ?_
 refine bM ((di (k:=76))) ?_
 refine bM ((di (k:=82))) ?_
 refine bM ((dE (o:=213))) ?_
 refine bM ((dE (o:=225))) ?_
 refine bM ((dK (o:=221))) ?_
 refine bM ((di (k:=76))) ?_
 refine bM ((di (k:=82))) ?_
 refine bM ((dE (o:=213))) ?_
 refine bM ((dE (o:=225))) ?_
 refine bM ((dK (o:=222))) ?_
 refine bM ((di (k:=76))) ?_
 refine bM ((di (k:=82))) ?_
 refine bM ((dE (o:=213))) ?_
 refine bM ((dE (o:=225))) ?_
 refine bM ((dK (o:=223))) ?_
 refine bM ((di (k:=76))) ?_
 refine bM ((di (k:=82))) ?_
 refine bM ((dE (o:=213))) ?_
 refine bM ((dE (o:=225))) ?_
 refine bM ((dK (o:=219))) ?_
 refine bM ((di (k:=80))) ?_
 refine bM ((di (k:=82))) ?_
 refine bM ((dE (o:=213))) ?_
 refine bM ((dE (o:=225))) ?_
 refine bM ((eo (o:=213) (j:=34) 42 11 ζ)) ?_
 refine bM (wS 226 210) ?_
 refine bM ((wB 210 (([]:List aG).length))) ?_
 exact dy⟩
def jY(a1:Int)(a2:List aG):(Int×ae)->Option (ci (Int×ae) (ae))
 |(v1,v12)=>cond (ltB v1 (a2.length:Int)) (acE (ix a2 v1) λx26=>acE (uI v12 {fE with bj:=a1,bh:=x26.bh,a8:=x26}) λr27=>ς (.next (WR (v1+1),r27))) (ς (.done v12))
def lA(a0:ae)(a1:Int)(a2:List aG):Option ae:=
 acE (iter (jY a1 a2) FU (0,a0)) λ(v25:ae)=>ς v25
instance TT{a0:ae}{a2:List aG}{r:ae}:FCV prog (lA a0 a1 a2=ς r) 122 (nI a0) [tP 200,tI a1,.v (.c (.d ζ (.l (a2.map dM))))] (nI r) (.tup []) []:=gV func122 ntmps122 (hL 0 (λ(v:Int×ae) sl ob nx=>⟨(10,tI v.1)::xS [193,192,191,190] sl,nI v.2++ob,nx⟩)) (hB 0 (λ(v:ae) sl ob nx=>⟨(10,.any)::xS [193,192,191,190] sl,nI v++ob,nx⟩))
def vZ(a0:ae)(a1:Int):Option Bool:=
 acE (lQ a0.d7 a1) λr1=>acE (cond r1 (cond (ltB a1 6) (cond (leB 0 a1) (ς (eqB (AC .i64 (Eb .i64 a0.cF a1) 1) 0)) ξ) (ς η)) (ς η)) λ(v2:Bool)=>ς v2
instance aaZ{a0:ae} :FC prog (vZ a0 a1=ς r) 50 [.agg (g5 a0),aI a1] [.c (.d (.b r))]:=gG func50 ntmps50 (hb 9 4)
def qW(a0:ae)(a1:Int):Option (bA×ae):=
 acE (ix a0.aT a1) λx1=>cond (qj 176 0 (a0.aT.length:Int)) (cond (em a0.aT 0 a1) (cond (cW 176 ((aaI ((0:Int)).toNat fE)++(a0.aT.take (a1).toNat)).length) (cond (em a0.aT (WR (a1+1)) a0.aT.length) (cond (cW 176 (((aaI ((0:Int)).toNat fE)++(a0.aT.take (a1).toNat))++(a0.aT.drop (WR (a1+1)).toNat)).length) (ς (x1,{a0 with aT:=(((aaI ((0:Int)).toNat fE)++(a0.aT.take (a1).toNat))++(a0.aT.drop (WR (a1+1)).toNat))})) ξ) ξ) ξ) ξ) ξ
instance Yt{a0:ae}{r:bA×ae}:FCV prog (qW a0 a1=ς r) 167 (nI a0) [tP 200,tI a1] (nI r.2) (.v (.agg (kM [.t] (oN r.1)))) []:=gV func167 ntmps167
def mc(a0:aG):Option Bool:=
 acE (cd a0.bu 1 8) λr1=>acE (cond r1 (acE (cd a0.bh 0 5) λr3=>cond r3 (acE (cd a0.ah 0 999999) λr4=>cond r4 (acE (cd a0.aY 0 999999) λr5=>cond r5 (acE (cd a0.bZ 0 1000000000000) λr6=>ς r6) (ς η)) (ς η)) (ς η)) (ς η)) λ(v2:Bool)=>ς v2
instance RU{a0:aG} :FC prog (mc a0=ς r) 291 [.agg (dM a0)] [.c (.d (.b r))]:=gG func291 ntmps291 (hb 6 2)
def dR(a0:ag)(a1:List aG):Option bN:=
 acE (gJ a0) λr1=>acE (ge a1) λr2=>ς (⟨r1,r2⟩:bN)
instance Se{a0:ag}{a1:List aG}{r:bN}:FC prog (dR a0 a1=ς r) 296 [.agg (cp a0),aL (a1.map dM)] [.agg (qM [.o,.o,.o,.o] (eh r))]:=gG func296 ntmps296
def mY(a0:Int)(a1:Int):Option Int:=
 acE (eX a0 [1,a1]) λr1=>ς (acF r1 1000000)
instance TI{r:Int}:FC prog (mY a0 a1=ς r) 388 [aI a0,aI a1] [.c (.d (.i .i64 r))]:=gG func388 ntmps388
def md(a0:Int)(a1:Int)(a2:Int):Option cy:=
 acE (cd a2 0 999999) λr1=>cond (!r1) (ς cH) (acE (mY a0 a1) λr2=>acE (eX a0 [2,a1,a2]) λr3=>acE (eX a0 [3,a1]) λr4=>acE (eX a0 [4,a1,a2]) λr5=>acE (cond (eqB r5 0) (ς 1) (ς r5)) λ(v6:Int)=>ς (⟨a1,acF (WR (a2+r2)) 1000000,r3,r4,v6⟩:cy))
instance R3{r:cy}:FC prog (md a0 a1 a2=ς r) 376 [aI a0,aI a1,aI a2] [.agg (qM [] (kA r))]:=gG func376 ntmps376 (hC 36 (λ(v:Int) sl ob nx=>⟨sl,uC 4 4 [.d η (.i .i64 v)] ob,nx⟩))
def rF(a0:aU)(a1:Int):Option (aU×cy):=
 acE (fC a0) λr1=>acE (cond (!r1) (ς ζ) (ς (eqB a0.cX 999999))) λ(v2:Bool)=>cond v2 (ς (a0,cH)) (acE (md a0.fA a1 (WR (a0.cX+1))) λr3=>ς ({a0 with cX:=WR (a0.cX+1)},r3))
instance PG{a0:aU}{r:aU×cy}:FC prog (rF a0 a1=ς r) 342 [.agg (er a0),aI a1] [.agg (qM [] (nT r.1)),.agg (qM [] (kA r.2))]:=gG func342 ntmps342 (hb 9 13) (hz 4)
def oP(a0:dq)(a1:Int):Option Int:=
 acE (eX 29 [a0.d4,a0.bZ,a1]) λr1=>ς r1
instance RR{a0:dq}{r:Int}:FC prog (oP a0 a1=ς r) 343 [.agg (oL a0),aI a1] [.c (.d (.i .i64 r))]:=gG func343 ntmps343
def oW(a0:ag)(a1:aG):Option bN:=
 acE (oP a0.bT.ID (WR (a0.bT.cX+1))) λr1=>acE (rF a0.bT r1) λr2=>bif(eqB r2.1.ID.d4 a0.bT.ID.d4&&(eqB r2.1.ID.bZ a0.bT.ID.bZ&&(eqB r2.1.fA a0.bT.fA&&(eqB r2.1.cX a0.bT.cX&&ζ)))) then(acE (dR a0 []) λr3=>ς r3) else(acE (dR {a0 with bT:=r2.1,aA:=r2.2,bG:=r2.1.cX} [(⟨2,a1.bh,r2.1.cX,0,0,r2.2,0⟩:aG)]) λr4=>ς r4)
instance R4{a0:ag}{a1:aG}{r:bN}:FC prog (oW a0 a1=ς r) 292 [.agg (cp a0),.agg (dM a1)] [.agg (qM [.o,.o,.o,.o] (eh r))]:=gG func292 ntmps292 (hz 1)
def p9(a0:cy)(a1:Int):Option Bool:=
 ς (eqB a1 a0.vP)
instance NW{a0:cy} :FC prog (p9 a0 a1=ς r) 344 [.agg (mE a0),aI a1] [.c (.d (.b r))]:=gG func344 ntmps344
def nj(a0:ag)(a1:Int):Option aG:=
 acE (ol a0.bg (⟨a1,a0.bh,a0.ah,a0.aY,0,cH,0⟩:aG)) λr1=>ς r1
instance TU{a0:ag}{r:aG}:FC prog (nj a0 a1=ς r) 345 [.agg (cp a0),aI a1] [.agg (qM [] (gL r))]:=gG func345 ntmps345
def mG(a0:ag)(a1:aG):Option bN:=
 acE (cond (leB a0.bG 0) (ς ζ) (cond (!eqB a1.ah a0.bG) (ς ζ) (acE (p9 a0.aA a1.bZ) λr2=>cond (!r2) (ς ζ) (ς (leB 999999 a0.aY))))) λ(v1:Bool)=>cond v1 (acE (dR a0 []) λr3=>ς r3) (acE (nj (⟨a0.bT,a0.gB,1,cH,0,a0.bG,a0.aA.fA,WR (a0.aY+1),a1.bh,0,ev,a0.aS,a0.aK,a0.dL,a0.bX⟩:ag) 4) λr4=>acE (dR (⟨a0.bT,a0.gB,1,cH,0,a0.bG,a0.aA.fA,WR (a0.aY+1),a1.bh,0,ev,a0.aS,a0.aK,a0.dL,a0.bX⟩:ag) [r4]) λr5=>ς r5)
instance NV{a0:ag}{a1:aG}{r:bN}:FC prog (mG a0 a1=ς r) 293 [.agg (cp a0),.agg (dM a1)] [.agg (qM [.o,.o,.o,.o] (eh r))]:=gG func293 ntmps293 (hb 8 27) (hz 12)
def jD(a0:Int)(a1:aG):Option Bool:=
 acE (tA a0 a1) λr1=>ς (eqB a1.i7 r1)
instance TL{a1:aG} :FC prog (jD a0 a1=ς r) 299 [aI a0,.agg (dM a1)] [.c (.d (.b r))]:=gG func299 ntmps299
def kF(a0:ag)(a1:aG):Option bN:=
 acE (cond (!eqB a0.bz 1) (ς ζ) (cond (!eqB a1.ah a0.ah) (ς ζ) (acE (jD a0.bg a1) λr2=>ς (!r2)))) λ(v1:Bool)=>cond v1 (acE (dR a0 []) λr3=>ς r3) (acE (cond (ltB a1.aY a0.aY) (ς ζ) (cond (eqB a1.aY a0.aY) (ς (!eqB a1.bh a0.bh)) (ς η))) λ(v4:Bool)=>cond v4 (acE (dR a0 []) λr5=>ς r5) (acE (nj {a0 with aY:=a1.aY,bh:=a1.bh,dQ:=0,f6:=ev,dL:=0} 6) λr6=>acE (dR {a0 with aY:=a1.aY,bh:=a1.bh,dQ:=0,f6:=ev,dL:=0} [r6]) λr7=>ς r7))
instance LT{a0:ag}{a1:aG}{r:bN}:FC prog (kF a0 a1=ς r) 294 [.agg (cp a0),.agg (dM a1)] [.agg (qM [.o,.o,.o,.o] (eh r))]:=gG func294 ntmps294 (hb 8 21) (hb 29 42) (hz 10)
def qy(a0:cY)(a1:Int):Option (cY×Bool):=
 acE (jC a0) λr1=>acE (cond (!r1) (ς ζ) (acE (cd a1 0 (WR (a0.cP-a0.eH))) λr3=>ς (!r3))) λ(v2:Bool)=>cond v2 (ς (a0,η)) (ς ({a0 with eH:=WR (a0.eH+a1)},ζ))
instance TC{a0:cY}{r:cY×Bool}:FC prog (qy a0 a1=ς r) 346 [.agg (nE a0),aI a1] [.agg (qM [] (z2 r.1)),.c (.d (.b r.2))]:=gG func346 ntmps346 (hb 9 18)
def gM(a0:aV)(a1:Int):(Int×List ab)->Option (ci (Int×List ab) (List ab))
 |(v2,v3)=>cond (ltB v2 (a0.aF.length:Int)) (acE (ix a0.aF v2) λx7=>acE (cond (leB a1 x7.cX) (cond (cW 32 (v3++[x7]).length) (ς (v3++[x7])) ξ) (ς v3)) λ(v8:List ab)=>ς (.next (WR (v2+1),v8))) (ς (.done v3))
def lJ(a0:aV)(a1:Int):Option aV:=
 cond (ltB a0.bB a1) (acE (mg a0) λr1=>ς r1) (acE (iter (gM a0 a1) FU (0,([]:List ab))) λ(v6:List ab)=>acE (ly v6) λr9=>ς (⟨a0.bB,r9⟩:aV))
instance Nh{a0:aV}{r:aV}:FC prog (lJ a0 a1=ς r) 347 [.agg (fH a0),aI a1] [.agg (qM [.o] (dw r))]:=gG func347 ntmps347 (hL 0 (λ(v:Int×List ab) sl ob nx=>⟨(5,.v (.c (.w 2 v.2.length)))::(18,tI v.1)::xS [2] sl,[(2,C0 v.2 η ζ)]++ob,nx⟩)) (hB 0 (λ(v:List ab) sl ob nx=>⟨(5,.v (.c (.w 2 v.length)))::(18,.any)::xS [2] sl,[(2,C0 v η ζ)]++ob,nx⟩)) (hC 25 (λ(v:List ab) sl ob nx=>⟨(5,.v (.c (.w 2 v.length)))::xS [2] sl,[(2,C0 v η ζ)]++ob,nx⟩)) (hz 10)
def kE(a0:ag)(a1:aG):(Int×Int)->Option (ci (Int×Int) (Int))
 |(v4,v5)=>cond (ltB v5 (a0.aK.aF.length:Int)) (acE (ix a0.aK.aF v5) λx9=>acE (cond (ltB x9.cX a1.bZ) (ς (WR (v4+(x9.bk.length:Int)))) (ς v4)) λ(v10:Int)=>ς (.next (v10,WR (v5+1)))) (ς (.done v4))
def nK(a0:ag)(a1:aG):Option bN:=
 acE (cond (!eqB a0.bz 1) (ς ζ) (cond (!eqB a1.ah a0.ah) (ς ζ) (acE (jD a0.bg a1) λr2=>cond (!r2) (ς ζ) (ς (ltB a0.aK.bB a1.bZ))))) λ(v1:Bool)=>cond v1 (acE (dR a0 []) λr3=>ς r3) (acE (iter (kE a0 a1) FU (0,0)) λ(v8:Int)=>acE (qy a0.bX v8) λr11=>acE (lJ a0.aK a1.bZ) λr12=>acE (dR {a0 with dQ:=0,aK:=r12,bX:=r11.1} []) λr13=>ς r13)
instance PH{a0:ag}{a1:aG}{r:bN}:FC prog (nK a0 a1=ς r) 295 [.agg (cp a0),.agg (dM a1)] [.agg (qM [.o,.o,.o,.o] (eh r))]:=gG func295 ntmps295 (hb 11 32) (hm 0 5 39) (he 0 5 39) (hi 47 5)
def oZ(a0:ag)(a1:aG):Option bN:=
 acE (mc a1) λr1=>cond r1 (cond (eqB a1.bu 1) (acE (oW a0 a1) λr2=>ς r2) (cond (eqB a1.bu 3) (acE (mG a0 a1) λr3=>ς r3) (cond (eqB a1.bu 5) (acE (kF a0 a1) λr4=>ς r4) (cond (eqB a1.bu 8) (acE (nK a0 a1) λr5=>ς r5) (acE (dR a0 []) λr6=>ς r6))))) (acE (dR a0 []) λr7=>ς r7)
instance R6{a0:ag}{a1:aG}{r:bN}:FC prog (oZ a0 a1=ς r) 210 [.agg (cp a0),.agg (dM a1)] [.agg (qM [.o,.o,.o,.o] (eh r))]:=gG func210 ntmps210
def nJ(a0:bw):Option Bool:=
 acE (cond (eqB a0.dt 0) (acE (cd a0.gk 1 100000) λr2=>cond r2 (cond (leB (a0.bk.length:Int) 60) (acE (cd a0.i7 0 2147483646) λr3=>ς r3) (ς η)) (ς η)) (cond (eqB a0.dt 1) (acE (cd a0.gk 1 100000) λr4=>cond r4 (cond (leB (a0.bk.length:Int) 60) (acE (cd a0.i7 0 2147483646) λr5=>ς r5) (ς η)) (ς η)) (ς η))) λ(v1:Bool)=>ς v1
instance PE{a0:bw} :FC prog (nJ a0=ς r) 180 [.agg (eg a0)] [.c (.d (.b r))]:=gG func180 ntmps180 (hb 6 2)
def xg(a0:Int)(a1:bw):Option Bool:=
 acE (oo a0 a1.dt a1.gk a1.bk) λr1=>ς (eqB a1.i7 r1)
instance Zq{a1:bw} :FC prog (xg a0 a1=ς r) 181 [aI a0,.agg (eg a1)] [.c (.d (.b r))]:=gG func181 ntmps181
def sC(a0:Int)(a1:aD):Option Bool:=
 acE (nJ a1.bL) λr1=>acE (cond r1 (cond (eqB a1.bL.dt 1) (acE (s5 a0 a1.aY) λr3=>acE (xg r3 a1.bL) λr4=>ς r4) (ς η)) (ς η)) λ(v2:Bool)=>ς v2
instance yG{a1:aD} :FC prog (sC a0 a1=ς r) 101 [aI a0,.agg (dr a1)] [.c (.d (.b r))]:=gG func101 ntmps101 (hb 8 4)
def yC(a0:Int)(r1:List Int):(Int×List Int)->Option (ci (Int×List Int) (List Int))
 |(v2,v3)=>cond (ltB v2 (r1.length:Int)) (acE (ix v3 v2) λx8=>acE (eX a0 [v2]) λr9=>acE (ix v3 v2) λx10=>ς (.next (WR (v2+1),(v3.set (v2).toNat (IntKind.u8.wrap (x8-(IntKind.u8.wrap (acF r9 256)))))))) (ς (.done v3))
def B8(a0:Int)(a1:List Int):Option (List Int):=
 acE (eY a1) λr1=>acE (iter (yC a0 r1) FU (0,r1)) λ(v7:List Int)=>ς v7
instance iDecrypt_c{a1:List Int}{r:List Int}:FC prog (B8 a0 a1=ς r) 182 [aI a0,aL (a1.map eU8)] [.c (.own 5 1 (r.map eU8) r.length)]:=gG func182 ntmps182 (hL 0 (λ(v:Int×List Int) sl ob nx=>⟨(5,.v (.c (.w 0 v.2.length)))::(11,tI v.1)::xS [0] sl,[(0,w5 v.2)]++ob,nx⟩)) (hB 0 (λ(v:List Int) sl ob nx=>⟨(5,.v (.c (.w 0 v.length)))::(11,.any)::xS [0] sl,[(0,w5 v)]++ob,nx⟩)) (hz 5)
def xk(a0:Int)(a1:bw):Option (List Int):=
 acE (p8 a0 (WR ((WR (2*a1.gk))+a1.dt))) λr1=>acE (B8 r1 a1.bk) λr2=>ς r2
instance yR{a1:bw}{r:List Int}:FC prog (xk a0 a1=ς r) 102 [aI a0,.agg (eg a1)] [.c (.own 5 1 (r.map eU8) r.length)]:=gG func102 ntmps102
def tx(a0:Int)(a1:Int)(a2:Int)(a3:aD):Option (ab×Bool):=
 acE (cond (!eqB a3.ah a1) (ς ζ) (cond (!eqB a3.aY a2) (ς ζ) (acE (sC a0 a3) λr2=>ς (!r2)))) λ(v1:Bool)=>cond v1 (ς (bY,η)) (acE (s5 a0 a2) λr3=>acE (xk r3 a3.bL) λr4=>ς ((⟨a3.bL.gk,r4⟩:ab),ζ))
theorem HE{a3:aD}{r:ab×Bool}(H:tx a0 a1 a2 a3=ς r)(hflag:r.2=ζ):Fn prog 42 [aI a0,aI a1,aI a2,.agg (dr a3)] [.agg (qM [.o] (dv r.1)),.c (.d (.b r.2))]:=by
 refine fI func42 ntmps42 ?_
 refine aa H λv1 Hj H=>jR ⟨[(0,tI a0),(2,tI a2),(7,tP 0),(8,tP 1),(26,tB v1)],[(0,.var 46 (kM [.f] (jy a3))),(1,.var 100 (kM [.z] (dv bY)))],2⟩ ?_ ?_
 .refine gC Hj ?_ ?_<;>intro H
  .exact ai H
  refine gC H ?_ ?_<;>intro H
  .exact ai H
  refine aa H λr2 q2 H=>nG (ca (hF:=yG.h q2)) ?_
  exact ai H
 refine cC H ?_ ?_<;>intro H
 .cases H
  cases hflag
 refine dI ?_
 refine aa H λr3 q3 H=>dA (ca (hF:=DQ.h q3)) ?_
 refine aa H λr4 q4 H=>dA (ca (hF:=yR.h q4)) ?_
 refine wI ?_
 exact ao H
theorem HD{a3:aD}{r:ab×Bool}(H:tx a0 a1 a2 a3=ς r)(hflag:r.2=η):Fn prog 42 [aI a0,aI a1,aI a2,.agg (dr a3)] [.agg (qM [.z] (dv r.1)),.c (.d (.b r.2))]:=by
 refine fI func42 ntmps42 ?_
 refine aa H λv1 Hj H=>jR ⟨[(0,tI a0),(2,tI a2),(7,tP 0),(8,tP 1),(26,tB v1)],[(0,.var 46 (kM [.f] (jy a3))),(1,.var 100 (kM [.z] (dv bY)))],2⟩ ?_ ?_
 .refine gC Hj ?_ ?_<;>intro H
  .exact ai H
  refine gC H ?_ ?_<;>intro H
  .exact ai H
  refine aa H λr2 q2 H=>nG (ca (hF:=yG.h q2)) ?_
  exact ai H
 refine cC H ?_ ?_<;>intro H
 .exact ao H
 refine dI ?_
 refine aa H λr3 q3 H=>dA (ca (hF:=DQ.h q3)) ?_
 refine aa H λr4 q4 H=>dA (ca (hF:=yR.h q4)) ?_
 refine wI ?_
 cases H
 cases hflag
def qF(a0:aM)(a1:Int):Int->Option (ci (Int) (Bool))
 |v1=>cond (ltB v1 (a0.aA.length:Int)) (acE (ix a0.aA v1) λx2=>cond (eqB x2.cX a1) (dn (ς ζ)) (ς (.next (WR (v1+1))))) (dn (ς η))
def Bl(a0:aM)(a1:Int):Option Bool:=
 iter (qF a0 a1) FU 0
instance Zs{a0:aM} :FC prog (Bl a0 a1=ς r) 348 [.agg (fG a0),aI a1] [.c (.d (.b r))]:=gG func348 ntmps348 (hl 0 10)
def lL(a1:ab)(r1:aM):Int->Option (ci (Int) (Int))
 |v6=>acE (cond (ltB v6 (r1.aA.length:Int)) (acE (ix r1.aA v6) λx11=>ς (ltB x11.cX a1.cX)) (ς η)) λ(v10:Bool)=>cond v10 (ς (.next (WR (v6+1)))) (ς (.done v6))
def lM:aM->Option (ci (aM) (aM))
 |v17=>acE (cond (ltB 0 (v17.aA.length:Int)) (acE (ix v17.aA 0) λx26=>cond (eqB x26.cX v17.bB) (ς (ltB (v17.bi.length:Int) 24)) (ς η)) (ς η)) λ(v25:Bool)=>cond v25 (acE (ix v17.aA 0) λx27=>cond (cW 24 (v17.bi++[(⟨x27.bk⟩:bI)]).length) (cond (em v17.aA 1 v17.aA.length) (ς (.next (⟨WR (v17.bB+1),v17.aA.drop ((1:Int)).toNat,(v17.bi++[(⟨x27.bk⟩:bI)])⟩:aM))) ξ) ξ) (ς (.done v17))
def oX(a0:aM)(a1:ab):Option aM:=
 acE (nf a0) λr1=>acE (jV a0) λr2=>acE (cond (!r2) (ς ζ) (cond (ltB 60 (a1.bk.length:Int)) (ς ζ) (acE (cd a1.cX a0.bB (WR ((WR (a0.bB+8))-1))) λr4=>cond (!r4) (ς ζ) (acE (Bl a0 a1.cX) λr5=>cond r5 (ς ζ) (ς (leB 24 (a0.bi.length:Int))))))) λ(v3:Bool)=>cond v3 (ς r1) (acE (iter (lL a1 r1) FU 0) λ(v9:Int)=>cond (cW 32 (r1.aA++[bY]).length) (cond (em (r1.aA++[bY]) (WR (v9+1)) (r1.aA++[bY]).length) (cond (em (r1.aA++[bY]) v9 (r1.aA++[bY]).length) (acE (eY a1.bk) λr12=>acE (ix (cpD (r1.aA++[bY]) (WR (v9+1)).toNat ((r1.aA++[bY]).drop (v9).toNat)) v9) λx13=>acE (iter (lM) FU {r1 with aA:=((cpD (r1.aA++[bY]) (WR (v9+1)).toNat ((r1.aA++[bY]).drop (v9).toNat)).set (v9).toNat (⟨a1.cX,r12⟩:ab))}) λ(v24:aM)=>cond (leB 24 (v24.bi.length:Int)) (ς {v24 with aA:=[]}) (ς v24)) ξ) ξ) ξ)
instance Dj{a0:aM}{a1:ab}{r:aM}:FC prog (oX a0 a1=ς r) 297 [.agg (fG a0),.agg (aX a1)] [.agg (qM [.d,.o] (bV r))]:=gG func297 ntmps297 (hb 12 41) (hl 0 6) (he 0 6 6) (hb 48 58) (hL 2 (λ(v:aM) sl ob nx=>⟨(65,.any)::(68,.any)::(73,.any)::(78,.any)::xS [4,3] sl,oM [.t,.w 4] 5 65 (bV v)++fO [3] ob,nx⟩)) (hB 2 (λ(v:aM) sl ob nx=>⟨(65,.any)::(68,.any)::(73,.any)::(78,.any)::xS [4,3] sl,oM [.t,.w 4] 5 65 (bV v)++fO [3] ob,nx⟩)) (hb 91 106) (hz 11) (hz 9) (hz 8)
def iz(a0:aC):Option a9:=
 acE (qV {a0 with cj:=η,eU:=3}) λr1=>acE (cZ {a0 with cj:=η,eU:=3} [r1]) λr2=>ς r2
instance TN{a0:aC}{r:a9}:FC prog (iz a0=ς r) 265 [.agg (dF a0)] [.agg (qM [.o,.o,.o] (dx r))]:=gG func265 ntmps265 (hz 3)
def kY(a0:Int)(a1:Int)(a2:Int):Option Int:=
 acE (RY a2 1000000) λr1=>acE (mY a0 a1) λr2=>acE (RY (WR (r1-r2)) 1000000) λr3=>ς r3
instance PK{r:Int}:FC prog (kY a0 a1 a2=ς r) 378 [aI a0,aI a1,aI a2] [.c (.d (.i .i64 r))]:=gG func378 ntmps378
def qC(a0:Int)(a1:Int)(a2:cy):Option Int:=
 acE (kY a0 a2.ez a2.f7) λr1=>acE (eX a0 [2,a2.ez,r1]) λr2=>cond (!eqB a2.i7 r2) (ς 1) (cond (leB r1 a1) (ς 2) (cond (ltB (WR (a1+1000)) r1) (ς 3) (ς 0)))
instance TM{a2:cy}{r:Int}:FC prog (qC a0 a1 a2=ς r) 377 [aI a0,aI a1,.agg (mE a2)] [.c (.d (.i .i64 r))]:=gG func377 ntmps377
def sv(a0:Int)(a1:Int)(a2:Int):Option Int:=
 acE (cd a2 0 999999) λr1=>cond (!r1) (ς (-1)) (acE (eX a0 [5,a1,a2]) λr2=>ς (WR ((WR (1000000*(acF r2 1000)))+a2)))
instance Vt{r:Int}:FC prog (sv a0 a1 a2=ς r) 379 [aI a0,aI a1,aI a2] [.c (.d (.i .i64 r))]:=gG func379 ntmps379
def mQ(a0:jG)(a1:cy):Option (jG×gD):=
 acE (oU a0) λr1=>cond (!r1) (ς (a0,{iX with Code:=1})) (acE (qC a0.fA a0.c8 a1) λr2=>acE (cond (eqB r2 0) (acE (kY a0.fA a1.ez a1.f7) λr8=>acE (eX a0.fA [3,a1.ez]) λr9=>acE (md a0.fA a1.ez r8) λr10=>ς (r8,(⟨r2,r9,r10.fA,0⟩:gD))) (acE (cond (eqB r2 2) (ς (eqB r2 2)) (ς (eqB r2 3))) λ(v11:Bool)=>acE (cond v11 (acE (sv a0.fA a1.ez a0.c8) λr13=>ς r13) (ς 0)) λ(v12:Int)=>ς (a0.c8,{iX with Code:=r2,Uh:=v12}))) λ((v6,v7):Int×gD)=>ς ({a0 with c8:=v6},v7))
instance K6{a0:jG}{a1:cy}{r:jG×gD}:FC prog (mQ a0 a1=ς r) 349 [.agg (FB a0),.agg (mE a1)] [.agg (qM [] (FJ r.1)),.agg (qM [] (tu r.2))]:=gG func349 ntmps349 (hC 23 (λ(v:Int×gD) sl ob nx=>⟨sl,[(0,.var 61 (kM [] (FJ {a0 with c8:=v.1}))),(4,.var 299 (kM [] (tu v.2)))]++fO [1] ob,nx⟩)) (hc 49 49) (hC 49 (λ(v:Int) sl ob nx=>⟨sl,uC 4 3 [.d η (.i .i64 v)] ob,nx⟩)) (hz 14)
def mH(a0:aC)(a1:aG):Option a9:=
 acE (mQ a0.dO a1.b8) λr1=>cond (!eqB r1.2.Code 0) (acE (cZ a0 []) λr2=>ς r2) (acE (cZ {a0 with dO:=r1.1,ah:=a1.ah,bg:=r1.2.wO} [(⟨3,a0.bh,a1.ah,0,r1.2.vP,cH,0⟩:aG)]) λr3=>ς r3)
instance NZ{a0:aC}{a1:aG}{r:a9}:FC prog (mH a0 a1=ς r) 298 [.agg (dF a0),.agg (dM a1)] [.agg (qM [.o,.o,.o] (dx r))]:=gG func298 ntmps298
def oY(a0:aC)(a1:aG):Option a9:=
 acE (mc a1) λr1=>acE (cond (!r1) (ς ζ) (cond (!eqB a1.bh a0.bh) (ς ζ) (ς (eqB a0.bz 0)))) λ(v2:Bool)=>cond v2 (acE (cZ a0 []) λr3=>ς r3) (cond (eqB a1.bu 2) (cond (eqB a0.bz 1) (acE (mH a0 a1) λr4=>ς r4) (acE (cZ a0 []) λr5=>ς r5)) (cond (eqB a1.bu 4) (acE (cond (eqB a0.bz 1) (acE (gN a0.bg) λr7=>cond r7 (cond (eqB a1.ah a0.ah) (acE (jD a0.bg a1) λr8=>ς r8) (ς η)) (ς η)) (ς η)) λ(v6:Bool)=>acE (cond v6 (ς {a0 with bz:=2,aY:=a1.aY,cj:=ζ}) (ς a0)) λ(v12:aC)=>acE (cZ v12 []) λr13=>ς r13) (cond (eqB a1.bu 6) (acE (cond (eqB a0.bz 2) (cond (eqB a1.ah a0.ah) (cond (eqB a1.aY a0.aY) (acE (jD a0.bg a1) λr15=>ς r15) (ς η)) (ς η)) (ς η)) λ(v14:Bool)=>acE (cond v14 (ς ζ) (ς a0.cj)) λ(v16:Bool)=>acE (cZ {a0 with cj:=v16} []) λr17=>ς r17) (cond (eqB a1.bu 7) (acE (cond (eqB a0.bz 3) (ς (ltB a0.aY 999999)) (ς η)) λ(v18:Bool)=>cond v18 (acE (iz {a0 with bz:=2,aY:=WR (a0.aY+1)}) λr19=>ς r19) (cond (eqB a0.bz 2) (acE (iz a0) λr20=>ς r20) (acE (cZ a0 []) λr21=>ς r21))) (acE (cZ a0 []) λr22=>ς r22)))))
instance R5{a0:aC}{a1:aG}{r:a9}:FC prog (oY a0 a1=ς r) 212 [.agg (dF a0),.agg (dM a1)] [.agg (qM [.o,.o,.o] (dx r))]:=gG func212 ntmps212 (hb 8 19) (hb 37 54) (hC 54 (λ(v:aC) sl ob nx=>⟨sl,[(0,.var 67 (kM [.f,.f] (eW v)))]++ob,nx⟩)) (hb 65 84) (hC 84 (λ(v:Bool) sl ob nx=>⟨sl,[(0,.var 67 (kM [.f,.f] (eW {a0 with cj:=v})))]++ob,nx⟩)) (hb 91 95)
end Go.AM
