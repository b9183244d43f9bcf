/- A part. -/
import Derived.Test.YtcnfbcpgepbnkaaGreatG
set_option linter.unusedVariables false
open Option renaming some->ς,none->ξ
open Bool renaming true->ζ,false->η
open True renaming intro->θ
open Option renaming bind->aeP
open List renaming replicate->aal
namespace Go.AM
open Go.Proofs
open Tryz
attribute [local irreducible] AWN NS AWO AWR AWC DR DZ cO eB iter
set_option maxRecDepth 100000
set_option maxHeartbeats 40000000
variable{r:Bool}{a1:Int}
def sZ(a0:List Int):Option (List Int):=
 cond (jh 8 (a0.length:Int) (a0.length:Int)) (ς (cpL (aal ((a0.length:Int)).toNat (0:Int)) a0)) ξ
instance Fh{a0:List Int}{r:List Int}:FC prog (sZ a0=ς r) 150 [aL (a0.map eI)] [.c (.own 3 1 (r.map eI) r.length)]:=gG func150 ntmps150
def zh(a0:aU):(Int×List cZ)->Option (bJ (Int×List cZ) (List cZ))
 |(v1,v2)=>cond (ltB v1 (a0.bh.length:Int)) (aeP (ix a0.bh v1) λx7=>aeP (sZ x7.b7) λr8=>aeP (ix v2 v1) λx9=>ς (.next (WR (v1+1),(v2.set (v1).toNat (⟨x7.eO,r8⟩:cZ))))) (ς (.done v2))
def CZ(a0:aU):Option aU:=
 cond (jh 32 (a0.bh.length:Int) (a0.bh.length:Int)) (aeP (iter (zh a0) FU (0,(aal ((a0.bh.length:Int)).toNat Ju))) λ(v6:List cZ)=>ς (⟨v6⟩:aU)) ξ
def ev(a0:List Int):Option (List Int):=
 cond (jh 1 (a0.length:Int) (a0.length:Int)) (ς (cpL (aal ((a0.length:Int)).toNat (0:Int)) a0)) ξ
instance xg{a0:List Int}{r:List Int}:FC prog (ev a0=ς r) 230 [aL (a0.map eU8)] [.c (.own 5 1 (r.map eU8) r.length)]:=gG func230 ntmps230
def pP(a0:List aP):(Int×List aP)->Option (bJ (Int×List aP) (List aP))
 |(v1,v2)=>cond (ltB v1 (a0.length:Int)) (aeP (ix a0 v1) λx7=>aeP (ev x7.be) λr8=>aeP (ix v2 v1) λx9=>ς (.next (WR (v1+1),(v2.set (v1).toNat (⟨r8⟩:aP))))) (ς (.done v2))
def kP(a0:List aP):Option (List aP):=
 cond (jh 24 (a0.length:Int) (a0.length:Int)) (aeP (iter (pP a0) FU (0,(aal ((a0.length:Int)).toNat (⟨[]⟩:aP)))) λ(v6:List aP)=>ς v6) ξ
instance Wf{a0:List aP}{r:List aP}:FC prog (kP a0=ς r) 153 [aL (a0.map b9)] [.c (.own 251 1 (r.map b9) r.length)]:=gG func153 ntmps153 (hL 0 (λ(v:Int×List aP) sl ob nx=>⟨(3,.v (.c (.w 0 v.2.length)))::(11,tI v.1)::xS [0] sl,[(0,V4 v.2)]++ob,nx⟩)) (hB 0 (λ(v:List aP) sl ob nx=>⟨(3,.v (.c (.w 0 v.length)))::(11,.any)::xS [0] sl,[(0,V4 v)]++ob,nx⟩))
def pO(a0:List ab):(Int×List ab)->Option (bJ (Int×List ab) (List ab))
 |(v1,v2)=>cond (ltB v1 (a0.length:Int)) (aeP (ix a0 v1) λx7=>aeP (ev x7.be) λr8=>aeP (ix v2 v1) λx9=>ς (.next (WR (v1+1),(v2.set (v1).toNat (⟨x7.df,r8⟩:ab))))) (ς (.done v2))
def i9(a0:List ab):Option (List ab):=
 cond (jh 32 (a0.length:Int) (a0.length:Int)) (aeP (iter (pO a0) FU (0,(aal ((a0.length:Int)).toNat bE))) λ(v6:List ab)=>ς v6) ξ
instance We{a0:List ab}{r:List ab}:FC prog (i9 a0=ς r) 229 [aL (a0.map an)] [.c (.own 249 2 (r.map an) r.length)]:=gG func229 ntmps229 (hL 0 (λ(v:Int×List ab) sl ob nx=>⟨(3,.v (.c (.w 0 v.2.length)))::(11,tI v.1)::xS [0] sl,[(0,M6 v.2)]++ob,nx⟩)) (hB 0 (λ(v:List ab) sl ob nx=>⟨(3,.v (.c (.w 0 v.length)))::(11,.any)::xS [0] sl,[(0,M6 v)]++ob,nx⟩)) (hz 5)
def kQ(a0:aB):Option aB:=
 aeP (i9 a0.aA) λr1=>aeP (kP a0.aY) λr2=>ς (⟨a0.bw,r1,r2⟩:aB)
instance Wg{a0:aB}{r:aB}:FC prog (kQ a0=ς r) 151 [.agg (dW a0)] [.agg (qM [.o,.o] (cr r))]:=gG func151 ntmps151 (hz 1)
def qQ(a0:aF):Option aF:=
 aeP (kQ a0.ct) λr1=>ς {a0 with ct:=r1}
def kZ(a0:bK):Option bK:=
 aeP (sZ a0.bi) λr1=>ς {a0 with bi:=r1}
def jO(a0:aG):Option aG:=
 aeP (i9 a0.ar) λr1=>ς (⟨a0.bw,r1⟩:aG)
instance aaA{a0:aG}{r:aG}:FC prog (jO a0=ς r) 154 [.agg (ec a0)] [.agg (qM [.o] (dF r))]:=gG func154 ntmps154 (hz 1)
def iJ(a0:ag):Option ag:=
 aeP (kZ a0.fr) λr1=>aeP (kP a0.aS) λr2=>aeP (jO a0.aC) λr3=>ς {a0 with fr:=r1,aS:=r2,aC:=r3}
def fo(a0:List ah):Option (List ah):=
 cond (jh 16 (a0.length:Int) (a0.length:Int)) (ς (cpL (aal ((a0.length:Int)).toNat cS) a0)) ξ
instance qS{a0:List ah}{r:List ah}:FC prog (fo a0=ς r) 155 [aL (a0.map aO)] [.c (.own 232 2 (r.map aO) r.length)]:=gG func155 ntmps155
def er(a0:aj):Option aj:=
 aeP (fo a0.ak) λr1=>ς {a0 with ak:=r1}
instance zg{a0:aj}{r:aj}:FC prog (er a0=ς r) 82 [.agg (bj a0)] [.agg (qM [.o] (cp r))]:=gG func82 ntmps82
def sC(a0:aV):Option aV:=
 aeP (ev a0.be) λr1=>ς {a0 with be:=r1}
def xh(a0:am):Option am:=
 aeP (sC a0.bH) λr1=>ς {a0 with bH:=r1}
def qR(a0:a9):Option a9:=
 aeP (xh a0.cF) λr1=>ς {a0 with cF:=r1}
def gx(a0:List aF):(Int×List aF)->Option (bJ (Int×List aF) (List aF))
 |(v1,v2)=>cond (ltB v1 (a0.length:Int)) (aeP (ix a0 v1) λx7=>aeP (qQ x7) λr8=>aeP (ix v2 v1) λx9=>ς (.next (WR (v1+1),(v2.set (v1).toNat r8)))) (ς (.done v2))
def eY(a0:List aF):Option (List aF):=
 cond (jh 144 (a0.length:Int) (a0.length:Int)) (aeP (iter (gx a0) FU (0,(aal ((a0.length:Int)).toNat Ap))) λ(v6:List aF)=>ς v6) ξ
def fU(a0:List ag):(Int×List ag)->Option (bJ (Int×List ag) (List ag))
 |(v1,v2)=>cond (ltB v1 (a0.length:Int)) (aeP (ix a0 v1) λx7=>aeP (iJ x7) λr8=>aeP (ix v2 v1) λx9=>ς (.next (WR (v1+1),(v2.set (v1).toNat r8)))) (ς (.done v2))
def eL(a0:List ag):Option (List ag):=
 cond (jh 288 (a0.length:Int) (a0.length:Int)) (aeP (iter (fU a0) FU (0,(aal ((a0.length:Int)).toNat s8))) λ(v6:List ag)=>ς v6) ξ
def fT(a0:List aj):(Int×List aj)->Option (bJ (Int×List aj) (List aj))
 |(v1,v2)=>cond (ltB v1 (a0.length:Int)) (aeP (ix a0 v1) λx7=>aeP (er x7) λr8=>aeP (ix v2 v1) λx9=>ς (.next (WR (v1+1),(v2.set (v1).toNat r8)))) (ς (.done v2))
def eJ(a0:List aj):Option (List aj):=
 cond (jh 48 (a0.length:Int) (a0.length:Int)) (aeP (iter (fT a0) FU (0,(aal ((a0.length:Int)).toNat jL))) λ(v6:List aj)=>ς v6) ξ
def gz(a0:List a9):(Int×List a9)->Option (bJ (Int×List a9) (List a9))
 |(v1,v2)=>cond (ltB v1 (a0.length:Int)) (aeP (ix a0 v1) λx7=>aeP (qR x7) λr8=>aeP (ix v2 v1) λx9=>ς (.next (WR (v1+1),(v2.set (v1).toNat r8)))) (ς (.done v2))
def eZ(a0:List a9):Option (List a9):=
 cond (jh 176 (a0.length:Int) (a0.length:Int)) (aeP (iter (gz a0) FU (0,(aal ((a0.length:Int)).toNat jM))) λ(v6:List a9)=>ς v6) ξ
def sB(a0:ae):Option ae:=
 aeP (CZ a0.fH) λr1=>aeP (eY a0.aH) λr2=>aeP (eL a0.aT) λr3=>aeP (eJ a0.bu) λr4=>aeP (eZ a0.aJ) λr5=>ς (⟨r1,r2,r3,r4,r5,a0.dK,a0.lA,a0.vU,a0.my⟩:ae)
def bW(a0:Int)(a1:Int)(a2:Int):Option Bool:=
 aeP (cond (leB a1 a0) (ς (leB a0 a2)) (ς η)) λ(v1:Bool)=>ς v1
instance xb{a0:Int}{a2:Int} :FC prog (bW a0 a1 a2=ς r) 37 [aI a0,aI a1,aI a2] [.c (.d (.b r))]:=gG func37 ntmps37 (hb 10 6)
def oU(a0:aU)(a1:Int):Option Bool:=
 aeP (bW a1 0 (WR ((a0.bh.length:Int)-1))) λr1=>ς r1
instance UL{a0:aU} :FC prog (oU a0 a1=ς r) 88 [.agg (eh a0),aI a1] [.c (.d (.b r))]:=gG func88 ntmps88
def vB(a0:aU)(a1:Int)(a2:Int):Option Bool:=
 aeP (oU a0 a1) λr1=>aeP (cond r1 (aeP (ix a0.bh a1) λx3=>aeP (fY x3.b7 a2) λr4=>ς r4) (ς η)) λ(v2:Bool)=>ς v2
instance V9{a0:aU}{a2:Int} :FC prog (vB a0 a1 a2=ς r) 158 [.agg (eh a0),aI a1,aI a2] [.c (.d (.b r))]:=gG func158 ntmps158 (hb 10 6)
def sq(a0:dO):Option Bool:=
 aeP (bW a0.uy 1 6) λr1=>aeP (cond r1 (cond (leB 0 a0.uy) (aeP (bW a0.jS 0 (WR ((Nx .i64 1 a0.uy)-1))) λr3=>ς r3) ξ) (ς η)) λ(v2:Bool)=>ς v2
instance XU{a0:dO} :FC prog (sq a0=ς r) 86 [.agg (ov a0)] [.c (.d (.b r))]:=gG func86 ntmps86 (hb 6 2)
def gh(a0:Int):Option Bool:=
 aeP (bW a0 1 2147483646) λr1=>ς r1
instance JD{a0:Int} :FC prog (gh a0=ς r) 234 [aI a0] [.c (.d (.b r))]:=gG func234 ntmps234
def gj(a0:cG):Option Bool:=
 aeP (bW a0.dT 0 3) λr1=>aeP (cond r1 (aeP (bW a0.cj 0 99) λr3=>ς r3) (ς η)) λ(v2:Bool)=>ς v2
instance LT{a0:cG} :FC prog (gj a0=ς r) 304 [.agg (ie a0)] [.c (.d (.b r))]:=gG func304 ntmps304 (hb 6 2)
def oE(a0:ju):Option Bool:=
 aeP (gj a0.ID) λr1=>aeP (cond r1 (aeP (gh a0.f9) λr3=>cond r3 (aeP (bW a0.d7 0 999999) λr4=>ς r4) (ς η)) (ς η)) λ(v2:Bool)=>ς v2
instance XV{a0:ju} :FC prog (oE a0=ς r) 233 [.agg (BJ a0)] [.c (.d (.b r))]:=gG func233 ntmps233 (hb 6 2)
def eR(a0:bI):Option Bool:=
 aeP (gj a0.ID) λr1=>aeP (cond r1 (aeP (gh a0.f9) λr3=>cond r3 (aeP (bW a0.df 0 999999) λr4=>ς r4) (ς η)) (ς η)) λ(v2:Bool)=>ς v2
instance Hw{a0:bI} :FC prog (eR a0=ς r) 236 [.agg (eX a0)] [.c (.d (.b r))]:=gG func236 ntmps236 (hb 6 2)
def oD(a0:bL):Option Bool:=
 aeP (bW a0.eO 0 2) λr1=>aeP (cond r1 (aeP (bW a0.em 0 4) λr3=>cond r3 (aeP (bW a0.eG 0 3) λr4=>ς r4) (ς η)) (ς η)) λ(v2:Bool)=>ς v2
instance UG{a0:bL} :FC prog (oD a0=ς r) 238 [.agg (iY a0)] [.c (.d (.b r))]:=gG func238 ntmps238 (hb 6 2)
def kX(a0:aG):Int->Option (bJ (Int) (Bool))
 |v3=>cond (ltB v3 (a0.ar.length:Int)) (aeP (ix a0.ar v3) λx4=>aeP (cond (!eqB x4.df (WR ((WR (a0.bw-(a0.ar.length:Int)))+v3))) (ς ζ) (ς (ltB 60 (x4.be.length:Int)))) λ(v5:Bool)=>cond v5 (dn (ς η)) (ς (.next (WR (v3+1))))) (dn (ς ζ))
def lC(a0:aG):Option Bool:=
 aeP (bW a0.bw 1 100000) λr1=>aeP (cond (!r1) (ς ζ) (ς (ltB 8 (a0.ar.length:Int)))) λ(v2:Bool)=>cond v2 (ς η) (cond (ltB (WR (a0.bw-(a0.ar.length:Int))) 1) (ς η) (iter (kX a0) FU 0))
instance we{a0:aG} :FC prog (lC a0=ς r) 239 [.agg (ec a0)] [.c (.d (.b r))]:=gG func239 ntmps239 (hb 10 15) (hl 0 27) (hb 38 43)
def yu(a0:ae)(a1:a9):Option ae:=
 cond (leB 200 (a0.aJ.length:Int)) (ς {a0 with my:=WR (a0.my+1)}) (aeP (qR a1) λr1=>cond (c8 176 (a0.aJ++[r1]).length) (ς {a0 with aJ:=(a0.aJ++[r1])}) ξ)
def na(a1:Int)(a2:aZ):(Int×ae)->Option (bJ (Int×ae) (ae))
 |(v2,v13)=>cond (ltB v2 (a2.dV.length:Int)) (aeP (ix a2.dV v2) λx27=>aeP (yu v13 (⟨a1,ζ,η,x27.bC,x27,kU⟩:a9)) λr28=>ς (.next (WR (v2+1),r28))) (ς (.done v13))
def iL(a0:ae)(a1:Int)(a2:aZ):Option ae:=
 aeP (ix a0.aH a1) λx1=>aeP (iter (na a1 a2) FU (0,{a0 with aH:=(a0.aH.set (a1).toNat a2.bS)})) λ(v26:ae)=>ς v26
def jD(a1:Int)(a2:List aD):(Int×ae)->Option (bJ (Int×ae) (ae))
 |(v1,v12)=>cond (ltB v1 (a2.length:Int)) (aeP (ix a2 v1) λx26=>aeP (yu v12 {jM with bS:=a1,bC:=x26.bC,cg:=x26}) λr27=>ς (.next (WR (v1+1),r27))) (ς (.done v12))
def je(a0:ae)(a1:Int)(a2:List aD):Option ae:=
 aeP (iter (jD a1 a2) FU (0,a0)) λ(v25:ae)=>ς v25
def nW(a0:ae)(a1:Int):Option (a9×ae):=
 aeP (ix a0.aJ a1) λx1=>cond (jh 176 0 (a0.aJ.length:Int)) (cond (d6 a0.aJ 0 a1) (cond (c8 176 ((aal ((0:Int)).toNat jM)++(a0.aJ.take (a1).toNat)).length) (cond (d6 a0.aJ (WR (a1+1)) a0.aJ.length) (cond (c8 176 (((aal ((0:Int)).toNat jM)++(a0.aJ.take (a1).toNat))++(a0.aJ.drop (WR (a1+1)).toNat)).length) (ς (x1,{a0 with aJ:=(((aal ((0:Int)).toNat jM)++(a0.aJ.take (a1).toNat))++(a0.aJ.drop (WR (a1+1)).toNat))})) ξ) ξ) ξ) ξ) ξ
def AD(a0:ae)(a1:Int):Option Bool:=
 aeP (oU a0.fH a1) λr1=>aeP (cond r1 (cond (ltB a1 6) (cond (leB 0 a1) (ς (eqB (W2 .i64 (bShr .i64 a0.dK a1) 1) 0)) ξ) (ς η)) (ς η)) λ(v2:Bool)=>ς v2
instance N0{a0:ae} :FC prog (AD a0 a1=ς r) 164 [.agg (eC a0),aI a1] [.c (.d (.b r))]:=gG func164 ntmps164 (hb 9 4)
def lD(a0:aD):Option Bool:=
 aeP (bW a0.eb 1 8) λr1=>aeP (cond r1 (aeP (bW a0.bC 0 5) λr3=>cond r3 (aeP (bW a0.av 0 999999) λr4=>cond r4 (aeP (bW a0.a8 0 999999) λr5=>cond r5 (aeP (bW a0.cj 0 1000000000000) λr6=>ς r6) (ς η)) (ς η)) (ς η)) (ς η)) λ(v2:Bool)=>ς v2
instance wh{a0:aD} :FC prog (lD a0=ς r) 247 [.agg (cP a0)] [.c (.d (.b r))]:=gG func247 ntmps247 (hb 6 2)
def ge(a0:aG)(a1:Int):(Int×List ab)->Option (bJ (Int×List ab) (List ab))
 |(v2,v3)=>cond (ltB v2 (a0.ar.length:Int)) (aeP (ix a0.ar v2) λx7=>aeP (cond (leB a1 x7.df) (cond (c8 32 (v3++[x7]).length) (ς (v3++[x7])) ξ) (ς v3)) λ(v8:List ab)=>ς (.next (WR (v2+1),v8))) (ς (.done v3))
def kW(a0:aG)(a1:Int):Option aG:=
 cond (ltB a0.bw a1) (aeP (jO a0) λr1=>ς r1) (aeP (iter (ge a0 a1) FU (0,([]:List ab))) λ(v6:List ab)=>aeP (i9 v6) λr9=>ς (⟨a0.bw,r9⟩:aG))
instance Bc{a0:aG}{r:aG}:FC prog (kW a0 a1=ς r) 313 [.agg (ec a0),aI a1] [.agg (qM [.o] (dF r))]:=gG func313 ntmps313 (hL 0 (λ(v:Int×List ab) sl ob nx=>⟨(5,.v (.c (.w 2 v.2.length)))::(18,tI v.1)::xS [2] sl,[(2,M6 v.2 η ζ)]++ob,nx⟩)) (hB 0 (λ(v:List ab) sl ob nx=>⟨(5,.v (.c (.w 2 v.length)))::(18,.any)::xS [2] sl,[(2,M6 v η ζ)]++ob,nx⟩)) (hC 25 (λ(v:List ab) sl ob nx=>⟨(5,.v (.c (.w 2 v.length)))::xS [2] sl,[(2,M6 v η ζ)]++ob,nx⟩)) (hz 10)
def mZ(a0:aV):Option Bool:=
 aeP (cond (eqB a0.c7 0) (aeP (bW a0.f8 1 100000) λr2=>cond r2 (cond (leB (a0.be.length:Int) 60) (aeP (bW a0.nJ 0 2147483646) λr3=>ς r3) (ς η)) (ς η)) (cond (eqB a0.c7 1) (aeP (bW a0.f8 1 100000) λr4=>cond r4 (cond (leB (a0.be.length:Int) 60) (aeP (bW a0.nJ 0 2147483646) λr5=>ς r5) (ς η)) (ς η)) (ς η))) λ(v1:Bool)=>ς v1
instance SC{a0:aV} :FC prog (mZ a0=ς r) 347 [.agg (dL a0)] [.c (.d (.b r))]:=gG func347 ntmps347 (hb 6 2)
def Gp(a0:aU)(a1:Int):Option Int:=
 aeP (oU a0 a1) λr1=>cond (!r1) (ς (-1)) (aeP (ix a0.bh a1) λx2=>ς x2.eO)
instance UE{a0:aU}{r:Int}:FC prog (Gp a0 a1=ς r) 274 [.agg (eh a0),aI a1] [.c (.d (.i .i64 r))]:=gG func274 ntmps274
end Go.AM
