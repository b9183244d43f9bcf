/- A part. -/
import Derived.Test.YtfbpfflnhfcmaaaGreatI0
set_option linter.unusedVariables false
open Option renaming some->ς,none->ξ
open Bool renaming true->ζ,false->η
open True renaming intro->θ
open Option renaming bind->afW
open List renaming replicate->ab3
namespace Go.AM
open Go.Proofs
open Tryz
attribute [local irreducible] AWN NS AWO AWR AWC DR DZ dm gK iter
set_option maxRecDepth 100000
set_option maxHeartbeats 40000000
variable{a1:Int}{r:Bool}
def mh(a0:be)(a1:Int):Option Bool:=
 afW (bW a1 0 (WR ((a0.bp.length:Int)-1))) λr1=>ς r1
instance iisCell_c{a0:be} :FC prog (mh a0 a1=ς r) 71 [.agg (gM a0),aI a1] [.c (.d (.b r))]:=gG func71 ntmps71
def kY(a0:bQ):Option Bool:=
 afW (bW a0.fU 1 6) λr1=>afW (cond r1 (cond (leB 0 a0.fU) (afW (bW a0.fZ 0 (WR ((nO .i64 1 a0.fU)-1))) λr3=>ς r3) ξ) (ς η)) λ(v2:Bool)=>ς v2
instance YD{a0:bQ} :FC prog (kY a0=ς r) 69 [.agg (jK a0)] [.c (.d (.b r))]:=gG func69 ntmps69 (hb 6 2)
def ip(a0:Int):Option Bool:=
 afW (bW a0 1 2147483646) λr1=>ς r1
instance abv{a0:Int} :FC prog (ip a0=ς r) 215 [aI a0] [.c (.d (.b r))]:=gG func215 ntmps215
def it(a0:dH):Option Bool:=
 afW (bW a0.eF 0 3) λr1=>afW (cond r1 (afW (bW a0.bP 0 99) λr3=>ς r3) (ς η)) λ(v2:Bool)=>ς v2
instance LC{a0:dH} :FC prog (it a0=ς r) 301 [.agg (pC a0)] [.c (.d (.b r))]:=gG func301 ntmps301 (hb 6 2)
def ku(a0:a9):Int->Option (cj (Int) (Bool))
 |v3=>cond (ltB v3 (a0.aV.length:Int)) (afW (ix a0.aV v3) λx4=>afW (cond (ltB 60 (x4.bh.length:Int)) (ς ζ) (afW (bW x4.cH (WR (a0.bw+1)) (WR ((WR (a0.bw+8))-1))) λr6=>ς (!r6))) λ(v5:Bool)=>cond v5 (dn (ς η)) (afW (cond (ltB 0 v3) (afW (ix a0.aV (WR (v3-1))) λx8=>ς (leB x4.cH x8.cH)) (ς η)) λ(v7:Bool)=>cond v7 (dn (ς η)) (ς (.next (WR (v3+1)))))) (dn (ς ζ))
def kB(a0:a9):Option Bool:=
 afW (cond (!eqB a0.bw (WR ((a0.bv.length:Int)+1))) (ς ζ) (cond (ltB 24 (a0.bv.length:Int)) (ς ζ) (afW (wc a0.bv) λr2=>cond (!r2) (ς ζ) (ς (ltB 8 (a0.aV.length:Int)))))) λ(v1:Bool)=>cond v1 (ς η) (iter (ku a0) FU 0)
instance Qq{a0:a9} :FC prog (kB a0=ς r) 216 [.agg (iJ a0)] [.c (.d (.b r))]:=gG func216 ntmps216 (hb 12 29) (hl 0 33) (hb 42 54) (hb 57 68)
def jG(a0:cW):Option Int:=
 afW (kh a0) λr1=>cond (!r1) (ς 0) (ς (WR (a0.cG-a0.d6)))
instance SQ{a0:cW}{r:Int}:FC prog (jG a0=ς r) 56 [.agg (oH a0)] [.c (.d (.i .i64 r))]:=gG func56 ntmps56
def iB(a0:bR):Int->Option (cj (Int) (Bool))
 |v5=>cond (ltB v5 (a0.bU.length:Int)) (afW (ix a0.bU v5) λx6=>afW (bW x6 0 3) λr7=>cond (!r7) (dn (ς η)) (ς (.next (WR (v5+1))))) (dn (afW (qf a0.bU) λr8=>ς r8))
def jN(a0:bR):Option Bool:=
 afW (bW a0.m9 1 1000) λr1=>afW (cond (!r1) (ς ζ) (afW (bW a0.m0 1 4) λr3=>cond (!r3) (ς ζ) (afW (bW a0.d4 1 100000) λr4=>ς (!r4)))) λ(v2:Bool)=>cond v2 (ς η) (iter (iB a0) FU 0)
instance LD{a0:bR} :FC prog (jN a0=ς r) 218 [.agg (mA a0)] [.c (.d (.b r))]:=gG func218 ntmps218 (hb 9 20) (hl 0 24)
def pL(a0:cm):Option Bool:=
 afW (bW a0.fF 0 2) λr1=>afW (cond r1 (afW (bW a0.dJ 0 4) λr3=>cond r3 (afW (bW a0.dy 0 3) λr4=>ς r4) (ς η)) (ς η)) λ(v2:Bool)=>ς v2
instance UX{a0:cm} :FC prog (pL a0=ς r) 219 [.agg (rS a0)] [.c (.d (.b r))]:=gG func219 ntmps219 (hb 6 2)
def mb(a0:bk):Int->Option (cj (Int) (Bool))
 |v3=>cond (ltB v3 (a0.aJ.length:Int)) (afW (ix a0.aJ v3) λx4=>afW (cond (!eqB x4.cH (WR ((WR (a0.bw-(a0.aJ.length:Int)))+v3))) (ς ζ) (ς (ltB 60 (x4.bh.length:Int)))) λ(v5:Bool)=>cond v5 (dn (ς η)) (ς (.next (WR (v3+1))))) (dn (ς ζ))
def mD(a0:bk):Option Bool:=
 afW (bW a0.bw 1 100000) λr1=>afW (cond (!r1) (ς ζ) (ς (ltB 8 (a0.aJ.length:Int)))) λ(v2:Bool)=>cond v2 (ς η) (cond (ltB (WR (a0.bw-(a0.aJ.length:Int))) 1) (ς η) (iter (mb a0) FU 0))
instance xC{a0:bk} :FC prog (mD a0=ς r) 220 [.agg (gY a0)] [.c (.d (.b r))]:=gG func220 ntmps220 (hb 10 15) (hl 0 27) (hb 38 43)
def jO(a0:ag):Option Int:=
 afW (qg a0.ax.aJ) λr1=>ς r1
instance PB{a0:ag}{r:Int}:FC prog (jO a0=ς r) 222 [.agg (cr a0)] [.c (.d (.i .i64 r))]:=gG func222 ntmps222
def kX(a0:av):Int->Option (cj (Int) (Bool))
 |v5=>cond (ltB v5 (a0.aD.length:Int)) (afW (ix a0.aD v5) λx6=>afW (cond (ltB x6.aO 0) (ς ζ) (afW (bW x6.eo 1 100000) λr8=>ς (!r8))) λ(v7:Bool)=>cond v7 (dn (ς η)) (afW (cond (ltB 0 v5) (afW (ix a0.aD (WR (v5-1))) λx10=>ς (leB x6.aO x10.aO)) (ς η)) λ(v9:Bool)=>cond v9 (dn (ς η)) (ς (.next (WR (v5+1)))))) (dn (afW (pV a0) λr11=>ς (eqB (WR ((WR (a0.bL+a0.d9))+r11)) a0.iA)))
def iK(a0:av):Option Bool:=
 afW (bW a0.iA 0 100000) λr1=>afW (cond (!r1) (ς ζ) (afW (bW a0.bL 0 a0.iA) λr3=>cond (!r3) (ς ζ) (afW (bW a0.d9 0 a0.iA) λr4=>ς (!r4)))) λ(v2:Bool)=>cond v2 (ς η) (cond (ltB 8 (a0.aD.length:Int)) (ς η) (iter (kX a0) FU 0))
instance SH{a0:av} :FC prog (iK a0=ς r) 129 [.agg (dw a0)] [.c (.d (.b r))]:=gG func129 ntmps129 (hb 9 24) (hl 0 32) (hb 40 45) (hb 48 59)
def pT(a0:av)(a1:Int):Option Int:=
 afW (gv a0 a1) λr1=>cond (ltB r1 0) (ς 0) (afW (ix a0.aD r1) λx2=>ς x2.eo)
instance YH{a0:av}{r:Int}:FC prog (pT a0 a1=ς r) 224 [.agg (dw a0),aI a1] [.c (.d (.i .i64 r))]:=gG func224 ntmps224
def Aj(a0:be):(Int×List fo)->Option (cj (Int×List fo) (List fo))
 |(v1,v2)=>cond (ltB v1 (a0.bp.length:Int)) (afW (ix a0.bp v1) λx7=>afW (ul x7.cY) λr8=>afW (ix v2 v1) λx9=>ς (.next (WR (v1+1),(v2.set (v1).toNat (⟨x7.fF,r8⟩:fo))))) (ς (.done v2))
def Dn(a0:be):Option be:=
 cond (rF 32 (a0.bp.length:Int) (a0.bp.length:Int)) (afW (iter (Aj a0) FU (0,(ab3 ((a0.bp.length:Int)).toNat RX))) λ(v6:List fo)=>ς (⟨v6⟩:be)) ξ
instance icopyMap_c{a0:be}{r:be}:FC prog (Dn a0=ς r) 83 [.agg (gM a0)] [.agg [.own 154 2 (r.bp.map gp) r.bp.length]]:=gG func83 ntmps83 (hL 0 (λ(v:Int×List fo) sl ob nx=>⟨(3,.v (.c (.w 2 v.2.length)))::(13,tI v.1)::xS [2] sl,[(2,w154 v.2)]++ob,nx⟩)) (hB 0 (λ(v:List fo) sl ob nx=>⟨(3,.v (.c (.w 2 v.length)))::(13,.any)::xS [2] sl,[(2,w154 v)]++ob,nx⟩)) (hz 5)
def rz(a0:List bI):(Int×List bI)->Option (cj (Int×List bI) (List bI))
 |(v1,v2)=>cond (ltB v1 (a0.length:Int)) (afW (ix a0 v1) λx7=>afW (fy x7.bh) λr8=>afW (ix v2 v1) λx9=>ς (.next (WR (v1+1),(v2.set (v1).toNat (⟨r8⟩:bI))))) (ς (.done v2))
def ol(a0:List bI):Option (List bI):=
 cond (rF 24 (a0.length:Int) (a0.length:Int)) (afW (iter (rz a0) FU (0,(ab3 ((a0.length:Int)).toNat (⟨[]⟩:bI)))) λ(v6:List bI)=>ς v6) ξ
instance WM{a0:List bI}{r:List bI}:FC prog (ol a0=ς r) 163 [aL (a0.map eT)] [.c (.own 151 1 (r.map eT) r.length)]:=gG func163 ntmps163 (hL 0 (λ(v:Int×List bI) sl ob nx=>⟨(3,.v (.c (.w 0 v.2.length)))::(11,tI v.1)::xS [0] sl,[(0,w151 v.2)]++ob,nx⟩)) (hB 0 (λ(v:List bI) sl ob nx=>⟨(3,.v (.c (.w 0 v.length)))::(11,.any)::xS [0] sl,[(0,w151 v)]++ob,nx⟩))
def ry(a0:List ah):(Int×List ah)->Option (cj (Int×List ah) (List ah))
 |(v1,v2)=>cond (ltB v1 (a0.length:Int)) (afW (ix a0 v1) λx7=>afW (fy x7.bh) λr8=>afW (ix v2 v1) λx9=>ς (.next (WR (v1+1),(v2.set (v1).toNat (⟨x7.cH,r8⟩:ah))))) (ς (.done v2))
def lQ(a0:List ah):Option (List ah):=
 cond (rF 32 (a0.length:Int) (a0.length:Int)) (afW (iter (ry a0) FU (0,(ab3 ((a0.length:Int)).toNat b7))) λ(v6:List ah)=>ς v6) ξ
instance WL{a0:List ah}{r:List ah}:FC prog (lQ a0=ς r) 262 [aL (a0.map bC)] [.c (.own 100 2 (r.map bC) r.length)]:=gG func262 ntmps262 (hL 0 (λ(v:Int×List ah) sl ob nx=>⟨(3,.v (.c (.w 0 v.2.length)))::(11,tI v.1)::xS [0] sl,[(0,Ps v.2)]++ob,nx⟩)) (hB 0 (λ(v:List ah) sl ob nx=>⟨(3,.v (.c (.w 0 v.length)))::(11,.any)::xS [0] sl,[(0,Ps v)]++ob,nx⟩)) (hz 5)
def mg(a0:bR):Option bR:=
 afW (ul a0.bU) λr1=>ς {a0 with bU:=r1}
instance PE{a0:bR}{r:bR}:FC prog (mg a0=ς r) 162 [.agg (mA a0)] [.agg (qM [.o] (pF r))]:=gG func162 ntmps162
def fD(a0:av):Option av:=
 afW (gh a0.aD) λr1=>ς {a0 with aD:=r1}
instance Ag{a0:av}{r:av}:FC prog (fD a0=ς r) 89 [.agg (dw a0)] [.agg (qM [.o] (dB r))]:=gG func89 ntmps89
def tR(a0:bF):Option bF:=
 afW (fy a0.bh) λr1=>ς {a0 with bh:=r1}
instance YN{a0:bF}{r:bF}:FC prog (tR a0=ς r) 264 [.agg (eZ a0)] [.agg (qM [.o] (rj r))]:=gG func264 ntmps264
def UZ(a0:Int)(a1:Int):Option Int:=
 afW (bW a1 1 1000000000000) λr1=>cond (!r1) (ς 0) (cond (!eqB a1 0) (afW (cond (ltB (Int.tmod a0 a1) 0) (ς (WR ((Int.tmod a0 a1)+a1))) (ς (Int.tmod a0 a1))) λ(v2:Int)=>ς v2) ξ)
instance iMod_c{a0:Int}{r:Int}:FC prog (UZ a0 a1=ς r) 363 [aI a0,aI a1] [.c (.d (.i .i64 r))]:=gG func363 ntmps363 (hi 13 5)
def tl(a0:be):(Int×List Int)->Option (cj (Int×List Int) (List Int))
 |(v3,v4)=>cond (ltB v3 (((ab3 ((a0.bp.length:Int)).toNat (0:Int)).length:Nat):Int)) (afW (ix v4 v3) λx7=>ς (.next (WR (v3+1),(v4.set (v3).toNat v3)))) (ς (.done v4))
def tp(a0:be):(Int×List Int)->Option (cj (Int×List Int) (List Int))
 |(v8,v9)=>cond (ltB v8 (((ab3 ((a0.bp.length:Int)).toNat (0:Int)).length:Nat):Int)) (afW (ix v9 v8) λx12=>ς (.next (WR (v8+1),(v9.set (v8).toNat v8)))) (ς (.done v9))
def tK(a0:be)(a1:Int)(a2:Int):Option (List Int):=
 afW (bW a2 1 4) λr1=>cond (!r1) (ς ([]:List Int)) (cond (eqB a2 1) (afW (yz a0 a1) λr2=>cond (ltB 0 (r2.length:Int)) (ς r2) (cond (rF 8 (a0.bp.length:Int) (a0.bp.length:Int)) (afW (iter (tl a0) FU (0,(ab3 ((a0.bp.length:Int)).toNat (0:Int)))) λ(v6:List Int)=>ς v6) ξ)) (cond (rF 8 (a0.bp.length:Int) (a0.bp.length:Int)) (afW (iter (tp a0) FU (0,(ab3 ((a0.bp.length:Int)).toNat (0:Int)))) λ(v11:List Int)=>ς v11) ξ))
instance YG{a0:be}{a2:Int}{r:List Int}:FC prog (tK a0 a1 a2=ς r) 339 [.agg (gM a0),aI a1,aI a2] [.c (.own 3 1 (r.map eI) r.length)]:=⟨λH=>by
 refine fI func339 ntmps339 ?_
 refine aa H λr1 q1 H=>nA (ca (hF:=Cs.h q1)) ?_
 refine cC H ?_ ?_<;>intro H
 .exact ao H
 refine cC H ?_ ?_<;>intro H
 .refine aa H λr2 q2 H=>nA (ca (hF:=Hh.h q2)) ?_
  refine cC H ?_ ?_<;>intro H
  .exact ao H
  obtain⟨h,H⟩:=rq H
  refine nA (mkT (enc:=eI) (za:=0) h (by rfl)) ?_
  refine aa H λv6 Hj H=>jB ⟨[(8,.v (.c (.w 2 v6.length)))],[(2,w3 v6)],3⟩ ?_ ?_
  .refine iT Hj (λq=>⟨[(8,.v (.c (.w 2 q.2.length))),(28,tI (((ab3 ((a0.bp.length:Int)).toNat (0:Int)).length:Nat):Int)),(29,tI q.1)],[(2,w3 q.2)],3⟩) ?_
   rintro⟨v3,v4⟩ o H
   refine ad ?_
   refine cC H ?_ ?_<;>intro H
   .refine aa H λx7 hx7 H=>nA (xwT hx7) ?_
    refine sA (soT (enc:=eI) (a':=v3) hx7) ?_
    exact aN H
   exact aE H
  exact ao H
 obtain⟨h,H⟩:=rq H
 refine nA (mkT (enc:=eI) (za:=0) h (by rfl)) ?_
 refine aa H λv11 Hj H=>jB ⟨[(8,.v (.c (.w 1 v11.length)))],[(1,w3 v11)],2⟩ ?_ ?_
 .refine iT Hj (λq=>⟨[(8,.v (.c (.w 1 q.2.length))),(28,tI (((ab3 ((a0.bp.length:Int)).toNat (0:Int)).length:Nat):Int)),(29,tI q.1)],[(1,w3 q.2)],2⟩) ?_
  rintro⟨v8,v9⟩ o H
  refine ad ?_
  refine cC H ?_ ?_<;>intro H
  .refine aa H λx12 hx12 H=>nA (xwT hx12) ?_
   refine sA (soT (enc:=eI) (a':=v8) hx12) ?_
   exact aN H
  exact aE H
 cases H
 exact jL⟩
def mE(a0:aG):Option Bool:=
 afW (bW a0.bb 1 8) λr1=>afW (cond r1 (afW (bW a0.aS 0 5) λr3=>cond r3 (afW (bW a0.ae 0 999999) λr4=>cond r4 (afW (bW a0.aK 0 999999) λr5=>cond r5 (afW (bW a0.bP 0 1000000000000) λr6=>ς r6) (ς η)) (ς η)) (ς η)) (ς η)) λ(v2:Bool)=>ς v2
instance UY{a0:aG} :FC prog (mE a0=ς r) 291 [.agg (dE a0)] [.c (.d (.b r))]:=gG func291 ntmps291 (hb 6 2)
def rW(a0:cW)(a1:Int):Option (cW×Bool):=
 afW (kh a0) λr1=>afW (cond (!r1) (ς ζ) (afW (bW a1 0 (WR (a0.cG-a0.d6))) λr3=>ς (!r3))) λ(v2:Bool)=>cond v2 (ς (a0,η)) (ς ({a0 with d6:=WR (a0.d6+a1)},ζ))
instance Wy{a0:cW}{r:cW×Bool}:FC prog (rW a0 a1=ς r) 346 [.agg (oH a0),aI a1] [.agg (qM [] (Bf r.1)),.c (.d (.b r.2))]:=gG func346 ntmps346 (hb 9 18)
def oJ(a0:bF):Option Bool:=
 afW (cond (eqB a0.di 0) (afW (bW a0.gR 1 100000) λr2=>cond r2 (cond (leB (a0.bh.length:Int) 60) (afW (bW a0.kr 0 2147483646) λr3=>ς r3) (ς η)) (ς η)) (cond (eqB a0.di 1) (afW (bW a0.gR 1 100000) λr4=>cond r4 (cond (leB (a0.bh.length:Int) 60) (afW (bW a0.kr 0 2147483646) λr5=>ς r5) (ς η)) (ς η)) (ς η))) λ(v1:Bool)=>ς v1
instance SL{a0:bF} :FC prog (oJ a0=ς r) 180 [.agg (eZ a0)] [.c (.d (.b r))]:=gG func180 ntmps180 (hb 6 2)
def rA(a0:ab)(a1:Int):Option Bool:=
 afW (bW a1 0 (WR ((a0.aj.length:Int)-1))) λr1=>afW (cond r1 (afW (bW a1 0 (WR ((a0.an.length:Int)-1))) λr3=>ς r3) (ς η)) λ(v2:Bool)=>ς v2
instance acT{a0:ab} :FC prog (rA a0 a1=ς r) 47 [.agg (eb a0),aI a1] [.c (.d (.b r))]:=gG func47 ntmps47 (hb 11 4)
def pH(a0:List bI)(a1:List bI):Int->Option (cj (Int) (Bool))
 |v1=>cond (ltB v1 (a0.length:Int)) (afW (ix a0 v1) λx2=>afW (ix a1 v1) λx3=>afW (vS x2.bh x3.bh) λr4=>cond (!r4) (dn (ς η)) (ς (.next (WR (v1+1))))) (dn (ς ζ))
def vT(a0:List bI)(a1:List bI):Option Bool:=
 cond (ltB (a1.length:Int) (a0.length:Int)) (ς η) (iter (pH a0 a1) FU 0)
instance abt{a0:List bI}{a1:List bI} :FC prog (vT a0 a1=ς r) 97 [aL (a0.map eT),aL (a1.map eT)] [.c (.d (.b r))]:=gG func97 ntmps97 (hl 0 13)
def pf(a0:ab)(a1:Int):Option Bool:=
 afW (bW a1 0 (WR ((a0.aT.length:Int)-1))) λr1=>afW (cond r1 (afW (bW a1 0 (WR ((a0.an.length:Int)-1))) λr3=>ς r3) (ς η)) λ(v2:Bool)=>ς v2
instance abE{a0:ab} :FC prog (pf a0 a1=ς r) 53 [.agg (eb a0),aI a1] [.c (.d (.b r))]:=gG func53 ntmps53 (hb 11 4)
def rV(a0:ag)(a1:Int):Option Int:=
 afW (YF a1 0) λr1=>afW (Qr r1 (a0.aC.length:Int)) λr2=>cond (eQ a0.aC 0 r2) (afW (lR (a0.aC.take (r2).toNat)) λr3=>ς r3) ξ
instance Ww{a0:ag}{r:Int}:FC prog (rV a0 a1=ς r) 98 [.agg (cr a0),aI a1] [.c (.d (.i .i64 r))]:=gG func98 ntmps98
def BV(a0:eG)(a1:eG):Option Bool:=
 afW (cond (leB (a0.Steps.length:Int) (a1.Steps.length:Int)) (cond (eQ a1.Steps 0 (a0.Steps.length:Int)) (afW (Hk a0.Steps (a1.Steps.take ((a0.Steps.length:Int)).toNat)) λr2=>ς r2) ξ) (ς η)) λ(v1:Bool)=>ς v1
instance Wz{a0:eG}{a1:eG} :FC prog (BV a0 a1=ς r) 179 [.agg (xy a0),.agg (xy a1)] [.c (.d (.b r))]:=gG func179 ntmps179 (hb 12 4)
end Go.AM
