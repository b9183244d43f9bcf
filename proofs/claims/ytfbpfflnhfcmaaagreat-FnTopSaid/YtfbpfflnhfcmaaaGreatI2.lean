/- A part. -/
import Derived.Test.YtfbpfflnhfcmaaaGreatI1
set_option linter.unusedVariables false
open Option renaming some->ς,none->ξ
open Bool renaming true->ζ,false->η
open True renaming intro->θ
open Option renaming bind->afW
namespace Go.AM
open Go.Proofs
open Tryz
attribute [local irreducible] AWN NS AWO AWR AWC DR DZ dm gK iter
set_option maxRecDepth 100000
set_option maxHeartbeats 40000000
variable{a0:Go.AM.ab}{a1:Int}{r:Bool}
def xc(a0:be)(a1:Int)(a2:Int):Option Bool:=
 afW (mh a0 a1) λr1=>afW (cond r1 (afW (ix a0.bp a1) λx3=>afW (gZ x3.cY a2) λr4=>ς r4) (ς η)) λ(v2:Bool)=>ς v2
instance Wv{a0:be}{a2:Int} :FC prog (xc a0 a1 a2=ς r) 126 [.agg (gM a0),aI a1,aI a2] [.c (.d (.b r))]:=gG func126 ntmps126 (hb 10 6)
def pM(a0:mw):Option Bool:=
 afW (it a0.ID) λr1=>afW (cond r1 (afW (ip a0.eV) λr3=>cond r3 (afW (bW a0.dh 0 999999) λr4=>ς r4) (ς η)) (ς η)) λ(v2:Bool)=>ς v2
instance YE{a0:mw} :FC prog (pM a0=ς r) 214 [.agg (GZ a0)] [.c (.d (.b r))]:=gG func214 ntmps214 (hb 6 2)
def fP(a0:a8):Option Bool:=
 afW (it a0.ID) λr1=>afW (cond r1 (afW (ip a0.eV) λr3=>cond r3 (afW (bW a0.cH 0 999999) λr4=>ς r4) (ς η)) (ς η)) λ(v2:Bool)=>ς v2
instance Hm{a0:a8} :FC prog (fP a0=ς r) 217 [.agg (eB a0)] [.c (.d (.b r))]:=gG func217 ntmps217 (hb 6 2)
def ga(a0:av)(a1:cW):Option Bool:=
 afW (iK a0) λr1=>afW (cond r1 (afW (kh a1) λr3=>cond r3 (afW (pT a0 a1.aO) λr4=>ς (eqB r4 a1.cG)) (ς η)) (ς η)) λ(v2:Bool)=>ς v2
instance LE{a0:av}{a1:cW} :FC prog (ga a0 a1=ς r) 130 [.agg (dw a0),.agg (oH a1)] [.c (.d (.b r))]:=gG func130 ntmps130 (hb 7 4)
def om(a0:a9):Option a9:=
 afW (lQ a0.aV) λr1=>afW (ol a0.bv) λr2=>ς (⟨a0.bw,r1,r2⟩:a9)
instance WN{a0:a9}{r:a9}:FC prog (om a0=ς r) 161 [.agg (iJ a0)] [.agg (qM [.o,.o] (c7 r))]:=gG func161 ntmps161 (hz 1)
def mI(a0:bk):Option bk:=
 afW (lQ a0.aJ) λr1=>ς (⟨a0.bw,r1⟩:bk)
instance sh{a0:bk}{r:bk}:FC prog (mI a0=ς r) 164 [.agg (gY a0)] [.agg (qM [.o] (eL r))]:=gG func164 ntmps164 (hz 1)
def yG(a0:aF):Option aF:=
 afW (tR a0.bO) λr1=>ς {a0 with bO:=r1}
instance acS{a0:aF}{r:aF}:FC prog (yG a0=ς r) 166 [.agg (df a0)] [.agg (qM [.o] (kf r))]:=gG func166 ntmps166
def gS(a0:List av):(Int×List av)->Option (cj (Int×List av) (List av))
 |(v1,v2)=>cond (ltB v1 (a0.length:Int)) (afW (ix a0 v1) λx7=>afW (fD x7) λr8=>afW (ix v2 v1) λx9=>ς (.next (WR (v1+1),(v2.set (v1).toNat r8)))) (ς (.done v2))
def fJ(a0:List av):Option (List av):=
 cond (rF 48 (a0.length:Int) (a0.length:Int)) (afW (iter (gS a0) FU (0,(List.replicate ((a0.length:Int)).toNat BL))) λ(v6:List av)=>ς v6) ξ
instance Ah{a0:List av}{r:List av}:FCV prog (fJ a0=ς r) 88 [] [.v (.c (.d η (.l (a0.map dw)))),.v (.c (.fn 89))] [] (.v (.c (.w 210 r.length))) [(210,w107 r)]:=gV func88 ntmps88 (hL 0 (λ(v:Int×List av) sl ob nx=>⟨(5,.v (.c (.w 210 v.2.length)))::(13,tI v.1)::xS [210] sl,[(210,w107 v.2)]++ob,nx⟩)) (hB 0 (λ(v:List av) sl ob nx=>⟨(5,.v (.c (.w 210 v.length)))::(13,.any)::xS [210] sl,[(210,w107 v)]++ob,nx⟩))
def ph(a0:Int)(a1:Int):Option Int:=
 afW (UZ a1 2147483647) λr1=>ς (Int.tmod (WR ((WR ((WR (a0*1000003))+r1))+13)) 2147483647)
instance aeA{a0:Int}{r:Int}:FC prog (ph a0 a1=ς r) 325 [aI a0,aI a1] [.c (.d (.i .i64 r))]:=gG func325 ntmps325
def LB(a0:av)(a1:Int)(a2:Int):Option (av×Bool):=
 afW (fD a0) λr1=>afW (iK a0) λr2=>afW (cond (!r2) (ς ζ) (afW (pT a0 a1) λr4=>afW (bW a2 0 r4) λr5=>ς (!r5))) λ(v3:Bool)=>cond v3 (ς (r1,η)) (afW (gv r1 a1) λr6=>cond (ltB r6 0) (ς (r1,ζ)) (afW (ix r1.aD r6) λx7=>afW (ix r1.aD r6) λx8=>afW (ix (r1.aD.set (r6).toNat (⟨x8.aO,WR (x7.eo-a2)⟩:aU)) r6) λx9=>afW (cond (eqB x9.eo 0) (afW (nz {r1 with d9:=WR (r1.d9+a2),aD:=(r1.aD.set (r6).toNat (⟨x8.aO,WR (x7.eo-a2)⟩:aU))} r6) λr15=>ς r15) (ς {r1 with d9:=WR (r1.d9+a2),aD:=(r1.aD.set (r6).toNat (⟨x8.aO,WR (x7.eo-a2)⟩:aU))})) λ(v14:av)=>ς (v14,ζ)))
instance iDebit_c{a0:av}{a2:Int}{r:av×Bool}:FC prog (LB a0 a1 a2=ς r) 284 [.agg (dw a0),aI a1,aI a2] [.agg (qM [.o] (dB r.1)),.c (.d (.b r.2))]:=gG func284 ntmps284 (hb 15 22) (hC 51 (λ(v:av) sl ob nx=>⟨xS [4,2] sl,oM [.w 4] 3 107 (dB v)++fO [2] ob,5⟩))
def F5(a0:be)(a1:Int):Option Int:=
 afW (mh a0 a1) λr1=>cond (!r1) (ς (-1)) (afW (ix a0.bp a1) λx2=>ς x2.fF)
instance iAreaOf_c{a0:be}{r:Int}:FC prog (F5 a0 a1=ς r) 285 [.agg (gM a0),aI a1] [.c (.d (.i .i64 r))]:=gG func285 ntmps285
def wa(a0:cm)(a1:be):Option (cm×List Int):=
 cond (ltB 0 a0.dy) (ς ({a0 with dy:=WR (a0.dy-1)},([]:List Int))) (afW (cond (ltB a0.dJ 4) (ς (WR (a0.dJ+1))) (ς 1)) λ(v1:Int)=>afW (tK a1 a0.fF v1) λr2=>ς ((⟨a0.fF,v1,3⟩:cm),r2))
instance abA{a0:cm}{a1:be}{r:cm×List Int}:FC prog (wa a0 a1=ς r) 286 [.agg (rS a0),.agg (gM a1)] [.agg (qM [] (nY r.1)),.c (.own 3 1 (r.2.map eI) r.2.length)]:=gG func286 ntmps286 (hC 17 (λ(v:Int) sl ob nx=>⟨sl,[(0,.var 87 (kM [] (nY {a0 with dJ:=v})))]++ob,nx⟩)) (hz 8)
def pN(a0:ag)(a1:Int):Option Int:=
 afW (jO a0) λr1=>afW (jG a0.bG) λr2=>afW (YF 0 (WR ((WR (r1+a1))-r2))) λr3=>ς r3
instance Ho{a0:ag}{r:Int}:FC prog (pN a0 a1=ς r) 289 [.agg (cr a0),aI a1] [.c (.d (.i .i64 r))]:=gG func289 ntmps289
def vX(a1:Int)(r1:av):Int->Option (cj (Int) (Int))
 |v9=>afW (cond (ltB v9 (r1.aD.length:Int)) (afW (ix r1.aD v9) λx14=>ς (ltB x14.aO a1)) (ς η)) λ(v13:Bool)=>cond v13 (ς (.next (WR (v9+1)))) (ς (.done v9))
def Dk(a0:av)(a1:Int)(a2:Int):Option (av×Int):=
 afW (fD a0) λr1=>afW (iK a0) λr2=>afW (cond (!r2) (ς ζ) (cond (ltB a1 0) (ς ζ) (afW (bW a2 1 100000) λr4=>cond (!r4) (ς ζ) (ς (eqB a0.bL 0))))) λ(v3:Bool)=>cond v3 (ς (r1,0)) (afW (Qr a2 a0.bL) λr5=>afW (gv a0 a1) λr6=>cond (leB 0 r6) (afW (ix r1.aD r6) λx7=>afW (ix r1.aD r6) λx8=>ς ({r1 with bL:=WR (r1.bL-r5),aD:=(r1.aD.set (r6).toNat (⟨x8.aO,WR (x7.eo+r5)⟩:aU))},r5)) (cond (leB 8 (a0.aD.length:Int)) (ς (r1,0)) (afW (iter (vX a1 r1) FU 0) λ(v12:Int)=>cond (da 16 (r1.aD++[dQ]).length) (cond (eQ (r1.aD++[dQ]) (WR (v12+1)) (r1.aD++[dQ]).length) (cond (eQ (r1.aD++[dQ]) v12 (r1.aD++[dQ]).length) (afW (ix (cpD (r1.aD++[dQ]) (WR (v12+1)).toNat ((r1.aD++[dQ]).drop (v12).toNat)) v12) λx15=>ς ({r1 with bL:=WR (r1.bL-r5),aD:=((cpD (r1.aD++[dQ]) (WR (v12+1)).toNat ((r1.aD++[dQ]).drop (v12).toNat)).set (v12).toNat (⟨a1,r5⟩:aU))},r5)) ξ) ξ) ξ)))
instance iReserve_c{a0:av}{a2:Int}{r:av×Int}:FC prog (Dk a0 a1 a2=ς r) 375 [.agg (dw a0),aI a1,aI a2] [.agg (qM [.o] (dB r.1)),.c (.d (.i .i64 r.2))]:=gG func375 ntmps375 (hb 17 30) (hl 0 11) (he 0 11 11) (hb 68 77) (hz 16)
def uj(a0:ab)(a1:Int):Option Bool:=
 afW (mh a0.cp a1) λr1=>afW (cond r1 (cond (ltB a1 6) (cond (leB 0 a1) (ς (eqB (yo .i64 (Cf .i64 a0.bH a1) 1) 0)) ξ) (ς η)) (ς η)) λ(v2:Bool)=>ς v2
instance aex:FC prog (uj a0 a1=ς r) 50 [.agg (eb a0),aI a1] [.c (.d (.b r))]:=gG func50 ntmps50 (hb 9 4)
def sM(a0:bQ)(a1:Int):Option Bool:=
 afW (kY a0) λr1=>afW (cond r1 (afW (bW a1 0 (WR (a0.fU-1))) λr3=>cond r3 (cond (leB 0 a1) (ς (eqB (yo .i64 (Cf .i64 a0.fZ a1) 1) 1)) ξ) (ς η)) (ς η)) λ(v2:Bool)=>ς v2
instance abu{a0:bQ} :FC prog (sM a0 a1=ς r) 172 [.agg (jK a0),aI a1] [.c (.d (.b r))]:=gG func172 ntmps172 (hb 7 4)
def tM(a0:bQ)(a1:Int)(a2:Bool):Option bQ:=
 afW (kY a0) λr1=>afW (cond (!r1) (ς ζ) (afW (bW a1 0 (WR (a0.fU-1))) λr3=>ς (!r3))) λ(v2:Bool)=>cond v2 (ς a0) (afW (cond a2 (cond (leB 0 a1) (ς (bOr .i64 a0.fZ (nO .i64 1 a1))) ξ) (cond (leB 0 a1) (ς (yp .i64 a0.fZ (nO .i64 1 a1))) ξ)) λ(v4:Int)=>ς (⟨a0.fU,v4⟩:bQ))
instance YJ{a0:bQ}{a2:Bool}{r:bQ}:FC prog (tM a0 a1 a2=ς r) 173 [.agg (jK a0),aI a1,aB a2] [.agg (qM [] (tE r))]:=gG func173 ntmps173 (hb 10 17) (hC 19 (λ(v:Int) sl ob nx=>⟨sl,[(0,.var 32 (kM [] (tE (⟨a0.fU,v⟩:bQ))))]++ob,nx⟩)) (hz 4) (hz 5)
def ma(a0:ab)(a1:Int):Option Bool:=
 afW (rA a0 a1) λr1=>afW (cond r1 (afW (ix a0.aj a1) λx3=>afW (ix a0.an a1) λx4=>afW (vT x3.bm.bv x4.aC) λr5=>ς r5) (ς η)) λ(v2:Bool)=>ς v2
instance PA:FC prog (ma a0 a1=ς r) 37 [.agg (eb a0),aI a1] [.c (.d (.b r))]:=gG func37 ntmps37 (hb 8 4)
def nZ(a0:ab)(a1:Int):Option Int:=
 afW (pf a0 a1) λr1=>cond (!r1) (ς (-1)) (afW (ix a0.aT a1) λx2=>afW (ix a0.an a1) λx3=>ς (WR (x2.d9+x3.bG.d6)))
instance Wx{r:Int}:FC prog (nZ a0 a1=ς r) 55 [.agg (eb a0),aI a1] [.c (.d (.i .i64 r))]:=gG func55 ntmps55
def gq(a0:ab)(a1:Int):Option Bool:=
 afW (rA a0 a1) λr1=>afW (cond r1 (afW (ix a0.an a1) λx3=>afW (f9 x3) λr4=>afW (ix a0.aj a1) λx5=>ς (leB r4 (x5.bm.bv.length:Int))) (ς η)) λ(v2:Bool)=>ς v2
instance FH:FC prog (gq a0 a1=ς r) 39 [.agg (eb a0),aI a1] [.c (.d (.b r))]:=gG func39 ntmps39 (hb 8 4)
def Ad(a0:List kc)(a1:Int)(a2:eG):Int->Option (cj (Int) (Bool))
 |v1=>cond (ltB v1 (a0.length:Int)) (afW (ix a0 v1) λx2=>afW (cond (eqB x2.ae a1) (afW (BV x2.Path a2) λr4=>ς r4) (ς η)) λ(v3:Bool)=>cond v3 (dn (ς ζ)) (ς (.next (WR (v1+1))))) (dn (ς η))
def Hl(a0:List kc)(a1:Int)(a2:eG):Option Bool:=
 iter (Ad a0 a1 a2) FU 0
instance iExposes_c{a0:List kc}{a2:eG} :FC prog (Hl a0 a1 a2=ς r) 99 [aL (a0.map z6),aI a1,.agg (xy a2)] [.c (.d (.b r))]:=gG func99 ntmps99 (hl 0 11) (hb 19 24)
def ro(a0:ab)(a1:Int):Option Bool:=
 afW (rA a0 a1) λr1=>cond (!r1) (ς η) (afW (ix a0.an a1) λx2=>afW (ix a0.aj a1) λx3=>afW (cond (eqB (x3.bm.bv.length:Int) (x2.aC.length:Int)) (afW (f9 x2) λr5=>ς (eqB r5 (x2.aC.length:Int))) (ς η)) λ(v4:Bool)=>ς v4)
instance aey:FC prog (ro a0 a1=ς r) 14 [.agg (eb a0),aI a1] [.c (.d (.b r))]:=gG func14 ntmps14 (hb 27 4)
end Go.AM
