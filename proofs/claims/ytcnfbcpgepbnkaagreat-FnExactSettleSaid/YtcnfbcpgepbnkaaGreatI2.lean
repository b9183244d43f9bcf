/- A part. -/
import Derived.Test.YtcnfbcpgepbnkaaGreatI0
import Derived.Test.YtcnfbcpgepbnkaaGreatI1
set_option linter.unusedVariables false
open Option renaming some->ς,none->ξ
open Bool renaming true->ζ,false->η
open True renaming intro->θ
open Option renaming bind->aeP
open Int renaming tmod->aeQ
namespace Go.AM
open Go.Proofs
open Tryz
attribute [local irreducible] AWN NS AWO AWR AWC DR DZ cO eB iter
set_option maxRecDepth 100000
set_option maxHeartbeats 40000000
variable{a0 a1 r:Int}
def di(a0:ag)(a1:List aD):Option bm:=
 aeP (iJ a0) λr1=>aeP (fB a1) λr2=>ς (⟨r1,r2⟩:bm)
def UI(a0:Int)(a1:Int):Option Int:=
 aeP (bW a1 1 1000000000000) λr1=>cond (!r1) (ς 0) (cond (!eqB a1 0) (aeP (cond (ltB (aeQ a0 a1) 0) (ς (WR ((aeQ a0 a1)+a1))) (ς (aeQ a0 a1))) λ(v2:Int)=>ς v2) ξ)
instance iMod_c:FC prog (UI a0 a1=ς r) 374 [aI a0,aI a1] [.c (.d (.i .i64 r))]:=gG func374 ntmps374 (hi 13 5)
def nQ(a0:Int)(a1:Int):Option Int:=
 aeP (UI a1 2147483647) λr1=>ς (aeQ (WR ((WR ((WR (a0*1000003))+r1))+13)) 2147483647)
instance adq:FC prog (nQ a0 a1=ς r) 372 [aI a0,aI a1] [.c (.d (.i .i64 r))]:=gG func372 ntmps372
def mK(a1:List Int):(Int×Int)->Option (bJ (Int×Int) (Int))
 |(v2,v3)=>cond (ltB v3 (a1.length:Int)) (aeP (ix a1 v3) λx7=>aeP (nQ v2 x7) λr8=>ς (.next (r8,WR (v3+1)))) (ς (.done v2))
def eH(a0:Int)(a1:List Int):Option Int:=
 aeP (nQ 11 a0) λr1=>aeP (iter (mK a1) FU (r1,0)) λ(v6:Int)=>aeP (nQ v6 a0) λr9=>ς r9
instance abv{a1:List Int} :FC prog (eH a0 a1=ς r) 346 [aI a0,aL (a1.map eI)] [.c (.d (.i .i64 r))]:=gG func346 ntmps346 (hm 0 5 12) (he 0 5 12)
def mL(a0:Int)(a1:Int):Option Int:=
 aeP (eH a0 [1,a1]) λr1=>ς (aeQ r1 1000000)
instance Wc:FC prog (mL a0 a1=ς r) 371 [aI a0,aI a1] [.c (.d (.i .i64 r))]:=gG func371 ntmps371
def lE(a0:Int)(a1:Int)(a2:Int):Option cb:=
 aeP (bW a2 0 999999) λr1=>cond (!r1) (ς db) (aeP (mL a0 a1) λr2=>aeP (eH a0 [2,a1,a2]) λr3=>aeP (eH a0 [3,a1]) λr4=>aeP (eH a0 [4,a1,a2]) λr5=>aeP (cond (eqB r5 0) (ς 1) (ς r5)) λ(v6:Int)=>ς (⟨a1,aeQ (WR (a2+r2)) 1000000,r3,r4,v6⟩:cb))
instance UJ{a2:Int}{r:cb}:FC prog (lE a0 a1 a2=ς r) 345 [aI a0,aI a1,aI a2] [.agg (qM [] (ow r))]:=gG func345 ntmps345 (hC 36 (λ(v:Int) sl ob nx=>⟨sl,uC 4 4 [.d η (.i .i64 v)] ob,nx⟩))
def ru(a0:bI)(a1:Int):Option (bI×cb):=
 aeP (eR a0) λr1=>aeP (cond (!r1) (ς ζ) (ς (eqB a0.df 999999))) λ(v2:Bool)=>cond v2 (ς (a0,db)) (aeP (lE a0.f9 a1 (WR (a0.df+1))) λr3=>ς ({a0 with df:=WR (a0.df+1)},r3))
instance CT{a0:bI}{r:bI×cb}:FC prog (ru a0 a1=ς r) 308 [.agg (eX a0),aI a1] [.agg (qM [] (nK r.1)),.agg (qM [] (ow r.2))]:=gG func308 ntmps308 (hb 9 13) (hz 4)
def oy(a0:cG)(a1:Int):Option Int:=
 aeP (eH 29 [a0.dT,a0.cj,a1]) λr1=>ς r1
instance Ej{a0:cG} :FC prog (oy a0 a1=ς r) 309 [.agg (ie a0),aI a1] [.c (.d (.i .i64 r))]:=gG func309 ntmps309
def oH(a0:ag)(a1:aD):Option bm:=
 aeP (oy a0.bO.ID (WR (a0.bO.df+1))) λr1=>aeP (ru a0.bO r1) λr2=>bif(eqB r2.1.ID.dT a0.bO.ID.dT&&(eqB r2.1.ID.cj a0.bO.ID.cj&&(eqB r2.1.f9 a0.bO.f9&&(eqB r2.1.df a0.bO.df&&ζ)))) then(aeP (di a0 []) λr3=>ς r3) else(aeP (di {a0 with bO:=r2.1,aA:=r2.2,bN:=r2.1.df} [(⟨2,a1.bC,r2.1.df,0,0,r2.2,0⟩:aD)]) λr4=>ς r4)
def pN(a0:cb)(a1:Int):Option Bool:=
 ς (eqB a1 a0.D0)
instance BP{a0:cb}{r:Bool}:FC prog (pN a0 a1=ς r) 310 [.agg (gR a0),aI a1] [.c (.d (.b r))]:=gG func310 ntmps310
def pM(a0:Int)(a1:Int):Option Int:=
 aeP (eH a0 [9,a1]) λr1=>cond (eqB r1 0) (ς 1) (ς r1)
instance abu:FC prog (pM a0 a1=ς r) 350 [aI a0,aI a1] [.c (.d (.i .i64 r))]:=gG func350 ntmps350
def kz(a1:List Int):(Int×Int)->Option (bJ (Int×Int) (Int))
 |(v1,v2)=>cond (ltB v2 (a1.length:Int)) (aeP (ix a1 v2) λx6=>aeP (pM v1 x6) λr7=>ς (.next (r7,WR (v2+1)))) (ς (.done v1))
def xi(a0:Int)(a1:List Int):Option Int:=
 aeP (iter (kz a1) FU (a0,0)) λ(v5:Int)=>ς v5
instance XZ{a1:List Int} :FC prog (xi a0 a1=ς r) 373 [aI a0,aL (a1.map eI)] [.c (.d (.i .i64 r))]:=gG func373 ntmps373 (hm 0 0 9) (he 0 0 9)
def qN(a0:Int)(a1:fj):Option Int:=
 aeP (xi a0 a1.Steps) λr1=>ς r1
instance aaz{a1:fj} :FC prog (qN a0 a1=ς r) 351 [aI a0,.agg (Kn a1)] [.c (.d (.i .i64 r))]:=gG func351 ntmps351
def tC(a0:Int)(a1:aD):Option Int:=
 aeP (oO) λr1=>aeP (qN a0 r1) λr2=>aeP (eH r2 [23,a1.eb,a1.bC,a1.av,a1.a8,a1.cj]) λr3=>ς r3
instance abx{a1:aD} :FC prog (tC a0 a1=ς r) 318 [aI a0,.agg (cP a1)] [.c (.d (.i .i64 r))]:=gG func318 ntmps318
def nP(a0:Int)(a1:aD):Option aD:=
 aeP (tC a0 a1) λr1=>ς {a1 with nJ:=r1}
instance JH{a1:aD}{r:aD}:FC prog (nP a0 a1=ς r) 255 [aI a0,.agg (cP a1)] [.agg (qM [] (fM r))]:=gG func255 ntmps255
def mO(a0:ag)(a1:Int):Option aD:=
 aeP (nP a0.bp (⟨a1,a0.bC,a0.av,a0.a8,0,db,0⟩:aD)) λr1=>ς r1
instance yv{a0:ag}{r:aD}:FC prog (mO a0 a1=ς r) 311 [.agg (aM a0),aI a1] [.agg (qM [] (fM r))]:=gG func311 ntmps311
def lZ(a0:ag)(a1:aD):Option bm:=
 aeP (cond (leB a0.bN 0) (ς ζ) (cond (!eqB a1.av a0.bN) (ς ζ) (aeP (pN a0.aA a1.cj) λr2=>cond (!r2) (ς ζ) (ς (leB 999999 a0.a8))))) λ(v1:Bool)=>cond v1 (aeP (di a0 []) λr3=>ς r3) (aeP (mO (⟨a0.bO,a0.fr,1,db,0,a0.bN,a0.aA.f9,WR (a0.a8+1),a1.bC,0,eA,a0.aS,a0.aC,a0.du,a0.bM⟩:ag) 4) λr4=>aeP (di (⟨a0.bO,a0.fr,1,db,0,a0.bN,a0.aA.f9,WR (a0.a8+1),a1.bC,0,eA,a0.aS,a0.aC,a0.du,a0.bM⟩:ag) [r4]) λr5=>ς r5)
def i7(a0:Int)(a1:aD):Option Bool:=
 aeP (tC a0 a1) λr1=>ς (eqB a1.nJ r1)
instance m9{a1:aD}{r:Bool}:FC prog (i7 a0 a1=ς r) 257 [aI a0,.agg (cP a1)] [.c (.d (.b r))]:=gG func257 ntmps257
def jW(a0:ag)(a1:aD):Option bm:=
 aeP (cond (!eqB a0.bF 1) (ς ζ) (cond (!eqB a1.av a0.av) (ς ζ) (aeP (i7 a0.bp a1) λr2=>ς (!r2)))) λ(v1:Bool)=>cond v1 (aeP (di a0 []) λr3=>ς r3) (aeP (cond (ltB a1.a8 a0.a8) (ς ζ) (cond (eqB a1.a8 a0.a8) (ς (!eqB a1.bC a0.bC)) (ς η))) λ(v4:Bool)=>cond v4 (aeP (di a0 []) λr5=>ς r5) (aeP (mO {a0 with a8:=a1.a8,bC:=a1.bC,dy:=0,fJ:=eA,du:=0} 6) λr6=>aeP (di {a0 with a8:=a1.a8,bC:=a1.bC,dy:=0,fJ:=eA,du:=0} [r6]) λr7=>ς r7))
def qg(a0:cq)(a1:Int):Option (cq×Bool):=
 aeP (i6 a0) λr1=>aeP (cond (!r1) (ς ζ) (aeP (bW a1 0 (WR (a0.cH-a0.et))) λr3=>ς (!r3))) λ(v2:Bool)=>cond v2 (ς (a0,η)) (ς ({a0 with et:=WR (a0.et+a1)},ζ))
instance FF{a0:cq}{r:cq×Bool}:FC prog (qg a0 a1=ς r) 312 [.agg (jT a0),aI a1] [.agg (qM [] (wZ r.1)),.c (.d (.b r.2))]:=gG func312 ntmps312 (hb 9 18)
def jV(a0:ag)(a1:aD):(Int×Int)->Option (bJ (Int×Int) (Int))
 |(v4,v5)=>cond (ltB v5 (a0.aC.ar.length:Int)) (aeP (ix a0.aC.ar v5) λx9=>aeP (cond (ltB x9.df a1.cj) (ς (WR (v4+(x9.be.length:Int)))) (ς v4)) λ(v10:Int)=>ς (.next (v10,WR (v5+1)))) (ς (.done v4))
def m0(a0:ag)(a1:aD):Option bm:=
 aeP (cond (!eqB a0.bF 1) (ς ζ) (cond (!eqB a1.av a0.av) (ς ζ) (aeP (i7 a0.bp a1) λr2=>cond (!r2) (ς ζ) (ς (ltB a0.aC.bw a1.cj))))) λ(v1:Bool)=>cond v1 (aeP (di a0 []) λr3=>ς r3) (aeP (iter (jV a0 a1) FU (0,0)) λ(v8:Int)=>aeP (qg a0.bM v8) λr11=>aeP (kW a0.aC a1.cj) λr12=>aeP (di {a0 with dy:=0,aC:=r12,bM:=r11.1} []) λr13=>ς r13)
def oK(a0:ag)(a1:aD):Option bm:=
 aeP (lD a1) λr1=>cond r1 (cond (eqB a1.eb 1) (aeP (oH a0 a1) λr2=>ς r2) (cond (eqB a1.eb 3) (aeP (lZ a0 a1) λr3=>ς r3) (cond (eqB a1.eb 5) (aeP (jW a0 a1) λr4=>ς r4) (cond (eqB a1.eb 8) (aeP (m0 a0 a1) λr5=>ς r5) (aeP (di a0 []) λr6=>ς r6))))) (aeP (di a0 []) λr7=>ς r7)
def cY(a0:aF)(a1:List aD):Option aZ:=
 aeP (qQ a0) λr1=>aeP (fB a1) λr2=>ς (⟨r1,r2⟩:aZ)
def vF(a0:Int):Option fj:=
 ς (⟨[1,3,a0]⟩:fj)
instance Wb{r:fj}:FC prog (vF a0=ς r) 352 [aI a0] [.agg [.own 3 1 (r.Steps.map eI) r.Steps.length]]:=gG func352 ntmps352
def sY(a0:Int)(a1:Int):Option Int:=
 aeP (vF a1) λr1=>aeP (qN a0 r1) λr2=>ς r2
instance Fg:FC prog (sY a0 a1=ς r) 316 [aI a0,aI a1] [.c (.d (.i .i64 r))]:=gG func316 ntmps316
def nV(a0:Int)(a1:Int)(a2:Int)(a3:List Int):Option Int:=
 aeP (sk a3) λr1=>cond (c8 8 ([a1,a2]++r1).length) (aeP (eH a0 ([a1,a2]++r1)) λr2=>ς r2) ξ
instance aaC{a2:Int}{a3:List Int} :FC prog (nV a0 a1 a2 a3=ς r) 365 [aI a0,aI a1,aI a2,aL (a3.map eU8)] [.c (.d (.i .i64 r))]:=gG func365 ntmps365
def xf(a0:Int)(a1:aV):Option Bool:=
 aeP (nV a0 a1.c7 a1.f8 a1.be) λr1=>ς (eqB a1.nJ r1)
instance aby{a1:aV}{r:Bool}:FC prog (xf a0 a1=ς r) 348 [aI a0,.agg (dL a1)] [.c (.d (.b r))]:=gG func348 ntmps348
def sx(a0:Int)(a1:am):Option Bool:=
 aeP (mZ a1.bH) λr1=>aeP (cond r1 (cond (eqB a1.bH.c7 1) (aeP (sY a0 a1.a8) λr3=>aeP (xf r3 a1.bH) λr4=>ς r4) (ς η)) (ς η)) λ(v2:Bool)=>ς v2
instance zf{a1:am}{r:Bool}:FC prog (sx a0 a1=ς r) 314 [aI a0,.agg (cQ a1)] [.c (.d (.b r))]:=gG func314 ntmps314 (hb 8 4)
def yW(a0:Int)(r1:List Int):(Int×List Int)->Option (bJ (Int×List Int) (List Int))
 |(v2,v3)=>cond (ltB v2 (r1.length:Int)) (aeP (ix v3 v2) λx8=>aeP (eH a0 [v2]) λr9=>aeP (ix v3 v2) λx10=>ς (.next (WR (v2+1),(v3.set (v2).toNat (IntKind.u8.wrap (x8-(IntKind.u8.wrap (aeQ r9 256)))))))) (ς (.done v3))
def CQ(a0:Int)(a1:List Int):Option (List Int):=
 aeP (ev a1) λr1=>aeP (iter (yW a0 r1) FU (0,r1)) λ(v7:List Int)=>ς v7
instance iDecrypt_c{a1:List Int}{r:List Int}:FC prog (CQ a0 a1=ς r) 349 [aI a0,aL (a1.map eU8)] [.c (.own 5 1 (r.map eU8) r.length)]:=gG func349 ntmps349 (hL 0 (λ(v:Int×List Int) sl ob nx=>⟨(5,.v (.c (.w 0 v.2.length)))::(11,tI v.1)::xS [0] sl,[(0,w5 v.2)]++ob,nx⟩)) (hB 0 (λ(v:List Int) sl ob nx=>⟨(5,.v (.c (.w 0 v.length)))::(11,.any)::xS [0] sl,[(0,w5 v)]++ob,nx⟩)) (hz 5)
def xk(a0:Int)(a1:aV):Option (List Int):=
 aeP (pM a0 (WR ((WR (2*a1.f8))+a1.c7))) λr1=>aeP (CQ r1 a1.be) λr2=>ς r2
instance zj{a1:aV}{r:List Int}:FC prog (xk a0 a1=ς r) 315 [aI a0,.agg (dL a1)] [.c (.own 5 1 (r.map eU8) r.length)]:=gG func315 ntmps315
def su(a0:Int)(a1:Int)(a2:Int):Option Int:=
 aeP (bW a2 0 999999) λr1=>cond (!r1) (ς (-1)) (aeP (eH a0 [5,a1,a2]) λr2=>ς (WR ((WR (1000000*(aeQ r2 1000)))+a2)))
instance XY{a2:Int} :FC prog (su a0 a1 a2=ς r) 356 [aI a0,aI a1,aI a2] [.c (.d (.i .i64 r))]:=gG func356 ntmps356
end Go.AM
