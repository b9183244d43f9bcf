/- A part. -/
import Derived.Test.YtfbpfflnhfcmaaaGreatG
set_option linter.unusedVariables false
open Option renaming some->ς,none->ξ
open Bool renaming true->ζ,false->η
open True renaming intro->θ
open Option renaming bind->afW
open List renaming replicate->ab3
namespace Go.AM
open Go.Proofs
open Tryz
attribute [local irreducible] AWN NS AWO AWR AWC DR DZ dm gK iter
set_option maxRecDepth 100000
set_option maxHeartbeats 40000000
variable{a1:Int}{r:Bool}
def bW(a0:Int)(a1:Int)(a2:Int):Option Bool:=
 afW (cond (leB a1 a0) (ς (leB a0 a2)) (ς η)) λ(v1:Bool)=>ς v1
instance Cs{a0:Int}{a2:Int} :FC prog (bW a0 a1 a2=ς r) 40 [aI a0,aI a1,aI a2] [.c (.d (.b r))]:=gG func40 ntmps40 (hb 10 6)
def lE(a0:List Int):Int->Option (cj (Int) (Bool))
 |v1=>cond (ltB v1 (a0.length:Int)) (afW (ix a0 (WR (v1-1))) λx2=>afW (ix a0 v1) λx3=>cond (leB x3 x2) (dn (ς η)) (ς (.next (WR (v1+1))))) (dn (ς ζ))
def qf(a0:List Int):Option Bool:=
 iter (lE a0) FU 1
instance YR{a0:List Int} :FC prog (qf a0=ς r) 125 [aL (a0.map eI)] [.c (.d (.b r))]:=gG func125 ntmps125 (hl 0 3)
def uU(a0:List bI):Int->Option (cj (Int) (Bool))
 |v1=>cond (ltB v1 (a0.length:Int)) (afW (ix a0 v1) λx2=>cond (ltB 60 (x2.bh.length:Int)) (dn (ς η)) (ς (.next (WR (v1+1))))) (dn (ς ζ))
def wc(a0:List bI):Option Bool:=
 iter (uU a0) FU 0
instance abD{a0:List bI} :FC prog (wc a0=ς r) 221 [aL (a0.map eT)] [.c (.d (.b r))]:=gG func221 ntmps221 (hl 0 7)
def kh(a0:cW):Option Bool:=
 afW (cond (leB 0 a0.aO) (cond (leB 0 a0.d6) (cond (leB a0.d6 a0.cG) (ς (leB a0.cG 100000)) (ς η)) (ς η)) (ς η)) λ(v1:Bool)=>ς v1
instance WA{a0:cW} :FC prog (kh a0=ς r) 106 [.agg (oH a0)] [.c (.d (.b r))]:=gG func106 ntmps106 (hb 6 2)
def vS(a0:List Int)(a1:List Int):Option Bool:=
 afW (De a0 a1) λr1=>ς r1
instance abr{a0:List Int}{a1:List Int} :FC prog (vS a0 a1=ς r) 176 [aL (a0.map eU8),aL (a1.map eU8)] [.c (.d (.b r))]:=gG func176 ntmps176
def qh(a0:List ah):(Int×Int)->Option (cj (Int×Int) (Int))
 |(v1,v2)=>cond (ltB v2 (a0.length:Int)) (afW (ix a0 v2) λx5=>ς (.next (WR (v1+(x5.bh.length:Int)),WR (v2+1)))) (ς (.done v1))
def qg(a0:List ah):Option Int:=
 afW (iter (qh a0) FU (0,0)) λ(v4:Int)=>ς v4
instance Va{a0:List ah}{r:Int}:FC prog (qg a0=ς r) 302 [aL (a0.map bC)] [.c (.d (.i .i64 r))]:=gG func302 ntmps302 (hm 0 3 8) (he 0 3 8)
def pY(a0:av):(Int×Int)->Option (cj (Int×Int) (Int))
 |(v1,v2)=>cond (ltB v2 (a0.aD.length:Int)) (afW (ix a0.aD v2) λx5=>ς (.next (WR (v1+x5.eo),WR (v2+1)))) (ς (.done v1))
def pV(a0:av):Option Int:=
 afW (iter (pY a0) FU (0,0)) λ(v4:Int)=>ς v4
instance U4{a0:av}{r:Int}:FC prog (pV a0=ς r) 223 [.agg (dw a0)] [.c (.d (.i .i64 r))]:=gG func223 ntmps223 (hm 0 3 9) (he 0 3 9)
def jQ(a0:av)(a1:Int):Int->Option (cj (Int) (Int))
 |v1=>cond (ltB v1 (a0.aD.length:Int)) (afW (ix a0.aD v1) λx2=>cond (eqB x2.aO a1) (dn (ς v1)) (ς (.next (WR (v1+1))))) (dn (ς (-1)))
def gv(a0:av)(a1:Int):Option Int:=
 iter (jQ a0 a1) FU 0
instance PF{a0:av}{r:Int}:FC prog (gv a0 a1=ς r) 303 [.agg (dw a0),aI a1] [.c (.d (.i .i64 r))]:=gG func303 ntmps303 (hl 0 10)
def ul(a0:List Int):Option (List Int):=
 cond (rF 8 (a0.length:Int) (a0.length:Int)) (ς (cpL (ab3 ((a0.length:Int)).toNat (0:Int)) a0)) ξ
instance aez{a0:List Int}{r:List Int}:FC prog (ul a0=ς r) 160 [aL (a0.map eI)] [.c (.own 3 1 (r.map eI) r.length)]:=gG func160 ntmps160
def fy(a0:List Int):Option (List Int):=
 cond (rF 1 (a0.length:Int) (a0.length:Int)) (ς (cpL (ab3 ((a0.length:Int)).toNat (0:Int)) a0)) ξ
instance tQ{a0:List Int}{r:List Int}:FC prog (fy a0=ς r) 263 [aL (a0.map eU8)] [.c (.own 5 1 (r.map eU8) r.length)]:=gG func263 ntmps263
def gh(a0:List aU):Option (List aU):=
 cond (rF 16 (a0.length:Int) (a0.length:Int)) (ς (cpL (ab3 ((a0.length:Int)).toNat dQ) a0)) ξ
instance Fj{a0:List aU}{r:List aU}:FC prog (gh a0=ς r) 165 [aL (a0.map ci)] [.c (.own 165 2 (r.map ci) r.length)]:=gG func165 ntmps165
def gr(a0:List aG):Option (List aG):=
 cond (rF 88 (a0.length:Int) (a0.length:Int)) (ς (cpL (ab3 ((a0.length:Int)).toNat fH) a0)) ξ
instance Jh{a0:List aG}{r:List aG}:FC prog (gr a0=ς r) 282 [aL (a0.map dE)] [.c (.own 42 11 (r.map dE) r.length)]:=gG func282 ntmps282
def oi(a0:aA):Option aG:=
 ς {fH with bb:=1,aS:=a0.aS}
instance WK{a0:aA}{r:aG}:FC prog (oi a0=ς r) 204 [.agg (dR a0)] [.agg (qM [] (ij r))]:=gG func204 ntmps204
def pU:Option eG:=
 ς (⟨[1,2]⟩:eG)
instance PD{r:eG}:FC prog (pU=ς r) 372 [] [.agg [.own 3 1 (r.Steps.map eI) r.Steps.length]]:=gG func372 ntmps372
def Qr(a0:Int)(a1:Int):Option Int:=
 cond (ltB a1 a0) (ς a1) (ς a0)
instance iMin_c{a0:Int}{r:Int}:FC prog (Qr a0 a1=ς r) 177 [aI a0,aI a1] [.c (.d (.i .i64 r))]:=gG func177 ntmps177
def nz(a0:av)(a1:Int):Option av:=
 cond (eQ a0.aD 0 a1) (cond (da 16 (([]:List aU)++(a0.aD.take (a1).toNat)).length) (cond (eQ a0.aD (WR (a1+1)) a0.aD.length) (cond (da 16 ((([]:List aU)++(a0.aD.take (a1).toNat))++(a0.aD.drop (WR (a1+1)).toNat)).length) (ς {a0 with aD:=((([]:List aU)++(a0.aD.take (a1).toNat))++(a0.aD.drop (WR (a1+1)).toNat))}) ξ) ξ) ξ) ξ
instance Qy{a0:av}{r:av}:FC prog (nz a0 a1=ς r) 338 [.agg (dw a0),aI a1] [.agg (qM [.o] (dB r))]:=gG func338 ntmps338
def FJ(a0:be)(a1:Int):(Int×List Int)->Option (cj (Int×List Int) (List Int))
 |(v1,v2)=>cond (ltB v1 (a0.bp.length:Int)) (afW (ix a0.bp v1) λx6=>afW (cond (eqB x6.fF a1) (cond (da 8 (v2++[v1]).length) (ς (v2++[v1])) ξ) (ς v2)) λ(v7:List Int)=>ς (.next (WR (v1+1),v7))) (ς (.done v2))
def yz(a0:be)(a1:Int):Option (List Int):=
 afW (iter (FJ a0 a1) FU (0,([]:List Int))) λ(v5:List Int)=>ς v5
instance Hh{a0:be}{r:List Int}:FC prog (yz a0 a1=ς r) 373 [.agg (gM a0),aI a1] [.c (.own 3 1 (r.map eI) r.length)]:=gG func373 ntmps373 (hL 0 (λ(v:Int×List Int) sl ob nx=>⟨(5,.v (.c (.w 1 v.2.length)))::(12,tI v.1)::xS [1] sl,[(1,w3 v.2)]++ob,nx⟩)) (hB 0 (λ(v:List Int) sl ob nx=>⟨(5,.v (.c (.w 1 v.length)))::(12,.any)::xS [1] sl,[(1,w3 v)]++ob,nx⟩)) (hC 20 (λ(v:List Int) sl ob nx=>⟨(5,.v (.c (.w 1 v.length)))::xS [1] sl,[(1,w3 v)]++ob,nx⟩))
def oc(a0:Int):Option eG:=
 ς (⟨[1,3,a0]⟩:eG)
instance WB{a0:Int}{r:eG}:FC prog (oc a0=ς r) 100 [aI a0] [.agg [.own 3 1 (r.Steps.map eI) r.Steps.length]]:=gG func100 ntmps100
def lB(a0:List Int):(Int×List Int)->Option (cj (Int×List Int) (List Int))
 |(v1,v2)=>cond (ltB v1 (a0.length:Int)) (afW (ix a0 v1) λx5=>cond (da 8 (v2++[WR (x5)]).length) (ς (.next (WR (v1+1),(v2++[WR (x5)])))) ξ) (ς (.done v2))
def tG(a0:List Int):Option (List Int):=
 cond (rF 8 0 (WR ((a0.length:Int)+1))) (cond (da 8 ((ab3 ((0:Int)).toNat (0:Int))++[(a0.length:Int)]).length) (afW (iter (lB a0) FU (0,((ab3 ((0:Int)).toNat (0:Int))++[(a0.length:Int)]))) λ(v4:List Int)=>ς v4) ξ) ξ
instance YA{a0:List Int}{r:List Int}:FC prog (tG a0=ς r) 324 [aL (a0.map eU8)] [.c (.own 3 1 (r.map eI) r.length)]:=gG func324 ntmps324 (hL 0 (λ(v:Int×List Int) sl ob nx=>⟨(3,.v (.c (.w 0 v.2.length)))::(17,tI v.1)::xS [0] sl,[(0,w3 v.2)]++ob,nx⟩)) (hB 0 (λ(v:List Int) sl ob nx=>⟨(3,.v (.c (.w 0 v.length)))::(17,.any)::xS [0] sl,[(0,w3 v)]++ob,nx⟩))
def YF(a0:Int)(a1:Int):Option Int:=
 cond (ltB a0 a1) (ς a1) (ς a0)
instance iMax_c{a0:Int}{r:Int}:FC prog (YF a0 a1=ς r) 178 [aI a0,aI a1] [.c (.d (.i .i64 r))]:=gG func178 ntmps178
def sS(a0:ab)(a1:Int):Option (bg×ab):=
 afW (ix a0.aH a1) λx1=>cond (rF 176 0 (a0.aH.length:Int)) (cond (eQ a0.aH 0 a1) (cond (da 176 ((ab3 ((0:Int)).toNat fT)++(a0.aH.take (a1).toNat)).length) (cond (eQ a0.aH (WR (a1+1)) a0.aH.length) (cond (da 176 (((ab3 ((0:Int)).toNat fT)++(a0.aH.take (a1).toNat))++(a0.aH.drop (WR (a1+1)).toNat)).length) (ς (x1,{a0 with aH:=(((ab3 ((0:Int)).toNat fT)++(a0.aH.take (a1).toNat))++(a0.aH.drop (WR (a1+1)).toNat))})) ξ) ξ) ξ) ξ) ξ
instance abH{a0:ab}{r:bg×ab}:FCV prog (sS a0 a1=ς r) 167 (nI a0) [tP 200,tI a1] (nI r.2) (.v (.agg (kM [.t] (pD r.1)))) []:=gV func167 ntmps167
def rv(a0:ct)(a1:Int):Option Bool:=
 ς (eqB a1 a0.vB)
instance Qt{a0:ct} :FC prog (rv a0 a1=ς r) 344 [.agg (ni a0),aI a1] [.c (.d (.b r))]:=gG func344 ntmps344
def sm(a0:a9)(a1:Int):Int->Option (cj (Int) (Bool))
 |v1=>cond (ltB v1 (a0.aV.length:Int)) (afW (ix a0.aV v1) λx2=>cond (eqB x2.cH a1) (dn (ς ζ)) (ς (.next (WR (v1+1))))) (dn (ς η))
def Cu(a0:a9)(a1:Int):Option Bool:=
 iter (sm a0 a1) FU 0
instance acU{a0:a9} :FC prog (Cu a0 a1=ς r) 348 [.agg (iJ a0),aI a1] [.c (.d (.b r))]:=gG func348 ntmps348 (hl 0 10)
def f9(a0:ag):Option Int:=
 ς (WR ((WR (a0.ax.bw-1))-(a0.ax.aJ.length:Int)))
instance LA{a0:ag}{r:Int}:FC prog (f9 a0=ς r) 48 [.agg (cr a0)] [.c (.d (.i .i64 r))]:=gG func48 ntmps48
def jj(a0:List bI):(Int×Int)->Option (cj (Int×Int) (Int))
 |(v1,v2)=>cond (ltB v2 (a0.length:Int)) (afW (ix a0 v2) λx5=>ς (.next (WR (v1+(x5.bh.length:Int)),WR (v2+1)))) (ς (.done v1))
def lR(a0:List bI):Option Int:=
 afW (iter (jj a0) FU (0,0)) λ(v4:Int)=>ς v4
instance WP{a0:List bI}{r:Int}:FC prog (lR a0=ς r) 54 [aL (a0.map eT)] [.c (.d (.i .i64 r))]:=gG func54 ntmps54 (hm 0 3 8) (he 0 3 8)
def Hk(a0:List Int)(a1:List Int):Option Bool:=
 afW (qX a0 a1) λr1=>ς r1
instance acO{a0:List Int}{a1:List Int} :FC prog (Hk a0 a1=ς r) 268 [aL (a0.map eI),aL (a1.map eI)] [.c (.d (.b r))]:=gG func268 ntmps268
def yC(a0:ab):Option Bool:=
 ς (eqB (a0.aH.length:Int) 0)
instance YB{a0:ab} :FC prog (yC a0=ς r) 16 [.agg (eb a0)] [.c (.d (.b r))]:=gG func16 ntmps16
end Go.AM
