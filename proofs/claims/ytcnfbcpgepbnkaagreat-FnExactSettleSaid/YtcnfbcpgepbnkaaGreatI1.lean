/- A part. -/
import Derived.Test.YtcnfbcpgepbnkaaGreatG
set_option linter.unusedVariables false
open Option renaming some->ς,none->ξ
open Bool renaming true->ζ,false->η
open True renaming intro->θ
open Option renaming bind->aeP
namespace Go.AM
open Go.Proofs
open Tryz
attribute [local irreducible] AWN NS AWO AWR AWC DR DZ cO eB iter
set_option maxRecDepth 100000
set_option maxHeartbeats 40000000
variable{r a1:Int}
def kA(a0:List Int):Int->Option (bJ (Int) (Bool))
 |v1=>cond (ltB v1 (a0.length:Int)) (aeP (ix a0 (WR (v1-1))) λx2=>aeP (ix a0 v1) λx3=>cond (leB x3 x2) (dn (ς η)) (ς (.next (WR (v1+1))))) (dn (ς ζ))
def oS(a0:List Int):Option Bool:=
 iter (kA a0) FU 1
instance X2{a0:List Int}{r:Bool}:FC prog (oS a0=ς r) 157 [aL (a0.map eI)] [.c (.d (.b r))]:=gG func157 ntmps157 (hl 0 3)
def tD(a0:List aP):Int->Option (bJ (Int) (Bool))
 |v1=>cond (ltB v1 (a0.length:Int)) (aeP (ix a0 v1) λx2=>cond (ltB 60 (x2.be.length:Int)) (dn (ς η)) (ς (.next (WR (v1+1))))) (dn (ς ζ))
def uU(a0:List aP):Option Bool:=
 iter (tD a0) FU 0
instance aaB{a0:List aP}{r:Bool}:FC prog (uU a0=ς r) 241 [aL (a0.map b9)] [.c (.d (.b r))]:=gG func241 ntmps241 (hl 0 7)
def i6(a0:cq):Option Bool:=
 aeP (cond (leB 0 a0.ax) (cond (leB 0 a0.et) (cond (leB a0.et a0.cH) (ς (leB a0.cH 100000)) (ς η)) (ς η)) (ς η)) λ(v1:Bool)=>ς v1
instance Wa{a0:cq}{r:Bool}:FC prog (i6 a0=ς r) 240 [.agg (jT a0)] [.c (.d (.b r))]:=gG func240 ntmps240 (hb 6 2)
def yY(a0:List Int)(a1:List Int):Option Bool:=
 aeP (CL a0 a1) λr1=>ς r1
instance aax{a0:List Int}{a1:List Int}{r:Bool}:FC prog (yY a0 a1=ς r) 242 [aL (a0.map eU8),aL (a1.map eU8)] [.c (.d (.b r))]:=gG func242 ntmps242
def oW(a0:List ab):(Int×Int)->Option (bJ (Int×Int) (Int))
 |(v1,v2)=>cond (ltB v2 (a0.length:Int)) (aeP (ix a0 v2) λx5=>ς (.next (WR (v1+(x5.be.length:Int)),WR (v2+1)))) (ς (.done v1))
def oV(a0:List ab):Option Int:=
 aeP (iter (oW a0) FU (0,0)) λ(v4:Int)=>ς v4
instance UO{a0:List ab} :FC prog (oV a0=ς r) 306 [aL (a0.map an)] [.c (.d (.i .i64 r))]:=gG func306 ntmps306 (hm 0 3 8) (he 0 3 8)
def iI(a0:ag):Option Int:=
 aeP (oV a0.aC.ar) λr1=>ς r1
instance PZ{a0:ag} :FC prog (iI a0=ς r) 243 [.agg (aM a0)] [.c (.d (.i .i64 r))]:=gG func243 ntmps243
def kw(a0:cq):Option Int:=
 aeP (i6 a0) λr1=>cond (!r1) (ς 0) (ς (WR (a0.cH-a0.et)))
instance SE{a0:cq} :FC prog (kw a0=ς r) 244 [.agg (jT a0)] [.c (.d (.i .i64 r))]:=gG func244 ntmps244
def oQ(a0:aj):(Int×Int)->Option (bJ (Int×Int) (Int))
 |(v1,v2)=>cond (ltB v2 (a0.ak.length:Int)) (aeP (ix a0.ak v2) λx5=>ς (.next (WR (v1+x5.dq),WR (v2+1)))) (ς (.done v1))
def oP(a0:aj):Option Int:=
 aeP (iter (oQ a0) FU (0,0)) λ(v4:Int)=>ς v4
instance UK{a0:aj} :FC prog (oP a0=ς r) 245 [.agg (bj a0)] [.c (.d (.i .i64 r))]:=gG func245 ntmps245 (hm 0 3 9) (he 0 3 9)
def iK(a0:aj)(a1:Int):Int->Option (bJ (Int) (Int))
 |v1=>cond (ltB v1 (a0.ak.length:Int)) (aeP (ix a0.ak v1) λx2=>cond (eqB x2.ax a1) (dn (ς v1)) (ς (.next (WR (v1+1))))) (dn (ς (-1)))
def fC(a0:aj)(a1:Int):Option Int:=
 iter (iK a0 a1) FU 0
instance rR{a0:aj} :FC prog (fC a0 a1=ς r) 307 [.agg (bj a0),aI a1] [.c (.d (.i .i64 r))]:=gG func307 ntmps307 (hl 0 10)
def oN(a0:aj)(a1:Int):Option Int:=
 aeP (fC a0 a1) λr1=>cond (ltB r1 0) (ς 0) (aeP (ix a0.ak r1) λx2=>ς x2.dq)
instance HD{a0:aj} :FC prog (oN a0 a1=ς r) 246 [.agg (bj a0),aI a1] [.c (.d (.i .i64 r))]:=gG func246 ntmps246
def fB(a0:List aD):Option (List aD):=
 cond (jh 88 (a0.length:Int) (a0.length:Int)) (ς (cpL (List.replicate ((a0.length:Int)).toNat gq) a0)) ξ
instance mM{a0:List aD}{r:List aD}:FC prog (fB a0=ς r) 272 [aL (a0.map cP)] [.c (.own 147 11 (r.map cP) r.length)]:=gG func272 ntmps272
def oO:Option fj:=
 ς (⟨[1,2]⟩:fj)
instance P0{r:fj}:FC prog (oO=ς r) 353 [] [.agg [.own 3 1 (r.Steps.map eI) r.Steps.length]]:=gG func353 ntmps353
def kv(a0:List Int):(Int×List Int)->Option (bJ (Int×List Int) (List Int))
 |(v1,v2)=>cond (ltB v1 (a0.length:Int)) (aeP (ix a0 v1) λx5=>cond (c8 8 (v2++[WR (x5)]).length) (ς (.next (WR (v1+1),(v2++[WR (x5)])))) ξ) (ς (.done v2))
def sk(a0:List Int):Option (List Int):=
 cond (jh 8 0 (WR ((a0.length:Int)+1))) (cond (c8 8 ((List.replicate ((0:Int)).toNat (0:Int))++[(a0.length:Int)]).length) (aeP (iter (kv a0) FU (0,((List.replicate ((0:Int)).toNat (0:Int))++[(a0.length:Int)]))) λ(v4:List Int)=>ς v4) ξ) ξ
instance XS{a0:List Int}{r:List Int}:FC prog (sk a0=ς r) 378 [aL (a0.map eU8)] [.c (.own 3 1 (r.map eI) r.length)]:=gG func378 ntmps378 (hL 0 (λ(v:Int×List Int) sl ob nx=>⟨(3,.v (.c (.w 0 v.2.length)))::(17,tI v.1)::xS [0] sl,[(0,w3 v.2)]++ob,nx⟩)) (hB 0 (λ(v:List Int) sl ob nx=>⟨(3,.v (.c (.w 0 v.length)))::(17,.any)::xS [0] sl,[(0,w3 v)]++ob,nx⟩))
def qm(a0:aB)(a1:Int):Int->Option (bJ (Int) (Bool))
 |v1=>cond (ltB v1 (a0.aA.length:Int)) (aeP (ix a0.aA v1) λx2=>cond (eqB x2.df a1) (dn (ς ζ)) (ς (.next (WR (v1+1))))) (dn (ς η))
def BS(a0:aB)(a1:Int):Option Bool:=
 iter (qm a0 a1) FU 0
instance abz{a0:aB}{r:Bool}:FC prog (BS a0 a1=ς r) 317 [.agg (dW a0),aI a1] [.c (.d (.b r))]:=gG func317 ntmps317 (hl 0 10)
def FE(a0:aU)(a1:Int):(Int×List Int)->Option (bJ (Int×List Int) (List Int))
 |(v1,v2)=>cond (ltB v1 (a0.bh.length:Int)) (aeP (ix a0.bh v1) λx6=>aeP (cond (eqB x6.eO a1) (cond (c8 8 (v2++[v1]).length) (ς (v2++[v1])) ξ) (ς v2)) λ(v7:List Int)=>ς (.next (WR (v1+1),v7))) (ς (.done v2))
def xa(a0:aU)(a1:Int):Option (List Int):=
 aeP (iter (FE a0 a1) FU (0,([]:List Int))) λ(v5:List Int)=>ς v5
instance Hu{a0:aU}{r:List Int}:FC prog (xa a0 a1=ς r) 363 [.agg (eh a0),aI a1] [.c (.own 3 1 (r.map eI) r.length)]:=gG func363 ntmps363 (hL 0 (λ(v:Int×List Int) sl ob nx=>⟨(5,.v (.c (.w 1 v.2.length)))::(12,tI v.1)::xS [1] sl,[(1,w3 v.2)]++ob,nx⟩)) (hB 0 (λ(v:List Int) sl ob nx=>⟨(5,.v (.c (.w 1 v.length)))::(12,.any)::xS [1] sl,[(1,w3 v)]++ob,nx⟩)) (hC 20 (λ(v:List Int) sl ob nx=>⟨(5,.v (.c (.w 1 v.length)))::xS [1] sl,[(1,w3 v)]++ob,nx⟩))
def iMax(a0:Int)(a1:Int):Option Int:=
 cond (ltB a0 a1) (ς a1) (ς a0)
instance iMax_c{a0:Int} :FC prog (iMax a0 a1=ς r) 332 [aI a0,aI a1] [.c (.d (.i .i64 r))]:=gG func332 ntmps332
end Go.AM
