/- A part. -/
import Derived.Test.YtigcecmbknoijaaGreatDoorS5
import Derived.Test.YtigcecmbknoijaaGreatDoorS12
set_option linter.unusedVariables false
open Option renaming some->ς,none->ξ
open Bool renaming true->ζ,false->η
open True renaming intro->θ
open Option renaming bind->ZU
namespace Go.AM
open Go.Proofs
open Tryz
attribute [local irreducible] AWN NS AWO AWR AWC DR DZ cM eN iter
set_option maxRecDepth 100000
set_option maxHeartbeats 40000000
def rD(a0:ae):(Int×List ax)->Option (cH (Int×List ax) (List ax))
 |(v2,v3)=>cond (ltB v2 (a0.av.length:Int)) (ZU (ix a0.av v2) λx7=>ZU (jJ x7) λr8=>cond (cN 144 (v3++[r8]).length) (ς (.next (WR (v2+1),(v3++[r8])))) ξ) (ς (.done v3))
def rE(a0:ae):(Int×List ah)->Option (cH (Int×List ah) (List ah))
 |(v9,v10)=>cond (ltB v9 (a0.aD.length:Int)) (ZU (ix a0.aD v9) λx14=>ZU (iF x14) λr15=>cond (cN 288 (v10++[r15]).length) (ς (.next (WR (v9+1),(v10++[r15])))) ξ) (ς (.done v10))
def zy11(a0:ae):(Int×List an)->Option (cH (Int×List an) (List an))
 |(v16,v17)=>cond (ltB v16 (a0.bD.length:Int)) (ZU (ix a0.bD v16) λx21=>ZU (kB x21) λr22=>cond (cN 48 (v17++[r22]).length) (ς (.next (WR (v16+1),(v17++[r22])))) ξ) (ς (.done v17))
def zy12(a0:ae):(Int×List bJ)->Option (cH (Int×List bJ) (List bJ))
 |(v23,v24)=>cond (ltB v23 (a0.aV.length:Int)) (ZU (ix a0.aV v23) λx28=>ZU (qw x28) λr29=>cond (cN 176 (v24++[r29]).length) (ς (.next (WR (v23+1),(v24++[r29])))) ξ) (ς (.done v24))
def vQ(a0:ae):Option ae:=
 ZU (oP a0.d5) λr1=>ZU (iter (rD a0) FU (0,([]:List ax))) λ(v6:List ax)=>ZU (iter (rE a0) FU (0,([]:List ah))) λ(v13:List ah)=>ZU (iter (zy11 a0) FU (0,([]:List an))) λ(v20:List an)=>ZU (iter (zy12 a0) FU (0,([]:List bJ))) λ(v27:List bJ)=>ς (⟨r1,v6,v13,v20,v27,a0.cP,a0.gT,a0.lI,a0.Lost⟩:ae)
instance CW{a0:ae}{r:ae}:FCV prog (vQ a0=ς r) 101 [] [.v (.agg (kM [.f,.f,.f,.f,.f] (bw a0)))] [] (.v (.agg (kM [.t,.n 210,.n 211,.n 212,.n 213] (bw r)))) [(210,n60 r.av),(211,n76 r.aD),(212,n26 r.bD),(213,n85 r.aV)]:=gV func101 ntmps101 (hL 0 (λ(v:Int×List ax) sl ob nx=>⟨(4,tI v.1)::xS [213] sl,[(213,n60 v.2)]++(uC 212 1 [.wn 213 v.2.length] ob),214⟩)) (hB 0 (λ(v:List ax) sl ob nx=>⟨(4,.any)::xS [213] sl,[(213,n60 v)]++(uC 212 1 [.wn 213 v.length] ob),214⟩)) (hx 34) (hz 5) (hL 2 (λ(v:Int×List ah) sl ob nx=>⟨(5,tI v.1)::xS [214,213] sl,[(214,n76 v.2)]++(uC 212 2 [.wn 214 v.2.length] ob),215⟩)) (hB 2 (λ(v:List ah) sl ob nx=>⟨(5,.any)::xS [214,213] sl,[(214,n76 v)]++(uC 212 2 [.wn 214 v.length] ob),215⟩)) (hx 52) (hz 9) (hL 4 (λ(v:Int×List an) sl ob nx=>⟨(6,tI v.1)::xS [215,213,214] sl,[(215,n26 v.2)]++(uC 212 3 [.wn 215 v.2.length] ob),216⟩)) (hB 4 (λ(v:List an) sl ob nx=>⟨(6,.any)::xS [215,213,214] sl,[(215,n26 v)]++(uC 212 3 [.wn 215 v.length] ob),216⟩)) (hx 70) (hz 13) (hL 6 (λ(v:Int×List bJ) sl ob nx=>⟨(7,tI v.1)::xS [216,213,214,215] sl,[(216,n85 v.2)]++(uC 212 4 [.wn 216 v.2.length] ob),217⟩)) (hB 6 (λ(v:List bJ) sl ob nx=>⟨(7,.any)::xS [216,213,214,215] sl,[(216,n85 v)]++(uC 212 4 [.wn 216 v.length] ob),217⟩)) (hx 88) (hz 17) (hx 10) (hz 1)
def GC(a0:aj):Option (Int×bC×aj):=
 ZU (o5 a0) λr1=>ZU (a9 r1.2 2) λr2=>ZU (a9 r2.2 9) λr3=>ZU (a9 r3.2 6) λr4=>ZU (nj r4.2 r4.1) λr5=>ZU (sO r1.1 r2.1 (WR (1+r3.1)) r5.1) λr6=>ς (r1.1,r6,r5.2)
instance sl8Draw_c{a0:aj}{r:Int×bC×aj}:FCW prog (GC a0=ς r) 105 (.var 115 (kM [.f] (aO a0))) [tP 200] (.var 115 (kM [.f] (aO r.2.2))) [.c (.d (.i .i64 r.1)),.agg (qM [.o] (gO r.2.1))]:=gW func105 ntmps105
def zy13(a0:aj):Option (Int×bC×aj):=
 ZU (GC a0) λr1=>ZU (a9 r1.2.2 12) λr2=>ZU (cond (eqB r2.1 0) (ZU (a9 r2.2 4) λr13=>ς (r1.1,r13.2,{r1.2.1 with dQ:=WR (r13.1-1)})) (ZU (cond (eqB r2.1 1) (ZU (fg r2.2 [0,100000,100001,WR (r1.2.1.eJ+1)]) λr24=>ς (r1.1,r24.2,{r1.2.1 with eJ:=r24.1})) (ZU (cond (eqB r2.1 2) (ZU (ud r2.2) λr33=>ς (r1.1,r33.2,{r1.2.1 with kf:=r33.1})) (ZU (cond (eqB r2.1 3) (cond (cN 1 (r1.2.1.bm++[1]).length) (ς (r1.1,(r1.2.1.bm++[1]),r2.2)) ξ) (ZU (cond (eqB r2.1 4) (ZU (a9 r2.2 3) λr46=>cond (u6 1 (WR (59+r46.1)) (WR (59+r46.1))) (ς (r1.1,(List.replicate (WR (59+r46.1)).toNat (0:Int)),r46.2)) ξ) (ZU (cond (eqB r2.1 5) (ς (WR (r1.1+1))) (ς r1.1)) λ(v47:Int)=>ς (v47,r1.2.1.bm,r2.2))) λ((v40,v44,v45):Int×List Int×aj)=>ς (v40,v44,v45))) λ((v34,v38,v39):Int×List Int×aj)=>ς (v34,v39,{r1.2.1 with bm:=v38}))) λ((v25,v31,v32):Int×aj×bC)=>ς (v25,v31,v32))) λ((v14,v22,v23):Int×aj×bC)=>ς (v14,v22,v23))) λ((v3,v11,v12):Int×aj×bC)=>ς (v3,v12,v11)
instance sl8Any_c{a0:aj}{r:Int×bC×aj}:FCW prog (zy13 a0=ς r) 62 (.var 115 (kM [.f] (aO a0))) [tP 200] (.var 115 (kM [.f] (aO r.2.2))) [.c (.d (.i .i64 r.1)),.agg (qM [.o] (gO r.2.1))]:=gW func62 ntmps62 (hC 13 (λ(v:Int×aj×bC) sl ob nx=>⟨(4,tI v.1)::xS [211] sl,oM [.w 211] 212 81 (gO v.2.2)++[(200,.var 115 (kM [.f] (aO v.2.1)))]++ob,nx⟩)) (hC 19 (λ(v:Int×aj×bC) sl ob nx=>⟨(4,tI v.1)::xS [211] sl,oM [.w 211] 212 81 (gO v.2.2)++[(200,.var 115 (kM [.f] (aO v.2.1)))]++ob,nx⟩)) (hC 28 (λ(v:Int×aj×bC) sl ob nx=>⟨(4,tI v.1)::xS [211] sl,oM [.w 211] 212 81 (gO v.2.2)++[(200,.var 115 (kM [.f] (aO v.2.1)))]++ob,nx⟩)) (hC 33 (λ(v:Int×List Int×aj) sl ob nx=>⟨(4,tI v.1)::(6,.any)::(8,.any)::xS [211] sl,[(200,.var 115 (kM [.f] (aO v.2.2))),(211,w5 v.2.1)]++(uC 212 2 [.w 211 v.2.1.length] ob),nx⟩)) (hC 40 (λ(v:Int×List Int×aj) sl ob nx=>⟨(4,tI v.1)::xS [213,211] sl,[(200,.var 115 (kM [.f] (aO v.2.2))),(213,w5 v.2.1)]++(uC 212 2 [.w 213 v.2.1.length] (fO [211] ob)),214⟩)) (hi 47 4) (hz 15)
end Go.AM
