/- A part. -/
import Derived.Test.YtfbpfflnhfcmaaaGreatS5
import Derived.Test.YtfbpfflnhfcmaaaGreatS7
import Derived.Test.YtfbpfflnhfcmaaaGreatS8
import Derived.Test.YtfbpfflnhfcmaaaGreatS9
set_option linter.unusedVariables false
open Option renaming some->ς,none->ξ
open Bool renaming true->ζ,false->η
open True renaming intro->θ
open Option renaming bind->acE
namespace Go.AM
open Go.Proofs
open Tryz
attribute [local irreducible] AWN NS AWO AWR AWC DR DZ du gr iter
set_option maxRecDepth 100000
set_option maxHeartbeats 40000000
def u9(a0:ae):(Int×List aC)->Option (ci (Int×List aC) (List aC))
 |(v2,v3)=>cond (ltB v2 (a0.ax.length:Int)) (acE (ix a0.ax v2) λx7=>acE (lr x7) λr8=>cond (cW 144 (v3++[r8]).length) (ς (.next (WR (v2+1),(v3++[r8])))) ξ) (ς (.done v3))
def va(a0:ae):(Int×List ag)->Option (ci (Int×List ag) (List ag))
 |(v9,v10)=>cond (ltB v9 (a0.aJ.length:Int)) (acE (ix a0.aJ v9) λx14=>acE (ju x14) λr15=>cond (cW 288 (v10++[r15]).length) (ς (.next (WR (v9+1),(v10++[r15])))) ξ) (ς (.done v10))
def vb(a0:ae):(Int×List aj)->Option (ci (Int×List aj) (List aj))
 |(v16,v17)=>cond (ltB v16 (a0.bD.length:Int)) (acE (ix a0.bD v16) λx21=>acE (mw x21) λr22=>cond (cW 48 (v17++[r22]).length) (ς (.next (WR (v16+1),(v17++[r22])))) ξ) (ς (.done v17))
def vc(a0:ae):(Int×List bA)->Option (ci (Int×List bA) (List bA))
 |(v23,v24)=>cond (ltB v23 (a0.aT.length:Int)) (acE (ix a0.aT v23) λx28=>acE (t7 x28) λr29=>cond (cW 176 (v24++[r29]).length) (ς (.next (WR (v23+1),(v24++[r29])))) ξ) (ς (.done v24))
def zH(a0:ae):Option ae:=
 acE (ry a0.d7) λr1=>acE (iter (u9 a0) FU (0,([]:List aC))) λ(v6:List aC)=>acE (iter (va a0) FU (0,([]:List ag))) λ(v13:List ag)=>acE (iter (vb a0) FU (0,([]:List aj))) λ(v20:List aj)=>acE (iter (vc a0) FU (0,([]:List bA))) λ(v27:List bA)=>ς (⟨r1,v6,v13,v20,v27,a0.cF,a0.fP,a0.lV,a0.Lost⟩:ae)
instance G8{a0:ae}{r:ae}:FCV prog (zH a0=ς r) 73 [] [.v (.agg (kM [.f,.f,.f,.f,.f] (bF a0)))] [] (.v (.agg (kM [.t,.n 210,.n 211,.n 212,.n 213] (bF r)))) [(210,n67 r.ax),(211,n93 r.aJ),(212,Bp r.bD),(213,n48 r.aT)]:=gV func73 ntmps73 (hL 0 (λ(v:Int×List aC) sl ob nx=>⟨(4,tI v.1)::xS [213] sl,[(213,n67 v.2)]++(uC 212 1 [.wn 213 v.2.length] ob),214⟩)) (hB 0 (λ(v:List aC) sl ob nx=>⟨(4,.any)::xS [213] sl,[(213,n67 v)]++(uC 212 1 [.wn 213 v.length] ob),214⟩)) (hx 34) (hz 5) (hL 2 (λ(v:Int×List ag) sl ob nx=>⟨(5,tI v.1)::xS [214,213] sl,[(214,n93 v.2)]++(uC 212 2 [.wn 214 v.2.length] ob),215⟩)) (hB 2 (λ(v:List ag) sl ob nx=>⟨(5,.any)::xS [214,213] sl,[(214,n93 v)]++(uC 212 2 [.wn 214 v.length] ob),215⟩)) (hx 52) (hz 9) (hL 4 (λ(v:Int×List aj) sl ob nx=>⟨(6,tI v.1)::xS [215,213,214] sl,[(215,Bp v.2)]++(uC 212 3 [.wn 215 v.2.length] ob),216⟩)) (hB 4 (λ(v:List aj) sl ob nx=>⟨(6,.any)::xS [215,213,214] sl,[(215,Bp v)]++(uC 212 3 [.wn 215 v.length] ob),216⟩)) (hx 70) (hz 13) (hL 6 (λ(v:Int×List bA) sl ob nx=>⟨(7,tI v.1)::xS [216,213,214,215] sl,[(216,n48 v.2)]++(uC 212 4 [.wn 216 v.2.length] ob),217⟩)) (hB 6 (λ(v:List bA) sl ob nx=>⟨(7,.any)::xS [216,213,214,215] sl,[(216,n48 v)]++(uC 212 4 [.wn 216 v.length] ob),217⟩)) (hx 88) (hz 17) (hx 10) (hz 1)
def xO(a0:ae)(a1:Int):Option Bool:=
 acE (ix a0.ax a1) λx1=>acE (ix a0.aJ a1) λx2=>acE (py x1) λr3=>acE (cond (!r3) (ς ζ) (acE (lp x2) λr5=>cond (!r5) (ς ζ) (acE (ix a0.bD a1) λx6=>acE (gp x6) λr7=>cond (!r7) (ς ζ) (cond (!(eqB x1.dO.ID.d4 x2.bT.ID.d4&&(eqB x1.dO.ID.bZ x2.bT.ID.bZ&&ζ))) (ς ζ) (ς (!eqB x1.dO.fA x2.bT.fA)))))) λ(v4:Bool)=>cond v4 (ς η) (acE (cond (ltB x1.bh (a0.d7.bp.length:Int)) (cond (ltB x2.bh (a0.d7.bp.length:Int)) (cond (eqB x2.bX.aO a1) (acE (ix a0.bD a1) λx9=>acE (fY x9 x2.bX) λr10=>ς r10) (ς η)) (ς η)) (ς η)) λ(v8:Bool)=>ς v8)
instance aao{a0:ae}{a1:Int}{r:Bool}:FC prog (xO a0 a1=ς r) 60 [.agg (g5 a0),aI a1] [.c (.d (.b r))]:=gG func60 ntmps60 (hb 20 51) (hb 59 4)
def iQ(a0:ae):Int->Option (ci (Int) (Bool))
 |v6=>cond (ltB v6 (a0.aT.length:Int)) (acE (ix a0.aT v6) λx7=>acE (dD x7.bj 0 (WR ((a0.ax.length:Int)-1))) λr8=>acE (cond (!r8) (ς ζ) (acE (ix a0.aT v6) λx10=>acE (dD x10.bh 0 (WR ((a0.d7.bp.length:Int)-1))) λr11=>ς (!r11))) λ(v9:Bool)=>cond v9 (dn (ς η)) (ς (.next (WR (v6+1))))) (dn (cond (leB 0 (a0.d7.bp.length:Int)) (acE (dD a0.cF 0 (WR ((mD .i64 1 (a0.d7.bp.length:Int))-1))) λr12=>acE (cond r12 (acE (dD a0.lV 0 100000) λr14=>cond r14 (ς (leB 0 a0.Lost)) (ς η)) (ς η)) λ(v13:Bool)=>ς v13) ξ))
def iO(a0:ae):Int->Option (ci (Int) (Bool))
 |v4=>cond (ltB v4 (a0.ax.length:Int)) (acE (xO a0 v4) λr5=>cond (!r5) (dn (ς η)) (ς (.next (WR (v4+1))))) (dn (iter (iQ a0) FU 0))
def lj(a0:ae):Option Bool:=
 acE (rj a0.d7) λr1=>acE (cond (!r1) (ς ζ) (acE (mJ a0.fP) λr3=>cond (!r3) (ς ζ) (cond (eqB a0.fP.fj 0) (ς ζ) (cond (ltB 4 (a0.ax.length:Int)) (ς ζ) (cond (!eqB (a0.aJ.length:Int) (a0.ax.length:Int)) (ς ζ) (cond (!eqB (a0.bD.length:Int) (a0.ax.length:Int)) (ς ζ) (ς (ltB 200 (a0.aT.length:Int))))))))) λ(v2:Bool)=>cond v2 (ς η) (iter (iO a0) FU 0)
instance QK{a0:ae}{r:Bool}:FC prog (lj a0=ς r) 21 [.agg (g5 a0)] [.c (.d (.b r))]:=gG func21 ntmps21 (hb 9 50) (hl 0 3) (hl 2 4) (hb 81 95) (hb 105 2)
def GN(a0:Int)(a1:Int)(a2:Int)(a3:List Int):Option bw:=
 acE (qo a0 (WR ((WR (2*a2))+a1))) λr1=>acE (CC r1 a3) λr2=>acE (DC a0 (⟨a1,a2,r2,0⟩:bw)) λr3=>ς (⟨a1,a2,r2,r3⟩:bw)
instance sProtect_c{a0:Int}{a1:Int}{a2:Int}{a3:List Int}{r:bw}:FC prog (GN a0 a1 a2 a3=ς r) 305 [aI a0,aI a1,aI a2,aL (a3.map eU8)] [.agg (qM [.o] (p7 r))]:=gG func305 ntmps305
def qq(a0:Int)(a1:Int)(a2:Int)(a3:ab):Option aD:=
 acE (s9 a0 a2) λr1=>acE (GN r1 1 a3.cX a3.bk) λr2=>ς (⟨a1,a2,r2⟩:aD)
instance KE{a0:Int}{a1:Int}{a2:Int}{a3:ab}{r:aD}:FC prog (qq a0 a1 a2 a3=ς r) 240 [aI a0,aI a1,aI a2,.agg (aX a3)] [.agg (qM [.o] (jy r))]:=gG func240 ntmps240 (hz 1)
def zG(a0:ag)(a1:ab):Option aD:=
 acE (qq a0.bg a0.ah a0.aY a1) λr1=>ς r1
instance OJ{a0:ag}{a1:ab}{r:aD}:FC prog (zG a0 a1=ς r) 353 [.agg (cp a0),.agg (aX a1)] [.agg (qM [.o] (jy r))]:=gG func353 ntmps353
def kj(a0:ag):(Int×List aD)->Option (ci (Int×List aD) (List aD))
 |(v1,v2)=>acE (cond (ltB v1 (a0.aK.aF.length:Int)) (cond (ltB v1 2) (ς (eqB a0.bz 1)) (ς η)) (ς η)) λ(v7:Bool)=>cond v7 (acE (ix a0.aK.aF v1) λx8=>acE (zG a0 x8) λr9=>cond (cW 64 (v2++[r9]).length) (ς (.next (WR (v1+1),(v2++[r9])))) ξ) (ς (.done v2))
def oA(a0:ag):Option (List aD):=
 acE (iter (kj a0) FU (0,([]:List aD))) λ(v6:List aD)=>ς v6
instance A0{a0:ag}{r:List aD}:FC prog (oA a0=ς r) 316 [.agg (cp a0)] [.c (.own 46 6 (r.map dr) r.length)]:=gG func316 ntmps316 (hL 0 (λ(v:Int×List aD) sl ob nx=>⟨(3,.v (.c (.w 1 v.2.length)))::(4,tI v.1)::xS [1] sl,[(1,w46 v.2)]++ob,nx⟩)) (hB 0 (λ(v:List aD) sl ob nx=>⟨(3,.v (.c (.w 1 v.length)))::(4,.any)::xS [1] sl,[(1,w46 v)]++ob,nx⟩)) (hb 12 20) (hx 31) (hz 5)
def kh(a0:ag)(a1:aG):Option bN:=
 acE (cond (leB a0.bG 0) (ς ζ) (cond (!eqB a1.ah a0.bG) (ς ζ) (acE (qp a0.aA a1.bZ) λr2=>cond (!r2) (ς ζ) (ς (leB 999999 a0.aY))))) λ(v1:Bool)=>cond v1 (acE (pQ a0) λr3=>ς r3) (acE (ju a0) λr4=>acE (t0 (⟨r4.bT,r4.gB,1,cH,0,a0.bG,a0.aA.fA,WR (a0.aY+1),a1.bh,0,ev,r4.aS,r4.aK,r4.dL,r4.bX⟩:ag) 4) λr5=>ς r5)
instance Oy{a0:ag}{a1:aG}{r:bN}:FC prog (kh a0 a1=ς r) 331 [.agg (cp a0),.agg (dM a1)] [.agg (qM [.d,.d,.d,.o] (eh r))]:=gG func331 ntmps331 (hb 9 28)
def kQ(a0:ag)(a1:aG):Option bN:=
 acE (wK a0 a1) λr1=>acE (cond (!r1) (ς ζ) (cond (ltB a1.aY a0.aY) (ς ζ) (cond (eqB a1.aY a0.aY) (ς (!eqB a1.bh a0.bh)) (ς η)))) λ(v2:Bool)=>cond v2 (acE (pQ a0) λr3=>ς r3) (acE (ju a0) λr4=>acE (t0 {r4 with aY:=a1.aY,bh:=a1.bh,dQ:=0,f6:=ev,dL:=0} 6) λr5=>ς r5)
instance MC{a0:ag}{a1:aG}{r:bN}:FC prog (kQ a0 a1=ς r) 358 [.agg (cp a0),.agg (dM a1)] [.agg (qM [.d,.d,.d,.o] (eh r))]:=gG func358 ntmps358 (hb 10 30)
end Go.AM
