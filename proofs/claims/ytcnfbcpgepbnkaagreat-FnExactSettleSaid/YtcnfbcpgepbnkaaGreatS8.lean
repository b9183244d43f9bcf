/- A part. -/
import Derived.Test.YtcnfbcpgepbnkaaGreatS3
import Derived.Test.YtcnfbcpgepbnkaaGreatS4
import Derived.Test.YtcnfbcpgepbnkaaGreatS5
set_option linter.unusedVariables false
open Option renaming some->ς,none->ξ
open Bool renaming true->ζ,false->η
open True renaming intro->θ
open Option renaming bind->aeP
namespace Go.AM
open Go.Proofs
open Tryz
attribute [local irreducible] AWN NS AWO AWR AWC DR DZ cO eB iter
set_option maxRecDepth 100000
set_option maxHeartbeats 40000000
def nE(a0:ag)(a1:aD):Option bm:=
 aeP (wH a0 a1) λr1=>aeP (cond (!r1) (ς ζ) (ς (ltB a0.aC.bw a1.cj))) λ(v2:Bool)=>cond v2 (aeP (pD a0) λr3=>ς r3) (aeP (kN a0) λr4=>aeP (lq a0.aC a1.cj) λr5=>aeP (qc a0.aC.ar) λr6=>aeP (qc r5.ar) λr7=>aeP (qz a0.bM (WR (r6-r7))) λr8=>ς (⟨{r4 with dy:=0,aC:=r5,bM:=r8.1},([]:List aD)⟩:bm))
instance TS{a0:ag}{a1:aD}{r:bm}:FC prog (nE a0 a1=ς r) 213 [.agg (aM a0),.agg (cP a1)] [.agg (qM [.o,.o,.o,.o] (cV r))]:=gG func213 ntmps213 (hb 12 19) (hz 5)
def A4(a0:aF)(a1:aD):Option aZ:=
 aeP (mH a0.ea a1.cW) λr1=>aeP (pC a0) λr2=>cond (!eqB r1.2.Code 0) (ς (⟨r2,([]:List aD)⟩:aZ)) (ς (⟨{r2 with ea:=r1.1,av:=a1.av,bp:=r1.2.wP},[(⟨3,a0.bC,a1.av,0,r1.2.D0,db,0⟩:aD)]⟩:aZ))
instance adW{a0:aF}{a1:aD}{r:aZ}:FC prog (A4 a0 a1=ς r) 218 [.agg (bG a0),.agg (cP a1)] [.agg (qM [.o,.o,.o] (cU r))]:=gG func218 ntmps218
def pv(a0:aF)(a1:aD):Option aZ:=
 aeP (lN a1) λr1=>aeP (cond (!r1) (ς ζ) (cond (!eqB a1.bC a0.bC) (ς ζ) (ς (eqB a0.bF 0)))) λ(v2:Bool)=>cond v2 (aeP (Ah a0) λr3=>ς r3) (aeP (pC a0) λr4=>aeP (cond (eqB a1.eb 2) (ς (eqB a0.bF 1)) (ς η)) λ(v5:Bool)=>cond v5 (aeP (A4 a0 a1) λr6=>ς r6) (aeP (cond (eqB a1.eb 4) (cond (eqB a0.bF 1) (aeP (gZ a0.bp) λr8=>cond r8 (cond (eqB a1.av a0.av) (aeP (kR a0.bp a1) λr9=>ς r9) (ς η)) (ς η)) (ς η)) (ς η)) λ(v7:Bool)=>cond v7 (ς (⟨{r4 with bF:=2,a8:=a1.a8,bR:=ζ},([]:List aD)⟩:aZ)) (aeP (cond (eqB a1.eb 6) (cond (eqB a0.bF 2) (cond (eqB a1.av a0.av) (cond (eqB a1.a8 a0.a8) (aeP (kR a0.bp a1) λr11=>ς r11) (ς η)) (ς η)) (ς η)) (ς η)) λ(v10:Bool)=>cond v10 (ς (⟨{r4 with bR:=ζ},([]:List aD)⟩:aZ)) (aeP (cond (eqB a1.eb 7) (cond (eqB a0.bF 3) (ς (ltB a0.a8 999999)) (ς η)) (ς η)) λ(v12:Bool)=>cond v12 (aeP (DJ {r4 with bF:=2}) λr13=>ς r13) (aeP (cond (eqB a1.eb 7) (ς (eqB a0.bF 2)) (ς η)) λ(v14:Bool)=>cond v14 (aeP (wG a0) λr15=>aeP (rf {r4 with bR:=η} r15) λr16=>ς r16) (ς (⟨r4,([]:List aD)⟩:aZ)))))))
instance VR{a0:aF}{a1:aD}{r:aZ}:FC prog (pv a0 a1=ς r) 136 [.agg (bG a0),.agg (cP a1)] [.agg (qM [.d,.d,.o] (cU r))]:=gG func136 ntmps136 (hb 9 20) (hb 29 25) (hb 41 37) (hb 73 69) (hb 103 99) (hb 120 116) (hz 17)
def ve(a0:aF):Option aZ:=
 aeP (pC a0) λr1=>cond (ltB 0 a0.eG) (ς (⟨{r1 with eG:=WR (a0.eG-1)},([]:List aD)⟩:aZ)) (cond (eqB a0.bF 1) (aeP (Cm a0) λr2=>aeP (rf r1 r2) λr3=>ς r3) (aeP (cond (eqB a0.bF 2) (ς (!a0.bR)) (ς η)) λ(v4:Bool)=>cond v4 (aeP (wG a0) λr5=>aeP (rf r1 r5) λr6=>ς r6) (ς (⟨r1,([]:List aD)⟩:aZ))))
instance aaR{a0:aF}{r:aZ}:FC prog (ve a0=ς r) 181 [.agg (bG a0)] [.agg (qM [.d,.d,.o] (cU r))]:=gG func181 ntmps181 (hz 5) (hb 26 22) (hz 7)
def sN(a0:aj)(a1:cq):Option (aj×cq):=
 aeP (fm a0 a1) λr1=>cond (!r1) (aeP (mU a0) λr2=>ς (r2,a1)) (aeP (MH a0 a1.ax a1.et) λr3=>ς (r3.1,(⟨a1.ax,WR (a1.cH-a1.et),0⟩:cq)))
instance IT{a0:aj}{a1:cq}{r:aj×cq}:FC prog (sN a0 a1=ς r) 268 [.agg (bj a0),.agg (jT a1)] [.agg (qM [.o] (cp r.1)),.agg (qM [] (wZ r.2))]:=gG func268 ntmps268 (hz 2) (hz 4)
def IR(a0:Int)(a1:Int)(a2:Int)(a3:List Int):Option aV:=
 aeP (p8 a0 (WR ((WR (2*a2))+a1))) λr1=>aeP (DE r1 a3) λr2=>aeP (EX a0 (⟨a1,a2,r2,0⟩:aV)) λr3=>ς (⟨a1,a2,r2,r3⟩:aV)
instance sProtect_c{a0:Int}{a1:Int}{a2:Int}{a3:List Int}{r:aV}:FC prog (IR a0 a1 a2 a3=ς r) 376 [aI a0,aI a1,aI a2,aL (a3.map eU8)] [.agg (qM [.o] (lX r))]:=gG func376 ntmps376
def xY(a0:Int)(a1:Int)(a2:Int)(a3:ab):Option am:=
 aeP (s5 a0 a2) λr1=>aeP (IR r1 1 a3.df a3.be) λr2=>ς (⟨a1,a2,r2⟩:am)
instance acF{a0:Int}{a1:Int}{a2:Int}{a3:ab}{r:am}:FC prog (xY a0 a1 a2 a3=ς r) 359 [aI a0,aI a1,aI a2,.agg (an a3)] [.agg (qM [.o] (gX r))]:=gG func359 ntmps359 (hz 1)
def Ak(a0:ag)(a1:ab):Option am:=
 aeP (xY a0.bp a0.av a0.a8 a1) λr1=>ς r1
instance RD{a0:ag}{a1:ab}{r:am}:FC prog (Ak a0 a1=ς r) 324 [.agg (aM a0),.agg (an a1)] [.agg (qM [.o] (gX r))]:=gG func324 ntmps324
def jK(a0:ag):(Int×List am)->Option (bJ (Int×List am) (List am))
 |(v1,v2)=>aeP (cond (ltB v1 (a0.aC.ar.length:Int)) (cond (ltB v1 2) (ς (eqB a0.bF 1)) (ς η)) (ς η)) λ(v7:Bool)=>cond v7 (aeP (ix a0.aC.ar v1) λx8=>aeP (Ak a0 x8) λr9=>cond (c8 64 (v2++[r9]).length) (ς (.next (WR (v1+1),(v2++[r9])))) ξ) (ς (.done v2))
def oi(a0:ag):Option (List am):=
 aeP (iter (jK a0) FU (0,([]:List am))) λ(v6:List am)=>ς v6
instance By{a0:ag}{r:List am}:FC prog (oi a0=ς r) 270 [.agg (aM a0)] [.c (.own 150 6 (r.map cQ) r.length)]:=gG func270 ntmps270 (hL 0 (λ(v:Int×List am) sl ob nx=>⟨(3,.v (.c (.w 1 v.2.length)))::(4,tI v.1)::xS [1] sl,[(1,Fa v.2)]++ob,nx⟩)) (hB 0 (λ(v:List am) sl ob nx=>⟨(3,.v (.c (.w 1 v.length)))::(4,.any)::xS [1] sl,[(1,Fa v)]++ob,nx⟩)) (hb 12 20) (hx 31) (hz 5)
end Go.AM
