/- A part. -/
import Derived.Test.YtcnfbcpgepbnkaaGreatI4
import Derived.Test.YtcnfbcpgepbnkaaGreatI5
set_option linter.unusedVariables false
open Option renaming some->ς,none->ξ
open Bool renaming true->ζ,false->η
open True renaming intro->θ
open Option renaming bind->aeP
namespace Go.AM
open Go.Proofs
open Tryz
attribute [local irreducible] AWN NS AWO AWR AWC DR DZ cO eB iter
set_option maxRecDepth 100000
set_option maxHeartbeats 40000000
def lF(a0:ag)(r1:Int):(Int×List am)->Option (bJ (Int×List am) (List am))
 |(v2,v3)=>cond (ltB v2 (((a0.aC.ar.take (r1).toNat).length:Nat):Int)) (aeP (ix (a0.aC.ar.take (r1).toNat) v2) λx7=>aeP (tA a0.bp a0.av a0.a8 x7) λr8=>cond (c8 64 (v3++[r8]).length) (ς (.next (WR (v2+1),(v3++[r8])))) ξ) (ς (.done v3))
def qO(a0:ag):Option (List am):=
 cond (!eqB a0.bF 1) (ς ([]:List am)) (aeP (UH 2 (a0.aC.ar.length:Int)) λr1=>cond (d6 a0.aC.ar 0 r1) (aeP (iter (lF a0 r1) FU (0,([]:List am))) λ(v6:List am)=>ς v6) ξ)
instance JG{a0:ag}{r:List am}:FC prog (qO a0=ς r) 190 [.agg (aM a0)] [.c (.own 150 6 (r.map cQ) r.length)]:=gG func190 ntmps190 (hL 0 (λ(v:Int×List am) sl ob nx=>⟨(3,.v (.c (.w 1 v.2.length)))::(21,tI v.1)::xS [1] sl,[(1,Fa v.2)]++ob,nx⟩)) (hB 0 (λ(v:List am) sl ob nx=>⟨(3,.v (.c (.w 1 v.length)))::(21,.any)::xS [1] sl,[(1,Fa v)]++ob,nx⟩))
def oG(a0:ag)(a1:Int):Option Int:=
 aeP (iI a0) λr1=>aeP (kw a0.bM) λr2=>aeP (iMax 0 (WR ((WR (r1+a1))-r2))) λr3=>ς r3
instance y6{a0:ag}{a1:Int}{r:Int}:FC prog (oG a0 a1=ς r) 278 [.agg (aM a0),aI a1] [.c (.d (.i .i64 r))]:=gG func278 ntmps278
def uP(a1:Int)(r1:aj):Int->Option (bJ (Int) (Int))
 |v9=>aeP (cond (ltB v9 (r1.ak.length:Int)) (aeP (ix r1.ak v9) λx14=>ς (ltB x14.ax a1)) (ς η)) λ(v13:Bool)=>cond v13 (ς (.next (WR (v9+1)))) (ς (.done v9))
def CW(a0:aj)(a1:Int)(a2:Int):Option (aj×Int):=
 aeP (er a0) λr1=>aeP (gF a0) λr2=>aeP (cond (!r2) (ς ζ) (cond (ltB a1 0) (ς ζ) (aeP (bW a2 1 100000) λr4=>cond (!r4) (ς ζ) (ς (eqB a0.bB 0))))) λ(v3:Bool)=>cond v3 (ς (r1,0)) (aeP (UH a2 a0.bB) λr5=>aeP (fC a0 a1) λr6=>cond (leB 0 r6) (aeP (ix r1.ak r6) λx7=>aeP (ix r1.ak r6) λx8=>ς ({r1 with bB:=WR (r1.bB-r5),ak:=(r1.ak.set (r6).toNat (⟨x8.ax,WR (x7.dq+r5)⟩:ah))},r5)) (cond (leB 8 (a0.ak.length:Int)) (ς (r1,0)) (aeP (iter (uP a1 r1) FU 0) λ(v12:Int)=>cond (c8 16 (r1.ak++[cS]).length) (cond (d6 (r1.ak++[cS]) (WR (v12+1)) (r1.ak++[cS]).length) (cond (d6 (r1.ak++[cS]) v12 (r1.ak++[cS]).length) (aeP (ix (cpD (r1.ak++[cS]) (WR (v12+1)).toNat ((r1.ak++[cS]).drop (v12).toNat)) v12) λx15=>ς ({r1 with bB:=WR (r1.bB-r5),ak:=((cpD (r1.ak++[cS]) (WR (v12+1)).toNat ((r1.ak++[cS]).drop (v12).toNat)).set (v12).toNat (⟨a1,r5⟩:ah))},r5)) ξ) ξ) ξ)))
def qi(a0:aj)(a1:cq)(a2:Int):Option (aj×cq):=
 aeP (fk a0 a1) λr1=>cond (!r1) (aeP (er a0) λr2=>ς (r2,a1)) (aeP (CW a0 a1.ax a2) λr3=>cond (ltB 100000 (WR (a1.cH+r3.2))) (aeP (er a0) λr4=>ς (r4,a1)) (ς (r3.1,{a1 with cH:=WR (a1.cH+r3.2)})))
def sm(a0:ag)(a1:aj)(a2:Int):Option (ag×aj):=
 aeP (iJ a0) λr1=>aeP (oG r1 a2) λr2=>cond (leB r2 0) (aeP (er a1) λr3=>ς (r1,r3)) (aeP (iMax r2 r1.fr.dR) λr4=>aeP (qi a1 r1.bM r4) λr5=>ς ({r1 with bM:=r5.2},r5.1))
def qP(a0:aG)(a1:List Int):Option (aG×ab×Bool):=
 aeP (jO a0) λr1=>aeP (ev a1) λr2=>cond (c8 32 (r1.ar++[(⟨a0.bw,r2⟩:ab)]).length) (aeP (lC (⟨WR (r1.bw+1),(r1.ar++[(⟨a0.bw,r2⟩:ab)])⟩:aG)) λr3=>cond (!r3) (aeP (jO a0) λr4=>ς (r4,bE,η)) (aeP (ev a1) λr5=>ς ((⟨WR (r1.bw+1),(r1.ar++[(⟨a0.bw,r2⟩:ab)])⟩:aG),(⟨a0.bw,r5⟩:ab),ζ))) ξ
def uR:(Int×List am×ag×aj)->Option (bJ (Int×List am×ag×aj) (List am×ag×aj))
 |(v5,v36,v41,v42)=>cond (ltB v5 2) (aeP (cond (ltB (v41.aS.length:Int) v41.aC.bw) (ς ζ) (ς (leB 8 (v41.aC.ar.length:Int)))) λ(v86:Bool)=>cond v86 (ς (.done (v36,v41,v42))) (aeP (ix v41.aS (WR (v41.aC.bw-1))) λx87=>aeP (sm v41 v42 (x87.be.length:Int)) λr88=>aeP (oG r88.1 (x87.be.length:Int)) λr89=>cond (ltB 0 r89) (ς (.done (v36,r88.1,r88.2))) (aeP (qP r88.1.aC x87.be) λr90=>cond r90.2.2 (aeP (tA r88.1.bp r88.1.av r88.1.a8 r90.2.1) λr91=>cond (c8 64 (v36++[r91]).length) (ς (.next (WR (v5+1),(v36++[r91]),{r88.1 with aC:=r90.1},r88.2))) ξ) (ς (.done (v36,r88.1,r88.2)))))) (ς (.done (v36,v41,v42)))
def CX(a0:ag)(a1:aj):Option bk:=
 aeP (iJ a0) λr1=>aeP (er a1) λr2=>aeP (iC a0) λr3=>aeP (cond (!r3) (ς ζ) (ς (!eqB a0.bF 1))) λ(v4:Bool)=>cond v4 (ς {bU with aX:=r1,eu:=r2}) (aeP (iter (uR) FU (0,([]:List am),r1,r2)) λ((v79,v84,v85):List am×ag×aj)=>ς (⟨v84,v85,[],v79⟩:bk))
def sv(a0:ag)(a1:aj)(a2:aU):Option bk:=
 aeP (iJ a0) λr1=>aeP (er a1) λr2=>aeP (iC r1) λr3=>aeP (cond (!r3) (ς ζ) (ς (!eqB r1.bF 1))) λ(v4:Bool)=>cond v4 (ς {bU with aX:=r1,eu:=r2}) (aeP (cond (leB r1.fr.dR r1.bM.et) (aeP (oL r2 r1.bM) λr14=>ς ({r1 with bM:=r14.2},r14.1)) (ς (r1,r2))) λ((v12,v13):ag×aj)=>aeP (cond (ltB 0 (v12.aC.ar.length:Int)) (aeP (UH (WR (v12.dy+1)) 5) λr16=>ς r16) (ς 0)) λ(v15:Int)=>cond (ltB 4 v15) (aeP (uW {v12 with dy:=v15} v13 a2) λr17=>ς {r17 with cF:=[]}) (aeP (cond (ltB 0 (v12.aC.ar.length:Int)) (ς (ltB 0 v12.du)) (ς η)) λ(v18:Bool)=>aeP (cond v18 (ς (([]:List am),WR (v12.du-1))) (aeP (cond (ltB 0 (v12.aC.ar.length:Int)) (aeP (qO {v12 with dy:=v15,du:=3}) λr23=>ς (r23,3)) (ς (([]:List am),v12.du))) λ((v21,v22):List am×Int)=>ς (v21,v22))) λ((v19,v20):List am×Int)=>aeP (CX {v12 with dy:=v15,du:=v20} v13) λr24=>cond (c8 64 (v19++r24.cF).length) (ς {r24 with ou:=[],cF:=(v19++r24.cF)}) ξ))
def C4(a0:ae):(Int×ae)->Option (bJ (Int×ae) (ae))
 |(v1,v12)=>cond (ltB v1 (a0.aH.length:Int)) (aeP (ix v12.aH v1) λx27=>aeP (uS x27) λr28=>aeP (iL v12 v1 r28) λr29=>ς (.next (WR (v1+1),r29))) (ς (.done v12))
def wi(v30:Int)(v159:bk):(Int×ae)->Option (bJ (Int×ae) (ae))
 |(v166,v177)=>cond (ltB v166 (v159.cF.length:Int)) (aeP (ix v159.cF v166) λx191=>aeP (yu v177 (⟨v30,η,ζ,v159.aX.bC,gq,x191⟩:a9)) λr192=>ς (.next (WR (v166+1),r192))) (ς (.done v177))
def C5(v26:ae):(Int×ae)->Option (bJ (Int×ae) (ae))
 |(v30,v41)=>cond (ltB v30 (v26.aT.length:Int)) (aeP (aeP (ix v41.aT v30) λx160=>aeP (ix v41.bu v30) λx161=>aeP (sv x160 x161 v41.fH) λr162=>ς r162) λ(v159:bk)=>aeP (ix v41.aT v30) λx163=>aeP (ix v41.bu v30) λx164=>aeP (je {v41 with aT:=(v41.aT.set (v30).toNat v159.aX),bu:=(v41.bu.set (v30).toNat v159.eu)} v30 v159.ou) λr165=>aeP (iter (wi v30 v159) FU (0,r165)) λ(v190:ae)=>ς (.next (WR (v30+1),v190))) (ς (.done v41))
def SO(a0:ae):Option (Bool×ae):=
 cond (leB 100000 a0.vU) (ς (η,a0)) (aeP (iter (C4 a0) FU (0,{a0 with vU:=WR (a0.vU+1)})) λ(v26:ae)=>aeP (iter (C5 v26) FU (0,v26)) λ(v122:ae)=>ς (ζ,v122))
def xe(a1:Int):(Int×ae)->Option (bJ (Int×ae) (ae))
 |(v5,v16)=>cond (ltB v5 a1) (aeP (SO v16) λr30=>aeP (qk r30.2 4000) λr31=>ς (.next (WR (v5+1),r31))) (ς (.done v16))
def uQ(a0:ae)(a1:Int):Option ae:=
 aeP (sB a0) λr1=>aeP (mY a0) λr2=>aeP (cond (!r2) (ς ζ) (aeP (bW a1 0 200) λr4=>ς (!r4))) λ(v3:Bool)=>cond v3 (ς r1) (aeP (iter (xe a1) FU (0,r1)) λ(v29:ae)=>ς v29)
def HF(a0:ae):Option ae:=
 aeP (uQ a0 1) λr1=>ς r1
def CY(a0:ae):Option ae:=
 aeP (uQ a0 80) λr1=>ς r1
end Go.AM
