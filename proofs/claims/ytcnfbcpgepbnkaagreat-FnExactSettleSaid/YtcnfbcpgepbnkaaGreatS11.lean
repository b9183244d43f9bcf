/- A part. -/
import Derived.Test.YtcnfbcpgepbnkaaGreatS6
import Derived.Test.YtcnfbcpgepbnkaaGreatS7
import Derived.Test.YtcnfbcpgepbnkaaGreatS8
set_option linter.unusedVariables false
open Option renaming some->ς,none->ξ
open Bool renaming true->ζ,false->η
open True renaming intro->θ
open Option renaming bind->aeP
namespace Go.AM
open Go.Proofs
open Tryz
attribute [local irreducible] AWN NS AWO AWR AWC DR DZ cO eB iter
set_option maxRecDepth 100000
set_option maxHeartbeats 40000000
def ip(a0:ae):Int->Option (bJ (Int) (Bool))
 |v6=>cond (ltB v6 (a0.aJ.length:Int)) (aeP (ix a0.aJ v6) λx7=>aeP (dt x7.bS 0 (WR ((a0.aH.length:Int)-1))) λr8=>aeP (cond (!r8) (ς ζ) (aeP (ix a0.aJ v6) λx10=>aeP (dt x10.bC 0 (WR ((a0.fH.bh.length:Int)-1))) λr11=>ς (!r11))) λ(v9:Bool)=>cond v9 (dn (ς η)) (ς (.next (WR (v6+1))))) (dn (cond (leB 0 (a0.fH.bh.length:Int)) (aeP (dt a0.dK 0 (WR ((Nx .i64 1 (a0.fH.bh.length:Int))-1))) λr12=>aeP (cond r12 (aeP (dt a0.vU 0 100000) λr14=>cond r14 (ς (leB 0 a0.my)) (ς η)) (ς η)) λ(v13:Bool)=>ς v13) ξ))
def im(a0:ae):Int->Option (bJ (Int) (Bool))
 |v4=>cond (ltB v4 (a0.aH.length:Int)) (aeP (yh a0 v4) λr5=>cond (!r5) (dn (ς η)) (ς (.next (WR (v4+1))))) (dn (iter (ip a0) FU 0))
def nD(a0:ae):Option Bool:=
 aeP (vc a0.fH) λr1=>aeP (cond (!r1) (ς ζ) (aeP (sL a0.lA) λr3=>cond (!r3) (ς ζ) (cond (eqB a0.lA.jS 0) (ς ζ) (cond (ltB 4 (a0.aH.length:Int)) (ς ζ) (cond (!eqB (a0.aT.length:Int) (a0.aH.length:Int)) (ς ζ) (cond (!eqB (a0.bu.length:Int) (a0.aH.length:Int)) (ς ζ) (ς (ltB 200 (a0.aJ.length:Int))))))))) λ(v2:Bool)=>cond v2 (ς η) (iter (im a0) FU 0)
instance TO{a0:ae}{r:Bool}:FC prog (nD a0=ς r) 26 [.agg (eC a0)] [.c (.d (.b r))]:=gG func26 ntmps26 (hb 9 50) (hl 0 3) (hl 2 4) (hb 81 95) (hb 105 2)
def pw(a0:ag)(a1:aD):Option bm:=
 aeP (lN a1) λr1=>cond (!r1) (aeP (pD a0) λr2=>ς r2) (cond (eqB a1.eb 1) (aeP (pt a0 a1) λr3=>ς r3) (cond (eqB a1.eb 3) (aeP (mq a0 a1) λr4=>ς r4) (cond (eqB a1.eb 5) (aeP (kq a0 a1) λr5=>ς r5) (cond (eqB a1.eb 8) (aeP (nE a0 a1) λr6=>ς r6) (aeP (pD a0) λr7=>ς r7)))))
instance VS{a0:ag}{a1:aD}{r:bm}:FC prog (pw a0 a1=ς r) 132 [.agg (aM a0),.agg (cP a1)] [.agg (qM [.d,.d,.d,.o] (cV r))]:=gG func132 ntmps132
def xV(a0:Int)(a1:Int)(a2:Int)(a3:am):Option (ab×Bool):=
 aeP (cond (!eqB a3.av a1) (ς ζ) (cond (!eqB a3.a8 a2) (ς ζ) (aeP (sQ a0 a3) λr2=>ς (!r2)))) λ(v1:Bool)=>cond v1 (ς (bE,η)) (aeP (s5 a0 a2) λr3=>aeP (Cj r3 1 0 a3.bH) λr4=>ς ((⟨r4.2.1,r4.1⟩:ab),r4.2.2))
instance acE{a0:Int}{a1:Int}{a2:Int}{a3:am}{r:ab×Bool}:FC prog (xV a0 a1 a2 a3=ς r) 214 [aI a0,aI a1,aI a2,.agg (cQ a3)] [.agg (qM [.d] (dv r.1)),.c (.d (.b r.2))]:=gG func214 ntmps214 (hb 17 28)
def qA(a0:aF)(a1:am):Option aZ:=
 aeP (xV a0.bp a0.av a0.a8 a1) λr1=>aeP (cond (!eqB a0.bF 2) (ς ζ) (ς (!r1.2))) λ(v2:Bool)=>cond v2 (aeP (Ah a0) λr3=>ς r3) (aeP (pC a0) λr4=>aeP (pu a0.ct r1.1) λr5=>aeP (ol a0.bp (⟨8,a0.bC,a0.av,a0.a8,r5.bw,db,0⟩:aD)) λr6=>ς (⟨{r4 with ct:=r5},[r6]⟩:aZ))
instance Wv{a0:aF}{a1:am}{r:aZ}:FC prog (qA a0 a1=ς r) 135 [.agg (bG a0),.agg (cQ a1)] [.agg (qM [.d,.o,.o] (cU r))]:=gG func135 ntmps135 (hb 23 26)
def vn(a0:ae)(a1:Int):Option ae:=
 aeP (DN a0 a1) λr1=>aeP (A1 r1.2 r1.1.bC) λr2=>aeP (cond (!r2) (ς {r1.2 with my:=WR (r1.2.my+1)}) (aeP (cond r1.1.pK (cond (!r1.1.jQ) (ς (eqB r1.1.cg.bC r1.1.bC)) (ς η)) (ς η)) λ(v14:Bool)=>aeP (cond v14 (aeP (ix r1.2.aT r1.1.bS) λx26=>aeP (pw x26 r1.1.cg) λr27=>aeP (ix r1.2.aT r1.1.bS) λx28=>aeP (lR {r1.2 with aT:=(r1.2.aT.set (r1.1.bS).toNat r27.aX)} r1.1.bS η r27.dV) λr29=>ς r29) (aeP (cond r1.1.pK (ς r1.2) (aeP (ix r1.2.aH r1.1.bS) λx41=>aeP (cond (!eqB x41.bC r1.1.bC) (ς {r1.2 with my:=WR (r1.2.my+1)}) (aeP (cond r1.1.jQ (aeP (ix r1.2.aH r1.1.bS) λx64=>aeP (qA x64 r1.1.cF) λr65=>aeP (lQ r1.2 r1.1.bS r65) λr66=>ς r66) (aeP (ix r1.2.aH r1.1.bS) λx67=>aeP (pv x67 r1.1.cg) λr68=>aeP (lQ r1.2 r1.1.bS r68) λr69=>ς r69)) λ(v63:ae)=>ς v63)) λ(v52:ae)=>ς v52)) λ(v40:ae)=>ς v40)) λ(v25:ae)=>ς v25)) λ(v13:ae)=>ς v13
instance aaT{a0:ae}{a1:Int}{r:ae}:FCV prog (vn a0 a1=ς r) 70 (nS a0) [tP 200,tI a1] (nS r) (.tup []) []:=gV func70 ntmps70 (hC 25 (λ(v:ae) sl ob nx=>⟨xS [193,192,191,190] sl,nS v++fO [210] ob,nx⟩)) (hb 44 41) (hC 41 (λ(v:ae) sl ob nx=>⟨xS [193,192,191,190] sl,nS v++fO [210] ob,nx⟩)) (hz 7) (hz 6) (hC 80 (λ(v:ae) sl ob nx=>⟨xS [193,192,191,190] sl,nS v++fO [210] ob,nx⟩)) (hC 83 (λ(v:ae) sl ob nx=>⟨xS [193,192,191,190] sl,nS v++fO [210] ob,nx⟩)) (hC 103 (λ(v:ae) sl ob nx=>⟨xS [193,192,191,190] sl,nS v++ob,nx⟩)) (hz 13) (hz 2)
def lT(a1:Int):(Int×ae)->Option (bJ (Int×ae) (ae))
 |(v1,v12)=>aeP (cond (ltB v1 a1) (ς (ltB 0 (v12.aJ.length:Int))) (ς η)) λ(v26:Bool)=>cond v26 (aeP (vn v12 0) λr27=>ς (.next (WR (v1+1),r27))) (ς (.done v12))
def vr(a0:ae)(a1:Int):Option ae:=
 aeP (iter (lT a1) FU (0,a0)) λ(v25:ae)=>ς v25
instance aaV{a0:ae}{a1:Int}{r:ae}:FCV prog (vr a0 a1=ς r) 28 (nS a0) [tP 200,tI a1] (nS r) (.tup []) []:=gV func28 ntmps28 (hL 0 (λ(v:Int×ae) sl ob nx=>⟨(4,tI v.1)::xS [193,192,191,190] sl,nS v.2++ob,nx⟩)) (hB 0 (λ(v:ae) sl ob nx=>⟨(4,.any)::xS [193,192,191,190] sl,nS v++ob,nx⟩)) (hb 8 15)
end Go.AM
