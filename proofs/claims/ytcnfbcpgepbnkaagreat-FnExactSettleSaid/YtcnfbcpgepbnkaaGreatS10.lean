/- A part. -/
import Derived.Test.YtcnfbcpgepbnkaaGreatS3
import Derived.Test.YtcnfbcpgepbnkaaGreatS5
set_option linter.unusedVariables false
open Option renaming some->ς,none->ξ
open Bool renaming true->ζ,false->η
open True renaming intro->θ
open Option renaming bind->aeP
namespace Go.AM
open Go.Proofs
open Tryz
attribute [local irreducible] AWN NS AWO AWR AWC DR DZ cO eB iter
set_option maxRecDepth 100000
set_option maxHeartbeats 40000000
def vj(a0:ae):(Int×List aF)->Option (bJ (Int×List aF) (List aF))
 |(v2,v3)=>cond (ltB v2 (a0.aH.length:Int)) (aeP (ix a0.aH v2) λx7=>aeP (pC x7) λr8=>cond (c8 144 (v3++[r8]).length) (ς (.next (WR (v2+1),(v3++[r8])))) ξ) (ς (.done v3))
def vk(a0:ae):(Int×List ag)->Option (bJ (Int×List ag) (List ag))
 |(v9,v10)=>cond (ltB v9 (a0.aT.length:Int)) (aeP (ix a0.aT v9) λx14=>aeP (kN x14) λr15=>cond (c8 288 (v10++[r15]).length) (ς (.next (WR (v9+1),(v10++[r15])))) ξ) (ς (.done v10))
def vl(a0:ae):(Int×List aj)->Option (bJ (Int×List aj) (List aj))
 |(v16,v17)=>cond (ltB v16 (a0.bu.length:Int)) (aeP (ix a0.bu v16) λx21=>aeP (mU x21) λr22=>cond (c8 48 (v17++[r22]).length) (ς (.next (WR (v16+1),(v17++[r22])))) ξ) (ς (.done v17))
def vm(a0:ae):(Int×List a9)->Option (bJ (Int×List a9) (List a9))
 |(v23,v24)=>cond (ltB v23 (a0.aJ.length:Int)) (aeP (ix a0.aJ v23) λx28=>aeP (uu x28) λr29=>cond (c8 176 (v24++[r29]).length) (ς (.next (WR (v23+1),(v24++[r29])))) ξ) (ς (.done v24))
def DM(a0:ae):Option ae:=
 aeP (Af a0.fH) λr1=>aeP (iter (vj a0) FU (0,([]:List aF))) λ(v6:List aF)=>aeP (iter (vk a0) FU (0,([]:List ag))) λ(v13:List ag)=>aeP (iter (vl a0) FU (0,([]:List aj))) λ(v20:List aj)=>aeP (iter (vm a0) FU (0,([]:List a9))) λ(v27:List a9)=>ς (⟨r1,v6,v13,v20,v27,a0.dK,a0.lA,a0.vU,a0.my⟩:ae)
instance sl32Copy_c{a0:ae}{r:ae}:FCV prog (DM a0=ς r) 25 [] [.v (.agg (kM [.f,.f,.f,.f,.f] (cX a0)))] [] (.v (.agg (kM [.t,.n 210,.n 211,.n 212,.n 213] (cX r)))) [(210,U4 r.aH),(211,U5 r.aT),(212,U6 r.bu),(213,U7 r.aJ)]:=gV func25 ntmps25 (hL 0 (λ(v:Int×List aF) sl ob nx=>⟨(4,tI v.1)::xS [213] sl,[(213,U4 v.2)]++(uC 212 1 [.wn 213 v.2.length] ob),214⟩)) (hB 0 (λ(v:List aF) sl ob nx=>⟨(4,.any)::xS [213] sl,[(213,U4 v)]++(uC 212 1 [.wn 213 v.length] ob),214⟩)) (hx 34) (hz 5) (hL 2 (λ(v:Int×List ag) sl ob nx=>⟨(5,tI v.1)::xS [214,213] sl,[(214,U5 v.2)]++(uC 212 2 [.wn 214 v.2.length] ob),215⟩)) (hB 2 (λ(v:List ag) sl ob nx=>⟨(5,.any)::xS [214,213] sl,[(214,U5 v)]++(uC 212 2 [.wn 214 v.length] ob),215⟩)) (hx 52) (hz 9) (hL 4 (λ(v:Int×List aj) sl ob nx=>⟨(6,tI v.1)::xS [215,213,214] sl,[(215,U6 v.2)]++(uC 212 3 [.wn 215 v.2.length] ob),216⟩)) (hB 4 (λ(v:List aj) sl ob nx=>⟨(6,.any)::xS [215,213,214] sl,[(215,U6 v)]++(uC 212 3 [.wn 215 v.length] ob),216⟩)) (hx 70) (hz 13) (hL 6 (λ(v:Int×List a9) sl ob nx=>⟨(7,tI v.1)::xS [216,213,214,215] sl,[(216,U7 v.2)]++(uC 212 4 [.wn 216 v.2.length] ob),217⟩)) (hB 6 (λ(v:List a9) sl ob nx=>⟨(7,.any)::xS [216,213,214,215] sl,[(216,U7 v)]++(uC 212 4 [.wn 216 v.length] ob),217⟩)) (hx 88) (hz 17) (hx 10) (hz 1)
end Go.AM
