/- A part. -/
import Derived.Test.YtcnfbcpgepbnkaaGreatS9
import Derived.Test.YtcnfbcpgepbnkaaGreatS10
import Derived.Test.YtcnfbcpgepbnkaaGreatS11
set_option linter.unusedVariables false
open Option renaming some->ς,none->ξ
open Bool renaming true->ζ,false->η
open True renaming intro->θ
open Option renaming bind->aeP
namespace Go.AM
open Go.Proofs
open Tryz
attribute [local irreducible] AWN NS AWO AWR AWC DR DZ cO eB iter
set_option maxRecDepth 100000
set_option maxHeartbeats 40000000
variable{a0 r:Go.AM.ae}
def vp:(Int×ae)->Option (bJ (Int×ae) (ae))
 |(v1,v12)=>cond (ltB v1 (v12.aH.length:Int)) (aeP (ix v12.aH v1) λx27=>aeP (ve x27) λr28=>aeP (lQ v12 v1 r28) λr29=>ς (.next (WR (v1+1),r29))) (ς (.done v12))
def om(v30:Int)(r88:bk):(Int×ae)->Option (bJ (Int×ae) (ae))
 |(v92,v103)=>cond (ltB v92 (r88.cF.length:Int)) (aeP (ix r88.cF v92) λx117=>aeP (pF v103 (⟨v30,η,ζ,r88.aX.bC,gq,x117⟩:a9)) λr118=>ς (.next (WR (v92+1),r118))) (ς (.done v103))
def vq:(Int×ae)->Option (bJ (Int×ae) (ae))
 |(v30,v41)=>cond (ltB v30 (v41.aT.length:Int)) (aeP (ix v41.aT v30) λx86=>aeP (ix v41.bu v30) λx87=>aeP (sP x86 x87 v41.fH) λr88=>aeP (ix v41.aT v30) λx89=>aeP (ix v41.bu v30) λx90=>aeP (lR {v41 with aT:=(v41.aT.set (v30).toNat r88.aX),bu:=(v41.bu.set (v30).toNat r88.eu)} v30 η r88.ou) λr91=>aeP (iter (om v30 r88) FU (0,r91)) λ(v116:ae)=>ς (.next (WR (v30+1),v116))) (ς (.done v41))
def DO(a0:ae):Option (Bool×ae):=
 cond (leB 100000 a0.vU) (ς (η,a0)) (aeP (iter (vp) FU (0,{a0 with vU:=WR (a0.vU+1)})) λ(v26:ae)=>aeP (iter (vq) FU (0,v26)) λ(v85:ae)=>ς (ζ,v85))
instance sl33Tick_c{r:Bool×ae}:FCV prog (DO a0=ς r) 107 (nS a0) [tP 200] (nS r.2) (.v (.c (.d η (.b r.1)))) []:=gV func107 ntmps107 (hL 0 (λ(v:Int×ae) sl ob nx=>⟨(3,tI v.1)::xS [193,192,191,190] sl,nS v.2++ob,nx⟩)) (hB 0 (λ(v:ae) sl ob nx=>⟨(3,.any)::xS [193,192,191,190] sl,nS v++ob,nx⟩)) (hL 2 (λ(v:Int×ae) sl ob nx=>⟨(4,tI v.1)::xS [193,192,191,190] sl,nS v.2++ob,nx⟩)) (hB 2 (λ(v:ae) sl ob nx=>⟨(4,.any)::xS [193,192,191,190] sl,nS v++ob,nx⟩)) (hL 4 (λ(v:Int×ae) sl ob nx=>⟨(6,tI v.1)::xS [193,192,191,190] sl,nS v.2++ob,nx⟩)) (hB 4 (λ(v:ae) sl ob nx=>⟨(6,.any)::xS [193,192,191,190] sl,nS v++ob,nx⟩)) (hz 18) (hz 13) (hz 12) (hz 11)
def qG(a1:Int):(Int×ae)->Option (bJ (Int×ae) (ae))
 |(v1,v12)=>cond (ltB v1 a1) (aeP (DO v12) λr26=>aeP (vr r26.2 4000) λr27=>ς (.next (WR (v1+1),r27))) (ς (.done v12))
def Cn(a0:ae)(a1:Int):Option ae:=
 aeP (iter (qG a1) FU (0,a0)) λ(v25:ae)=>ς v25
instance acQ{a1:Int} :FCV prog (Cn a0 a1=ς r) 55 (nS a0) [tP 200,tI a1] (nS r) (.tup []) []:=gV func55 ntmps55 (hL 0 (λ(v:Int×ae) sl ob nx=>⟨(4,tI v.1)::xS [193,192,191,190] sl,nS v.2++ob,nx⟩)) (hB 0 (λ(v:ae) sl ob nx=>⟨(4,.any)::xS [193,192,191,190] sl,nS v++ob,nx⟩))
def xX(a0:ae)(a1:Int):Option ae:=
 aeP (DM a0) λr1=>aeP (nD a0) λr2=>aeP (cond r2 (aeP (dt a1 0 200) λr4=>ς r4) (ς η)) λ(v3:Bool)=>aeP (cond v3 (aeP (Cn r1 a1) λr16=>ς r16) (ς r1)) λ(v15:ae)=>ς v15
instance VT{a1:Int} :FCV prog (xX a0 a1=ς r) 16 [] [.v (.agg (kM [.f,.f,.f,.f,.f] (cX a0))),tI a1] [] (.v (.agg (kM [.t,.n 210,.n 211,.n 212,.n 213] (cX r)))) [(210,U4 r.aH),(211,U5 r.aT),(212,U6 r.bu),(213,U7 r.aJ)]:=gV func16 ntmps16 (hb 10 13) (hC 13 (λ(v:ae) sl ob nx=>⟨xS [215,214,213,212] sl,oM [.t,.n 212,.n 213,.n 214,.n 215] 216 43 (cX v)++ob,nx⟩))
def MN(a0:ae):Option ae:=
 aeP (xX a0 1) λr1=>ς r1
instance ZC:FCV prog (MN a0=ς r) 14 [] [.v (.agg (kM [.f,.f,.f,.f,.f] (cX a0)))] [] (.v (.agg (kM [.t,.n 210,.n 211,.n 212,.n 213] (cX r)))) [(210,U4 r.aH),(211,U5 r.aT),(212,U6 r.bu),(213,U7 r.aJ)]:=gV func14 ntmps14
def GG(a0:ae):Option ae:=
 aeP (xX a0 80) λr1=>ς r1
instance VU:FCV prog (GG a0=ς r) 18 [] [.v (.agg (kM [.f,.f,.f,.f,.f] (cX a0)))] [] (.v (.agg (kM [.t,.n 210,.n 211,.n 212,.n 213] (cX r)))) [(210,U4 r.aH),(211,U5 r.aT),(212,U6 r.bu),(213,U7 r.aJ)]:=gV func18 ntmps18
end Go.AM
