/- A part. -/
import Derived.Test.YtigcecmbknoijaaGreatDoorS15
set_option linter.unusedVariables false
open Option renaming some->ς,none->ξ
open Bool renaming true->ζ,false->η
open True renaming intro->θ
open Option renaming bind->ZU
namespace Go.AM
open Go.Proofs
open Tryz
attribute [local irreducible] AWN NS AWO AWR AWC DR DZ cM eN iter
set_option maxRecDepth 100000
set_option maxHeartbeats 40000000
def zy32:(Int×ae)->Option (cH (Int×ae) (ae))
 |(v1,v12)=>cond (ltB v1 (v12.av.length:Int)) (ZU (ix v12.av v1) λx27=>ZU (oN x27) λr28=>ZU (iK v12 v1 r28) λr29=>ς (.next (WR (v1+1),r29))) (ς (.done v12))
def mu(v30:Int)(r88:cp):(Int×ae)->Option (cH (Int×ae) (ae))
 |(v92,v103)=>cond (ltB v92 (r88.cA.length:Int)) (ZU (ix r88.cA v92) λx117=>ZU (g8 v103 (⟨v30,η,ζ,r88.bb.bg,eB,x117⟩:bJ)) λr118=>ς (.next (WR (v92+1),r118))) (ς (.done v103))
def zy33:(Int×ae)->Option (cH (Int×ae) (ae))
 |(v30,v41)=>cond (ltB v30 (v41.aD.length:Int)) (ZU (ix v41.aD v30) λx86=>ZU (ix v41.bD v30) λx87=>ZU (pD x86 x87 v41.d5) λr88=>ZU (ix v41.aD v30) λx89=>ZU (ix v41.bD v30) λx90=>ZU (kD {v41 with aD:=(v41.aD.set (v30).toNat r88.bb),bD:=(v41.bD.set (v30).toNat r88.fk)} v30 η r88.nJ) λr91=>ZU (iter (mu v30 r88) FU (0,r91)) λ(v116:ae)=>ς (.next (WR (v30+1),v116))) (ς (.done v41))
def zi(a0:ae):Option (Bool×ae):=
 cond (leB 100000 a0.lI) (ς (η,a0)) (ZU (iter (zy32) FU (0,{a0 with lI:=WR (a0.lI+1)})) λ(v26:ae)=>ZU (iter (zy33) FU (0,v26)) λ(v85:ae)=>ς (ζ,v85))
instance zy34{a0:ae}{r:Bool×ae}:FCV prog (zi a0=ς r) 155 (nS a0) [tP 200] (nS r.2) (.v (.c (.d η (.b r.1)))) []:=gV func155 ntmps155 (hL 0 (λ(v:Int×ae) sl ob nx=>⟨(3,tI v.1)::xS [193,192,191,190] sl,nS v.2++ob,nx⟩)) (hB 0 (λ(v:ae) sl ob nx=>⟨(3,.any)::xS [193,192,191,190] sl,nS v++ob,nx⟩)) (hL 2 (λ(v:Int×ae) sl ob nx=>⟨(4,tI v.1)::xS [193,192,191,190] sl,nS v.2++ob,nx⟩)) (hB 2 (λ(v:ae) sl ob nx=>⟨(4,.any)::xS [193,192,191,190] sl,nS v++ob,nx⟩)) (hL 4 (λ(v:Int×ae) sl ob nx=>⟨(6,tI v.1)::xS [193,192,191,190] sl,nS v.2++ob,nx⟩)) (hB 4 (λ(v:ae) sl ob nx=>⟨(6,.any)::xS [193,192,191,190] sl,nS v++ob,nx⟩)) (hz 18) (hz 13) (hz 12) (hz 11)
end Go.AM
