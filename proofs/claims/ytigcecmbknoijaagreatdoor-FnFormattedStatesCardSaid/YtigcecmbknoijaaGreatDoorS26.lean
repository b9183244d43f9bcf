/- A part. -/
import Derived.Test.YtigcecmbknoijaaGreatDoorS21
import Derived.Test.YtigcecmbknoijaaGreatDoorS24
set_option linter.unusedVariables false
open Option renaming some->ς,none->ξ
open Bool renaming true->ζ,false->η
open True renaming intro->θ
open Option renaming bind->ZU
namespace Go.AM
open Go.Proofs
open Tryz
attribute [local irreducible] AWN NS AWO AWR AWC DR DZ cM eN iter
set_option maxRecDepth 100000
set_option maxHeartbeats 40000000
def y7(a0:aj):Option (ax×aj):=
 ZU (y8 a0) λr1=>ZU (a9 r1.2 12) λr2=>ZU (cond (eqB r2.1 0) (ZU (a9 r2.2 6) λr22=>ς (r22.2,{r1.1 with bB:=WR (r22.1-1)})) (ZU (cond (eqB r2.1 1) (ZU (fg r2.2 [-1,5,6]) λr42=>ς (r42.2,{r1.1 with bg:=r42.1})) (ZU (cond (eqB r2.1 2) (ZU (fg r2.2 [0,-1,2147483647]) λr62=>ς (r62.2,{r1.1 with bj:=r62.1})) (ZU (cond (eqB r2.1 3) (ZU (zy44 r2.2) λr82=>ς (r82.2,{r1.1 with bL:=r82.1})) (ZU (cond (eqB r2.1 4) (ZU (fg r2.2 [-1,3,4]) λr90=>ς (r90.2,{r1.1 with hP:=r90.1})) (ZU (cond (eqB r2.1 5) (ZU (fg r2.2 [-1,999999,1000000]) λr96=>ς (r96.1,r96.2)) (ς (r1.1.aZ,r2.2))) λ((v94,v95):Int×aj)=>ς (v95,{r1.1 with aZ:=v94}))) λ((v88,v89):aj×ax)=>ς (v88,v89))) λ((v80,v81):aj×ax)=>ς (v80,v81))) λ((v60,v61):aj×ax)=>ς (v60,v61))) λ((v40,v41):aj×ax)=>ς (v40,v41))) λ((v20,v21):aj×ax)=>ς (v21,v20)
instance zy53{a0:aj}{r:ax×aj}:FCW prog (y7 a0=ς r) 35 (.var 115 (kM [.f] (aO a0))) [tP 200] (.var 115 (kM [.f] (aO r.2))) [.agg (qM [.d,.d] (fy r.1))]:=gW func35 ntmps35 (hC 8 (λ(v:aj×ax) sl ob nx=>⟨sl,[(200,.var 115 (kM [.f] (aO v.1))),(211,.var 60 (kM [.t,.t] (fy v.2)))]++ob,nx⟩)) (hC 14 (λ(v:aj×ax) sl ob nx=>⟨sl,[(200,.var 115 (kM [.f] (aO v.1))),(211,.var 60 (kM [.t,.t] (fy v.2)))]++ob,nx⟩)) (hC 20 (λ(v:aj×ax) sl ob nx=>⟨sl,[(200,.var 115 (kM [.f] (aO v.1))),(211,.var 60 (kM [.t,.t] (fy v.2)))]++ob,nx⟩)) (hC 26 (λ(v:aj×ax) sl ob nx=>⟨sl,[(200,.var 115 (kM [.f] (aO v.1))),(211,.var 60 (kM [.t,.t] (fy v.2)))]++ob,nx⟩)) (hC 31 (λ(v:aj×ax) sl ob nx=>⟨sl,[(200,.var 115 (kM [.f] (aO v.1))),(211,.var 60 (kM [.t,.t] (fy v.2)))]++ob,nx⟩)) (hC 37 (λ(v:Int×aj) sl ob nx=>⟨sl,[(200,.var 115 (kM [.f] (aO v.2)))]++(uC 211 8 [.d η (.i .i64 v.1)] ob),nx⟩))
def zy54(a0:List Int):Option ax:=
 ZU (rV a0) λr1=>ZU (y7 r1) λr2=>ς r2.1
instance zy55{a0:List Int}{r:ax}:FC prog (zy54 a0=ς r) 15 [aL (a0.map eU8)] [.agg (qM [.d,.d] (fy r))]:=⟨λH=>by
 refine fI func15 ntmps15 ?_
 refine aa H λr1 q1 H=>nA (cn (sS q1) rfl rfl trivial rfl rfl rfl) ?_
 refine aa H λr2 q2 H=>sA (cw (o:=1) (zy53.h q2)) ?_
 cases H
 exact dK⟩
end Go.AM
