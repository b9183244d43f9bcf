/- A part. -/
import Derived.Test.YtcnfbcpgepbnkaaGreatG
set_option linter.unusedVariables false
set_option linter.unusedSimpArgs false
open Option renaming some->ς,none->ξ
open Bool renaming true->ζ,false->η
open True renaming intro->θ
open Option renaming bind->aeP
namespace Go.AM
def LX{α:Type}(E:α->Int->Option (Int×α)):(Int×Int×List α)->Option (bJ (Int×Int×List α) (Int×List α))
 |(v1,v2,v3)=>cond (ltB v2 (v3.length:Int)) (aeP (ix v3 v2) λx=>aeP (E x v1) λ(k,y)=>ς (.next (k,WR (v2+1),v3.set v2.toNat y))) (ς (.done (v1,v3)))
def mX{α:Type}(E:α->Int->Option (Int×α))(a0:List α)(a1:Int):Option (Int×List α):=aeP (iter (LX E) FU (a1,0,a0)) λ(v5,v6)=>ς (v5,v6)
theorem JU{α:Type}{E:α->Int->Option (Int×α)}{a0:List α}{a1:Int}{r:Int×List α}(H:mX E a0 a1=ς r):r.2.length=a0.length:=by
 obtain⟨⟨v5,v6⟩,Hj,H⟩:=ob H
 cases H
 refine X9 (λq=>q.2.2.length=a0.length) (λr=>r.2.length=a0.length) ?_ rfl Hj
 rintro⟨v1,v2,v3⟩ o hq H
 replace H:(bif ltB v2 (v3.length:Int) then(aeP (ix v3 v2) λx=>aeP (E x v1) λ(k,y)=>ς (.next (k,WR (v2+1),v3.set v2.toNat y))) else ς (.done (v1,v3)))=ς o:=H
 cases hb:ltB v2 (v3.length:Int) with
 |false=>rw[hb] at H;cases H;exact hq
 |true=>rw[hb] at H;obtain⟨x,hx,H⟩:=ob H;obtain⟨⟨k,y⟩,_,H⟩:=ob H;cases H;show(v3.set _ _).length=_;rw[List.length_set];exact hq
theorem Yh{α:Type}{E:α->Int->Option (Int×α)}{k k':Int}{y:List α}(H:mX E [] k=ς (k',y)):k=k':=by
 obtain⟨q,Hj,H⟩:=ob H
 cases H
 unfold FU at Hj
 rw[iter] at Hj
 have h:LX E (k,0,[])=ς (.done (k,[])):=by simp[LX,ltB]
 rw[h] at Hj
 cases Hj
 rfl
end Go.AM
