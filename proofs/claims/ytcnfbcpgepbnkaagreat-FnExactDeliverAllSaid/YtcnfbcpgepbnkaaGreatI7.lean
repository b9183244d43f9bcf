/- A part. -/
import Derived.Test.YtcnfbcpgepbnkaaGreatI3
import Derived.Test.YtcnfbcpgepbnkaaGreatI4
import Derived.Test.YtcnfbcpgepbnkaaGreatI5
set_option linter.unusedVariables false
open Option renaming some->ς,none->ξ
open Bool renaming true->ζ,false->η
open True renaming intro->θ
open Option renaming bind->abX
namespace Go.AM
open Go.Proofs
open Tryz
attribute [local irreducible] AWN NS AWO AWR AWC DR DZ cp ec iter
set_option maxRecDepth 100000
set_option maxHeartbeats 40000000
def iu(a0:ag)(a1:ar):Option aP:=
 abX (cond (leB a0.bw 0) (ς ζ) (cond (!eqB a1.ak a0.bw) (ς ζ) (abX (oH a0.am a1.bW) λr2=>cond (!r2) (ς ζ) (ς (leB 999999 a0.aU))))) λ(v1:Bool)=>cond v1 (abX (cM a0 []) λr3=>ς r3) (abX (lC (⟨a0.bF,a0.gu,1,cF,0,a0.bw,a0.am.fg,WR (a0.aU+1),a1.bJ,0,d8,a0.aX,a0.aY,a0.kf,a0.dq⟩:ag) 4) λr4=>abX (cM (⟨a0.bF,a0.gu,1,cF,0,a0.bw,a0.am.fg,WR (a0.aU+1),a1.bJ,0,d8,a0.aX,a0.aY,a0.kf,a0.dq⟩:ag) [r4]) λr5=>ς r5)
instance Mp{a0:ag}{a1:ar}{r:aP}:FC prog (iu a0 a1=ς r) 249 [.agg (aB a0),.agg (cb a1)] [.agg (qM [.o,.o,.o,.o] (bP r))]:=gG func249 ntmps249 (hb 8 27) (hz 12)
def lx(a0:av)(a1:aT):Option aK:=
 cond (!eqB a0.bV 2) (abX (cO a0 []) λr1=>ς r1) (abX (qV a0.bj a0.ak a0.aU a1) λr2=>cond r2.2 (abX (mV a0.bY r2.1) λr3=>abX (my a0.bj (⟨8,a0.bJ,a0.ak,a0.aU,r3.bK,cF,0⟩:ar)) λr4=>abX (cO {a0 with bY:=r3} [r4]) λr5=>ς r5) (abX (cO a0 []) λr6=>ς r6))
instance RT{a0:av}{a1:aT}{r:aK}:FC prog (lx a0 a1=ς r) 166 [.agg (aZ a0),.agg (db a1)] [.agg (qM [.o,.o,.o] (cd r))]:=⟨λH=>by
 refine fI func166 ntmps166 ?_
 refine cC H ?_ ?_<;>intro H
 .refine aa H λr1 q1 H=>nA (ca (hF:=pL.h q1)) ?_
  exact ao H
 obtain⟨r2,q2,H⟩:=ob H
 rcases hb:r2.2 with _|_
 .have H:=bf hb H
  refine BU rfl (ca (hF:=yt q2 hb)) ?_
  simp only[hb]
  refine wI ?_
  refine aa H λr6 q6 H=>nA (ca (hF:=pL.h q6)) ?_
  exact ao H
 have H:=bt hb H
 refine BU rfl (ca (hF:=yu q2 hb)) ?_
 simp only[hb]
 refine wI ?_
 refine aa H λr3 q3 H=>nA (ca (hF:=tO.h q3)) ?_
 refine yJ [0,1,2,3,4,5,6,7] (h:=?_)
 refine wkb ?_
 refine aa H λr4 q4 H=>zX rfl (ca (hF:=yv.h q4)) ?_
 refine wkb ?_
 refine DE rfl (bsx (bs rfl rfl rfl rfl rfl rfl rfl rfl) rfl) ?_
 refine wkb ?_
 refine aa H λr5 q5 H=>zX rfl (ca (hF:=pL.h q5)) ?_
 refine wkb ?_
 refine DE rfl (spx 100194) ?_
 refine wkb ?_
 refine wI ?_
 cases H
 exact jK⟩
end Go.AM
