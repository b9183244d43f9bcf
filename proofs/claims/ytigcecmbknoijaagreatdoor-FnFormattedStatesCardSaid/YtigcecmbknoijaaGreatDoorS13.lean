/- A part. -/
import Derived.Test.YtigcecmbknoijaaGreatDoorS5
import Derived.Test.YtigcecmbknoijaaGreatDoorS7
import Derived.Test.YtigcecmbknoijaaGreatDoorS8
import Derived.Test.YtigcecmbknoijaaGreatDoorS9
set_option linter.unusedVariables false
open Option renaming some->ς,none->ξ
open Bool renaming true->ζ,false->η
open True renaming intro->θ
open Option renaming bind->ZU
namespace Go.AM
open Go.Proofs
open Tryz
attribute [local irreducible] AWN NS AWO AWR AWC DR DZ cM eN iter
set_option maxRecDepth 100000
set_option maxHeartbeats 40000000
def zy1(a0:List Int):Option an:=
 ZU (rV a0) λr1=>ZU (tY r1) λr2=>ς r2.1
instance zy2{a0:List Int}{r:an}:FCV prog (zy1 a0=ς r) 6 [] [.v (.c (.d η (.l (a0.map eU8))))] [] (.v (.agg (kM [.n 210] (du r)))) [(210,n99 r.aC)]:=⟨λH=>by
 refine fV func6 ntmps6 ?_
 refine aa H λr1 q1 H=>nA (cn (sS q1) rfl rfl trivial rfl rfl rfl) ?_
 refine aa H λr2 q2 H=>sA (cwv [(200,211)] [(210,212)] 213 (On.h q2)) ?_
 cases H
 refine cg (wS 212 210) ?_
 exact dv⟩
def xQ(a0:Int)(a1:Int)(a2:Int)(a3:bC):Option (List Int×Int×Bool):=
 ZU (jF a3) λr1=>ZU (cond (!r1) (ς ζ) (cond (!eqB a3.dQ a1) (ς ζ) (ZU (qp a0 a3) λr3=>cond (!r3) (ς ζ) (ς (leB a3.eJ a2))))) λ(v2:Bool)=>cond v2 (ς (([]:List Int),a2,η)) (ZU (n8 a0 (WR ((WR (2*a3.eJ))+a3.dQ))) λr4=>ZU (yO r4 a3.bm) λr5=>ς (r5,a3.eJ,ζ))
instance U1{a0:Int}{a1:Int}{a2:Int}{a3:bC}{r:List Int×Int×Bool}:FC prog (xQ a0 a1 a2 a3=ς r) 173 [aI a0,aI a1,aI a2,.agg (gN a3)] [.c (.own 5 1 (r.1.map eU8) r.1.length),.c (.d (.i .i64 r.2.1)),.c (.d (.b r.2.2))]:=gG func173 ntmps173 (hb 14 31)
def zy3(a0:aj)(a1:ah):Option (aT×aj):=
 ZU (a9 a0 8) λr1=>ZU (a9 r1.2 5) λr2=>ZU (a9 r2.2 3) λr3=>ZU (a9 r3.2 2) λr4=>ZU (cond (eqB (WR (1+r1.1)) 3) (ς (r4.2,(⟨WR (1+r1.1),r2.1,a1.bO,WR ((WR (a1.aZ+r3.1))-r4.1),a1.aA.uH,c8,0⟩:aT))) (ZU (cond (eqB (WR (1+r1.1)) 8) (ZU (a9 r4.2 4) λr17=>ZU (a9 r17.2 2) λr18=>ZU (Cr 0 (WR ((WR (a1.aK.bF-r17.1))+r18.1))) λr19=>ς (r19,r18.2)) (ς (0,r4.2))) λ((v15,v16):Int×aj)=>ς (v16,(⟨WR (1+r1.1),r2.1,a1.ag,WR ((WR (a1.aZ+r3.1))-r4.1),v15,c8,0⟩:aT)))) λ((v10,v11):aj×aT)=>ZU (iB a1.bj v11) λr20=>ZU (a9 v10 8) λr21=>ZU (cond (eqB r21.1 0) (ZU (ud r21.2) λr38=>ς (r38.2,{r20 with kf:=r38.1})) (ZU (cond (eqB r21.1 1) (ς {r20 with bZ:=WR (r20.bZ+1)}) (ZU (cond (eqB r21.1 2) (ς (WR (r20.ag+1))) (ς r20.ag)) λ(v42:Int)=>ς {r20 with ag:=v42})) λ(v41:aT)=>ς (r21.2,v41))) λ((v36,v37):aj×aT)=>ς (v37,v36)
instance zy4{a0:aj}{a1:ah}{r:aT×aj}:FCW prog (zy3 a0 a1=ς r) 188 (.var 115 (kM [.f] (aO a0))) [tP 200,.v (.agg (kM [.f,.f,.f] (df a1)))] (.var 115 (kM [.f] (aO r.2))) [.agg (qM [] (i6 r.1))]:=gW func188 ntmps188 (hC 24 (λ(v:aj×aT) sl ob nx=>⟨sl,[(200,.var 115 (kM [.f] (aO v.1))),(212,.var 79 (kM [] (i6 v.2)))]++ob,nx⟩)) (hC 33 (λ(v:Int×aj) sl ob nx=>⟨sl,[(200,.var 115 (kM [.f] (aO v.2)))]++(uC 212 4 [.d η (.i .i64 v.1)] ob),nx⟩)) (hz 7) (hC 52 (λ(v:aj×aT) sl ob nx=>⟨sl,[(200,.var 115 (kM [.f] (aO v.1))),(212,.var 79 (kM [] (i6 v.2)))]++fO [210] ob,nx⟩)) (hC 57 (λ(v:aT) sl ob nx=>⟨sl,[(212,.var 79 (kM [] (i6 v)))]++fO [210] ob,nx⟩)) (hC 63 (λ(v:Int) sl ob nx=>⟨sl,uC 212 2 [.d η (.i .i64 v)] ob,nx⟩)) (hz 1)
def zy5(a0:ah)(a1:aT):Option bU:=
 ZU (sZ a0 a1) λr1=>ZU (cond (!r1) (ς ζ) (ς (ltB a0.aK.bF a1.bZ))) λ(v2:Bool)=>cond v2 (ZU (nr a0) λr3=>ς r3) (ZU (iF a0) λr4=>ZU (iw a0.aK a1.bZ) λr5=>ZU (mq a0.aK.aM) λr6=>ZU (mq r5.aM) λr7=>ZU (ol a0.ci (WR (r6-r7))) λr8=>ς (⟨{r4 with eg:=0,aK:=r5,ci:=r8.1},([]:List aT)⟩:bU))
instance zy6{a0:ah}{a1:aT}{r:bU}:FC prog (zy5 a0 a1=ς r) 240 [.agg (cQ a0),.agg (eM a1)] [.agg (qM [.o,.o,.o,.o] (gp r))]:=gG func240 ntmps240 (hb 12 19) (hz 5)
end Go.AM
