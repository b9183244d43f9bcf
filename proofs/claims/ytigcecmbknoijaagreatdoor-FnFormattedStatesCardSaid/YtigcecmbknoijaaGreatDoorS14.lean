/- A part. -/
import Derived.Test.YtigcecmbknoijaaGreatDoorS5
import Derived.Test.YtigcecmbknoijaaGreatDoorS8
import Derived.Test.YtigcecmbknoijaaGreatDoorS9
set_option linter.unusedVariables false
open Option renaming some->ς,none->ξ
open Bool renaming true->ζ,false->η
open True renaming intro->θ
open Option renaming bind->ZS
namespace Go.AM
open Go.Proofs
open Tryz
attribute [local irreducible] AWN NS AWO AWR AWC DR DZ cM eN iter
set_option maxRecDepth 100000
set_option maxHeartbeats 40000000
variable{r:Go.AM.bU}
def kz(a0:ah)(a1:aT):Option bU:=
 ZS (i8 a0.b7.ID (WR (a0.b7.c9+1))) λr1=>ZS (oY a0.b7 r1) λr2=>bif(eqB r2.1.ID.dE a0.b7.ID.dE&&(eqB r2.1.ID.bZ a0.b7.ID.bZ&&(eqB r2.1.gS a0.b7.gS&&(eqB r2.1.c9 a0.b7.c9&&ζ)))) then(ZS (nr a0) λr3=>ς r3) else(ZS (iF a0) λr4=>ς (⟨{r4 with b7:=r2.1,aA:=r2.2,bO:=r2.1.c9},[(⟨2,a1.bg,r2.1.c9,0,0,r2.2,0⟩:aT)]⟩:bU))
instance Oe{a0:ah}{a1:aT} :FC prog (kz a0 a1=ς r) 94 [.agg (cQ a0),.agg (eM a1)] [.agg (qM [.o,.o,.o,.o] (gp r))]:=gG func94 ntmps94 (hz 1)
def qt(a0:ah)(a1:Int):Option bU:=
 ZS (iB a0.bj (⟨a1,a0.bg,a0.ag,a0.aZ,0,c8,0⟩:aT)) λr1=>ς (⟨a0,[r1]⟩:bU)
instance U7{a0:ah}{a1:Int} :FCV prog (qt a0 a1=ς r) 144 [] [.v (.agg (kM [.f,.f,.f] (df a0))),tI a1] [] (.v (.agg (kM [.f,.f,.f,.w 210] (gp r)))) [(210,w79 r.cT)]:=gV func144 ntmps144 (hz 2)
def i9(a0:ah)(a1:aT):Option bU:=
 ZS (cond (leB a0.bO 0) (ς ζ) (cond (!eqB a1.ag a0.bO) (ς ζ) (ZS (n9 a0.aA a1.bZ) λr2=>cond (!r2) (ς ζ) (ς (leB 999999 a0.aZ))))) λ(v1:Bool)=>cond v1 (ZS (nr a0) λr3=>ς r3) (ZS (iF a0) λr4=>ZS (qt (⟨r4.b7,r4.jj,1,c8,0,a0.bO,a0.aA.gS,WR (a0.aZ+1),a1.bg,0,gM,r4.aU,r4.aK,r4.d9,r4.ci⟩:ah) 4) λr5=>ς r5)
instance Kh{a0:ah}{a1:aT} :FC prog (i9 a0 a1=ς r) 95 [.agg (cQ a0),.agg (eM a1)] [.agg (qM [.d,.d,.d,.o] (gp r))]:=gG func95 ntmps95 (hb 9 28)
def AY(a0:aj)(a1:ax):Option (aT×aj):=
 ZS (a9 a0 8) λr1=>ZS (cond (eqB (WR (1+r1.1)) 2) (ZS (i8 a1.dZ.ID (WR (a1.dZ.dq+1))) λr18=>ZS (ge a1.dZ.gS r18 (WR (a1.dZ.dq+1))) λr19=>ZS (fD r1.2 3) λr20=>ZS (cond r20.1 (ZS (wF r20.2) λr31=>ς (r31.2,(⟨WR (1+r1.1),a1.bg,WR (a1.dZ.dq+1),a1.aZ,0,r31.1,0⟩:aT))) (ς (r20.2,(⟨WR (1+r1.1),a1.bg,WR (a1.dZ.dq+1),a1.aZ,0,r19,0⟩:aT)))) λ((v29,v30):aj×aT)=>ς (v29,v30)) (ZS (cond (eqB (WR (1+r1.1)) 4) (ZS (a9 r1.2 5) λr37=>ς (r37.1,r37.2)) (ς (a1.aZ,r1.2))) λ((v35,v36):Int×aj)=>ς (v36,(⟨WR (1+r1.1),a1.bg,a1.ag,v35,0,c8,0⟩:aT)))) λ((v16,v17):aj×aT)=>ZS (iB a1.bj v17) λr38=>ZS (a9 v16 8) λr39=>ZS (cond (eqB r39.1 0) (ZS (ud r39.2) λr56=>ς (r56.2,{r38 with kf:=r56.1})) (ZS (cond (eqB r39.1 1) (ZS (a9 r39.2 7) λr64=>ς (r64.2,{r38 with bg:=WR (r64.1-1)})) (ZS (cond (eqB r39.1 2) (ς (WR (r38.ag+1))) (ς r38.ag)) λ(v65:Int)=>ς (r39.2,{r38 with ag:=v65}))) λ((v62,v63):aj×aT)=>ς (v62,v63))) λ((v54,v55):aj×aT)=>ς (v55,v54)
instance Ou{a0:aj}{a1:ax}{r:aT×aj}:FCW prog (AY a0 a1=ς r) 187 (.var 115 (kM [.f] (aO a0))) [tP 200,.v (.agg (kM [.f,.f] (fy a1)))] (.var 115 (kM [.f] (aO r.2))) [.agg (qM [] (i6 r.1))]:=gW func187 ntmps187 (hC 23 (λ(v:aj×aT) sl ob nx=>⟨sl,[(200,.var 115 (kM [.f] (aO v.1))),(212,.var 79 (kM [] (i6 v.2)))]++ob,nx⟩)) (hC 39 (λ(v:aj×aT) sl ob nx=>⟨sl,[(200,.var 115 (kM [.f] (aO v.1))),(212,.var 79 (kM [] (i6 v.2)))]++ob,nx⟩)) (hz 6) (hC 43 (λ(v:Int×aj) sl ob nx=>⟨sl,[(200,.var 115 (kM [.f] (aO v.2)))]++(uC 212 3 [.d η (.i .i64 v.1)] ob),nx⟩)) (hC 54 (λ(v:aj×aT) sl ob nx=>⟨sl,[(200,.var 115 (kM [.f] (aO v.1))),(212,.var 79 (kM [] (i6 v.2)))]++fO [210] ob,nx⟩)) (hC 59 (λ(v:aj×aT) sl ob nx=>⟨sl,[(200,.var 115 (kM [.f] (aO v.1))),(212,.var 79 (kM [] (i6 v.2)))]++fO [210] ob,nx⟩)) (hC 65 (λ(v:Int) sl ob nx=>⟨sl,uC 212 2 [.d η (.i .i64 v)] ob,nx⟩)) (hz 2)
def jv(a0:ah)(a1:aT):Option bU:=
 ZS (sZ a0 a1) λr1=>ZS (cond (!r1) (ς ζ) (cond (ltB a1.aZ a0.aZ) (ς ζ) (cond (eqB a1.aZ a0.aZ) (ς (!eqB a1.bg a0.bg)) (ς η)))) λ(v2:Bool)=>cond v2 (ZS (nr a0) λr3=>ς r3) (ZS (iF a0) λr4=>ZS (qt {r4 with aZ:=a1.aZ,bg:=a1.bg,eg:=0,jn:=gM,d9:=0} 6) λr5=>ς r5)
instance Iu{a0:ah}{a1:aT} :FC prog (jv a0 a1=ς r) 239 [.agg (cQ a0),.agg (eM a1)] [.agg (qM [.d,.d,.d,.o] (gp r))]:=gG func239 ntmps239 (hb 10 30)
end Go.AM
