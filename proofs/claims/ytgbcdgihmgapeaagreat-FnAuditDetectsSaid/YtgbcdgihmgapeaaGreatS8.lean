/- A part. -/
import Derived.Test.YtgbcdgihmgapeaaGreatS0
import Derived.Test.YtgbcdgihmgapeaaGreatS3
import Derived.Test.YtgbcdgihmgapeaaGreatS4
set_option linter.unusedVariables false
open Option renaming some->ς,none->ξ
open Bool renaming true->ζ,false->η
open True renaming intro->θ
open Option renaming bind->abd
namespace Go.AM
open Go.Proofs
open Tryz
attribute [local irreducible] AWN NS AWO AWR AWC DR DZ cB eZ iter
set_option maxRecDepth 100000
set_option maxHeartbeats 40000000
variable{a0 a1:Int}{r:Bool}
def nu(a0:Int)(a1:Int):Option Int:=
 abd (ed a0 [9,a1]) λr1=>abd (Cw 1 r1) λr2=>ς r2
instance VL{r:Int}:FC prog (nu a0 a1=ς r) 187 [aI a0,aI a1] [.c (.d (.i .i64 r))]:=gG func187 ntmps187
def jY(a1:jN):(Int×Int)->Option (ct (Int×Int) (Int))
 |(v1,v2)=>cond (ltB v2 (a1.Steps.length:Int)) (abd (ix a1.Steps v2) λx6=>abd (nu v1 x6) λr7=>ς (.next (r7,WR (v2+1)))) (ς (.done v1))
def ou(a0:Int)(a1:jN):Option Int:=
 abd (iter (jY a1) FU (a0,0)) λ(v5:Int)=>ς v5
instance Ug{a1:jN}{r:Int}:FC prog (ou a0 a1=ς r) 189 [aI a0,.agg (NL a1)] [.c (.d (.i .i64 r))]:=gG func189 ntmps189 (hm 0 5 6) (he 0 5 6)
def qC(a0:Int)(a1:aM):Option Int:=
 abd (mI) λr1=>abd (ou a0 r1) λr2=>abd (ed r2 [23,a1.bk,a1.bv,a1.ag,a1.bi,a1.bX]) λr3=>ς r3
instance VQ{a1:aM}{r:Int}:FC prog (qC a0 a1=ς r) 195 [aI a0,.agg (eB a1)] [.c (.d (.i .i64 r))]:=gG func195 ntmps195
def iL(a0:Int)(a1:aM):Option aM:=
 abd (qC a0 a1) λr1=>ς {a1 with jD:=r1}
instance Uk{a1:aM}{r:aM}:FC prog (iL a0 a1=ς r) 157 [aI a0,.agg (eB a1)] [.agg (qM [] (iy r))]:=gG func157 ntmps157
def tq(a0:aC):Option aM:=
 abd (iL a0.aY (⟨5,a0.bv,a0.ag,a0.bi,0,df,0⟩:aM)) λr1=>ς r1
instance YM{a0:aC}{r:aM}:FC prog (tq a0=ς r) 136 [.agg (di a0)] [.agg (qM [] (iy r))]:=gG func136 ntmps136
def ju(a0:ah):Int->Option (ct (Int) (Bool))
 |v5=>cond (ltB v5 (a0.ax.aG.length:Int)) (abd (ix a0.ax.aG v5) λx6=>abd (ix a0.av (WR (x6.cZ-1))) λx7=>abd (om x6.bb x7.bb) λr8=>cond (!r8) (dn (ς η)) (ς (.next (WR (v5+1))))) (dn (abd (nC a0.ax.aG) λr9=>abd (jn a0.bV) λr10=>ς (leB r9 r10)))
def nW(a0:ah):Int->Option (ct (Int) (Bool))
 |v1=>cond (ltB v1 (a0.av.length:Int)) (abd (ix a0.av v1) λx2=>cond (ltB 60 (x2.bb.length:Int)) (dn (ς η)) (ς (.next (WR (v1+1))))) (dn (abd (cond (ltB 24 (a0.av.length:Int)) (ς ζ) (abd (jW a0.ax) λr4=>cond (!r4) (ς ζ) (ς (ltB (WR ((a0.av.length:Int)+1)) a0.ax.bC)))) λ(v3:Bool)=>cond v3 (ς η) (iter (ju a0) FU 0)))
def ug(a0:ah):Option Bool:=
 iter (nW a0) FU 0
instance V6{a0:ah} :FC prog (ug a0=ς r) 133 [.agg (cO a0)] [.c (.d (.b r))]:=gG func133 ntmps133 (hl 0 3) (hb 25 40) (hl 2 4)
def jm(a0:ah):Option Bool:=
 abd (cond (eqB a0.bB 1) (abd (f5 a0.aY) λr2=>cond (!r2) (ς ζ) (cond (ltB 0 a0.bG) (abd (f5 a0.aO.eV) λr3=>cond (!r3) (ς ζ) (abd (cQ a0.bB 0 1) λr4=>ς (!r4))) (abd (cQ a0.bB 0 1) λr5=>ς (!r5)))) (cond (ltB 0 a0.bG) (abd (f5 a0.aO.eV) λr6=>cond (!r6) (ς ζ) (abd (cQ a0.bB 0 1) λr7=>ς (!r7))) (abd (cQ a0.bB 0 1) λr8=>ς (!r8)))) λ(v1:Bool)=>cond v1 (ς η) (abd (d5 a0.bH) λr9=>abd (cond (!r9) (ς ζ) (abd (fB a0.ip) λr11=>cond (!r11) (ς ζ) (abd (my a0.jw) λr12=>cond (!r12) (ς ζ) (abd (f6 a0.bV) λr13=>cond (!r13) (ς ζ) (abd (ug a0) λr14=>ς (!r14)))))) λ(v10:Bool)=>cond v10 (ς η) (abd (cQ a0.bG 0 999999) λr15=>abd (cond (!r15) (ς ζ) (abd (cQ a0.ag 0 999999) λr17=>cond (!r17) (ς ζ) (abd (cQ a0.bi 0 999999) λr18=>cond (!r18) (ς ζ) (abd (cQ a0.aY 0 2147483646) λr19=>ς (!r19))))) λ(v16:Bool)=>cond v16 (ς η) (abd (cQ a0.bv 0 5) λr20=>abd (cond r20 (abd (cQ a0.d9 0 5) λr22=>cond r22 (abd (cQ a0.d6 0 3) λr23=>ς r23) (ς η)) (ς η)) λ(v21:Bool)=>ς v21)))
instance MY{a0:ah} :FC prog (jm a0=ς r) 82 [.agg (cO a0)] [.c (.d (.b r))]:=gG func82 ntmps82 (hb 6 29) (hb 34 56) (hb 61 78) (hb 82 2)
def vj(a0:ah):Option Bool:=
 abd (cond (!eqB a0.bB 1) (ς ζ) (abd (jm a0) λr2=>ς (!r2))) λ(v1:Bool)=>ς v1
instance CP{a0:ah} :FC prog (vj a0=ς r) 137 [.agg (cO a0)] [.c (.d (.b r))]:=gG func137 ntmps137 (hb 6 2)
def pJ(a0:Int)(a1:Int):Option Int:=
 abd (sO a1) λr1=>abd (ou a0 r1) λr2=>ς r2
instance WU{r:Int}:FC prog (pJ a0 a1=ς r) 153 [aI a0,aI a1] [.c (.d (.i .i64 r))]:=gG func153 ntmps153
def mC(a0:ah)(a1:Int):Option Int:=
 abd (mB a0) λr1=>abd (jn a0.bV) λr2=>abd (Cw 0 (WR ((WR (r1+a1))-r2))) λr3=>ς r3
instance CA{a0:ah}{r:Int}:FC prog (mC a0 a1=ς r) 173 [.agg (cO a0),aI a1] [.c (.d (.i .i64 r))]:=gG func173 ntmps173
def gv(a0:Int)(a1:Int)(a2:Int):Option cM:=
 abd (cQ a2 0 999999) λr1=>cond (!r1) (ς df) (abd (kX a0 a1) λr2=>abd (Dm (WR (a2+r2)) 1000000) λr3=>abd (ed a0 [2,a1,a2]) λr4=>abd (ed a0 [3,a1]) λr5=>abd (ed a0 [4,a1,a2]) λr6=>abd (Cw 1 r6) λr7=>ς (⟨a1,r3,r4,r5,r7⟩:cM))
instance OT{a2:Int}{r:cM}:FC prog (gv a0 a1 a2=ς r) 154 [aI a0,aI a1,aI a2] [.agg (qM [] (lR r))]:=gG func154 ntmps154
def oL(a0:aF)(a1:Int):Option (aF×cM):=
 abd (d5 a0) λr1=>abd (cond (!r1) (ς ζ) (ς (eqB a0.cZ 999999))) λ(v2:Bool)=>cond v2 (ς (a0,df)) (abd (gv a0.eV a1 (WR (a0.cZ+1))) λr3=>ς ({a0 with cZ:=WR (a0.cZ+1)},r3))
instance MZ{a0:aF}{r:aF×cM}:FC prog (oL a0 a1=ς r) 204 [.agg (dR a0),aI a1] [.agg (qM [] (xf r.1)),.agg (qM [] (lR r.2))]:=gG func204 ntmps204 (hb 10 14) (hz 5)
def qG(a0:ah)(a1:Int):Option bU:=
 abd (iL a0.aY (⟨a1,a0.bv,a0.ag,a0.bi,0,df,0⟩:aM)) λr1=>ς (⟨a0,[r1]⟩:bU)
instance V5{a0:ah}{r:bU}:FCV prog (qG a0 a1=ς r) 206 [] [.v (.agg (kM [.f,.f,.f] (eC a0))),tI a1] [] (.v (.agg (kM [.f,.f,.f,.w 210] (fQ r)))) [(210,w65 r.dF)]:=gV func206 ntmps206 (hz 2)
def f7(a0:Int)(a1:aM):Option Bool:=
 abd (qC a0 a1) λr1=>ς (eqB a1.jD r1)
instance Px{a1:aM} :FC prog (f7 a0 a1=ς r) 184 [aI a0,.agg (eB a1)] [.c (.d (.b r))]:=gG func184 ntmps184
def tu(a0:ah)(a1:aM):Option Bool:=
 abd (cond (eqB a0.bB 1) (cond (eqB a1.ag a0.ag) (abd (f7 a0.aY a1) λr2=>ς r2) (ς η)) (ς η)) λ(v1:Bool)=>ς v1
instance W1{a0:ah}{a1:aM} :FC prog (tu a0 a1=ς r) 207 [.agg (cO a0),.agg (eB a1)] [.c (.d (.b r))]:=gG func207 ntmps207 (hb 8 4)
def vi(a0:aC):Option bj:=
 abd (tq {a0 with bi:=WR (a0.bi+1),dr:=η}) λr1=>abd (lc {a0 with bi:=WR (a0.bi+1),dr:=η} r1) λr2=>ς r2
instance YK{a0:aC}{r:bj}:FCV prog (vi a0=ς r) 146 [] [.v (.agg (kM [.f,.f] (qa a0)))] [] (.v (.agg (kM [.f,.f,.w 210] (eb r)))) [(210,w65 r.dF)]:=gV func146 ntmps146 (hz 3)
def kJ(a0:lN)(a1:cM):Option (lN×nH):=
 abd (mz a0) λr1=>cond (!r1) (ς (a0,{kh with Code:=1})) (abd (kZ a0.eV a0.dJ a1) λr2=>cond (eqB r2 0) (abd (jo a0.eV a1.eQ a1.ie) λr3=>abd (ed a0.eV [3,a1.eQ]) λr4=>abd (gv a0.eV a1.eQ r3) λr5=>ς ({a0 with dJ:=r3},{kh with wy:=r4,wW:=r5.eV})) (abd (cond (eqB r2 2) (ς (eqB r2 2)) (ς (eqB r2 3))) λ(v6:Bool)=>cond v6 (abd (pw a0.eV a1.eQ a0.dJ) λr7=>ς (a0,{kh with Code:=r2,Wq:=r7})) (ς (a0,{kh with Code:=r2}))))
instance GL{a0:lN}{a1:cM}{r:lN×nH}:FC prog (kJ a0 a1=ς r) 212 [.agg (Fg a0),.agg (tM a1)] [.agg (qM [] (Xw r.1)),.agg (qM [] (BH r.2))]:=gG func212 ntmps212 (hz 9) (hc 48 48) (hz 12)
def we(a0:aT):Option (cM×aT):=
 abd (xD a0) λr1=>abd (cj r1.2 50) λr2=>abd (Gt r2.2) λr3=>abd (gv r1.1 r2.1 r3.1) λr4=>abd (cj r3.2 8) λr5=>abd (cond (eqB r5.1 0) (abd (wd r5.2) λr16=>ς (r16.2,{r4 with jD:=r16.1})) (abd (cond (eqB r5.1 1) (abd (xA r5.2 [WR (r4.ie+1),-1,1000000,WR (r4.ie+1000000)]) λr24=>ς (r24.2,{r4 with ie:=r24.1})) (abd (cond (eqB r5.1 2) (ς (WR (r4.eQ+1))) (ς r4.eQ)) λ(v25:Int)=>ς (r5.2,{r4 with eQ:=v25}))) λ((v22,v23):aT×cM)=>ς (v22,v23))) λ((v14,v15):aT×cM)=>ς (v15,v14)
instance W2{a0:aT}{r:cM×aT}:FCW prog (we a0=ς r) 156 (.var 92 (kM [.f] (bZ a0))) [tP 200] (.var 92 (kM [.f] (bZ r.2))) [.agg (qM [] (lR r.1))]:=gW func156 ntmps156 (hC 17 (λ(v:aT×cM) sl ob nx=>⟨sl,[(200,.var 92 (kM [.f] (bZ v.1))),(211,.var 63 (kM [] (lR v.2)))]++ob,nx⟩)) (hC 22 (λ(v:aT×cM) sl ob nx=>⟨sl,[(200,.var 92 (kM [.f] (bZ v.1))),(211,.var 63 (kM [] (lR v.2)))]++ob,nx⟩)) (hC 34 (λ(v:Int) sl ob nx=>⟨sl,uC 211 0 [.d η (.i .i64 v)] ob,nx⟩))
def A1(a0:aT)(a1:aC):Option (aM×aT):=
 abd (cj a0 8) λr1=>abd (cond (eqB (WR (1+r1.1)) 2) (abd (jV a1.dx.ID (WR (a1.dx.dJ+1))) λr18=>abd (gv a1.dx.eV r18 (WR (a1.dx.dJ+1))) λr19=>abd (gY r1.2 3) λr20=>abd (cond r20.1 (abd (we r20.2) λr31=>ς (r31.2,(⟨WR (1+r1.1),a1.bv,WR (a1.dx.dJ+1),a1.bi,0,r31.1,0⟩:aM))) (ς (r20.2,(⟨WR (1+r1.1),a1.bv,WR (a1.dx.dJ+1),a1.bi,0,r19,0⟩:aM)))) λ((v29,v30):aT×aM)=>ς (v29,v30)) (abd (cond (eqB (WR (1+r1.1)) 4) (abd (cj r1.2 5) λr37=>ς (r37.1,r37.2)) (ς (a1.bi,r1.2))) λ((v35,v36):Int×aT)=>ς (v36,(⟨WR (1+r1.1),a1.bv,a1.ag,v35,0,df,0⟩:aM)))) λ((v16,v17):aT×aM)=>abd (iL a1.aY v17) λr38=>abd (cj v16 8) λr39=>abd (cond (eqB r39.1 0) (abd (wd r39.2) λr56=>ς (r56.2,{r38 with jD:=r56.1})) (abd (cond (eqB r39.1 1) (abd (cj r39.2 7) λr64=>ς (r64.2,{r38 with bv:=WR (r64.1-1)})) (abd (cond (eqB r39.1 2) (ς (WR (r38.ag+1))) (ς r38.ag)) λ(v65:Int)=>ς (r39.2,{r38 with ag:=v65}))) λ((v62,v63):aT×aM)=>ς (v62,v63))) λ((v54,v55):aT×aM)=>ς (v55,v54)
instance sl29Ctl_c{a0:aT}{a1:aC}{r:aM×aT}:FCW prog (A1 a0 a1=ς r) 124 (.var 92 (kM [.f] (bZ a0))) [tP 200,.v (.agg (kM [.f,.f] (qa a1)))] (.var 92 (kM [.f] (bZ r.2))) [.agg (qM [] (iy r.1))]:=gW func124 ntmps124 (hC 23 (λ(v:aT×aM) sl ob nx=>⟨sl,[(200,.var 92 (kM [.f] (bZ v.1))),(212,.var 65 (kM [] (iy v.2)))]++ob,nx⟩)) (hC 39 (λ(v:aT×aM) sl ob nx=>⟨sl,[(200,.var 92 (kM [.f] (bZ v.1))),(212,.var 65 (kM [] (iy v.2)))]++ob,nx⟩)) (hz 6) (hC 43 (λ(v:Int×aT) sl ob nx=>⟨sl,[(200,.var 92 (kM [.f] (bZ v.2)))]++(uC 212 3 [.d η (.i .i64 v.1)] ob),nx⟩)) (hC 54 (λ(v:aT×aM) sl ob nx=>⟨sl,[(200,.var 92 (kM [.f] (bZ v.1))),(212,.var 65 (kM [] (iy v.2)))]++fO [210] ob,nx⟩)) (hC 59 (λ(v:aT×aM) sl ob nx=>⟨sl,[(200,.var 92 (kM [.f] (bZ v.1))),(212,.var 65 (kM [] (iy v.2)))]++fO [210] ob,nx⟩)) (hC 65 (λ(v:Int) sl ob nx=>⟨sl,uC 212 2 [.d η (.i .i64 v)] ob,nx⟩)) (hz 2)
def uf(a0:aT)(a1:ah):Option (aM×aT):=
 abd (cj a0 8) λr1=>abd (cj r1.2 5) λr2=>abd (cj r2.2 3) λr3=>abd (cj r3.2 2) λr4=>abd (cond (eqB (WR (1+r1.1)) 3) (ς (r4.2,(⟨WR (1+r1.1),r2.1,a1.bG,WR ((WR (a1.bi+r3.1))-r4.1),a1.aO.wy,df,0⟩:aM))) (abd (cond (eqB (WR (1+r1.1)) 8) (abd (cj r4.2 4) λr17=>abd (cj r17.2 2) λr18=>abd (Cw 0 (WR ((WR (a1.ax.bC-r17.1))+r18.1))) λr19=>ς (r19,r18.2)) (ς (0,r4.2))) λ((v15,v16):Int×aT)=>ς (v16,(⟨WR (1+r1.1),r2.1,a1.ag,WR ((WR (a1.bi+r3.1))-r4.1),v15,df,0⟩:aM)))) λ((v10,v11):aT×aM)=>abd (iL a1.aY v11) λr20=>abd (cj v10 8) λr21=>abd (cond (eqB r21.1 0) (abd (wd r21.2) λr38=>ς (r38.2,{r20 with jD:=r38.1})) (abd (cond (eqB r21.1 1) (ς {r20 with bX:=WR (r20.bX+1)}) (abd (cond (eqB r21.1 2) (ς (WR (r20.ag+1))) (ς r20.ag)) λ(v42:Int)=>ς {r20 with ag:=v42})) λ(v41:aM)=>ς (r21.2,v41))) λ((v36,v37):aT×aM)=>ς (v37,v36)
instance V4{a0:aT}{a1:ah}{r:aM×aT}:FCW prog (uf a0 a1=ς r) 125 (.var 92 (kM [.f] (bZ a0))) [tP 200,.v (.agg (kM [.f,.f,.f] (eC a1)))] (.var 92 (kM [.f] (bZ r.2))) [.agg (qM [] (iy r.1))]:=gW func125 ntmps125 (hC 24 (λ(v:aT×aM) sl ob nx=>⟨sl,[(200,.var 92 (kM [.f] (bZ v.1))),(212,.var 65 (kM [] (iy v.2)))]++ob,nx⟩)) (hC 33 (λ(v:Int×aT) sl ob nx=>⟨sl,[(200,.var 92 (kM [.f] (bZ v.2)))]++(uC 212 4 [.d η (.i .i64 v.1)] ob),nx⟩)) (hz 7) (hC 52 (λ(v:aT×aM) sl ob nx=>⟨sl,[(200,.var 92 (kM [.f] (bZ v.1))),(212,.var 65 (kM [] (iy v.2)))]++fO [210] ob,nx⟩)) (hC 57 (λ(v:aM) sl ob nx=>⟨sl,[(212,.var 65 (kM [] (iy v)))]++fO [210] ob,nx⟩)) (hC 63 (λ(v:Int) sl ob nx=>⟨sl,uC 212 2 [.d η (.i .i64 v)] ob,nx⟩)) (hz 1)
def mS(a0:ah)(a1:aM):Option Bool:=
 cond (eqB a1.bk 3) (abd (cond (leB a1.ag a0.bH.cZ) (cond (!eqB a1.ag a0.bG) (ς ζ) (ς (!eqB a1.bX a0.aO.wy))) (ς η)) λ(v1:Bool)=>ς v1) (abd (cond (eqB a1.bk 5) (ς (eqB a1.bk 5)) (ς (eqB a1.bk 8))) λ(v2:Bool)=>cond v2 (abd (cond (ltB a1.ag a0.ag) (ς ζ) (cond (eqB a1.ag a0.ag) (abd (f7 a0.aY a1) λr4=>ς (!r4)) (ς η))) λ(v3:Bool)=>ς v3) (ς ζ))
instance O8{a0:ah}{a1:aM} :FC prog (mS a0 a1=ς r) 161 [.agg (cO a0),.agg (eB a1)] [.c (.d (.b r))]:=gG func161 ntmps161 (hb 15 4) (hc 30 30) (hb 38 4)
def ky(a0:aC)(a1:aM):Option Bool:=
 cond (eqB a1.bk 2) (abd (kZ a0.dx.eV a0.dx.dJ a1.bY) λr1=>abd (cond (eqB r1 1) (ς ζ) (ς (eqB r1 2))) λ(v2:Bool)=>ς v2) (abd (cond (eqB a1.bk 4) (ς (eqB a1.bk 4)) (ς (eqB a1.bk 6))) λ(v3:Bool)=>cond v3 (abd (cond (ltB a1.ag a0.ag) (ς ζ) (cond (eqB a1.ag a0.ag) (abd (f7 a0.aY a1) λr5=>ς (!r5)) (ς η))) λ(v4:Bool)=>ς v4) (ς ζ))
instance K1{a0:aC}{a1:aM} :FC prog (ky a0 a1=ς r) 162 [.agg (di a0),.agg (eB a1)] [.c (.d (.b r))]:=gG func162 ntmps162 (hb 21 4) (hc 25 25) (hb 33 4)
end Go.AM
