/- A part. -/
import Derived.Test.YtfbpfflnhfcmaaaGreatS7
set_option linter.unusedVariables false
open Option renaming some->ς,none->ξ
open Bool renaming true->ζ,false->η
open True renaming intro->θ
open Option renaming bind->afW
namespace Go.AM
open Go.Proofs
open Tryz
attribute [local irreducible] AWN NS AWO AWR AWC DR DZ dm gK iter
set_option maxRecDepth 100000
set_option maxHeartbeats 40000000
variable{a0 a1:Int}{r:Bool}
def jv(a0:ab):Int->Option (cj (Int) (Bool))
 |v6=>cond (ltB v6 (a0.aH.length:Int)) (afW (ix a0.aH v6) λx7=>afW (dt x7.aY 0 (WR ((a0.aj.length:Int)-1))) λr8=>afW (cond (!r8) (ς ζ) (afW (ix a0.aH v6) λx10=>afW (dt x10.aS 0 (WR ((a0.cp.bp.length:Int)-1))) λr11=>ς (!r11))) λ(v9:Bool)=>cond v9 (dn (ς η)) (ς (.next (WR (v6+1))))) (dn (cond (leB 0 (a0.cp.bp.length:Int)) (afW (dt a0.bH 0 (WR ((nO .i64 1 (a0.cp.bp.length:Int))-1))) λr12=>afW (cond r12 (afW (dt a0.iS 0 100000) λr14=>cond r14 (ς (leB 0 a0.Lost)) (ς η)) (ς η)) λ(v13:Bool)=>ς v13) ξ))
def ju(a0:ab):Int->Option (cj (Int) (Bool))
 |v4=>cond (ltB v4 (a0.aj.length:Int)) (afW (zg a0 v4) λr5=>cond (!r5) (dn (ς η)) (ς (.next (WR (v4+1))))) (dn (iter (jv a0) FU 0))
def oO(a0:ab):Option Bool:=
 afW (sZ a0.cp) λr1=>afW (cond (!r1) (ς ζ) (afW (nB a0.fg) λr3=>cond (!r3) (ς ζ) (cond (eqB a0.fg.fZ 0) (ς ζ) (cond (ltB 4 (a0.aj.length:Int)) (ς ζ) (cond (!eqB (a0.an.length:Int) (a0.aj.length:Int)) (ς ζ) (cond (!eqB (a0.aT.length:Int) (a0.aj.length:Int)) (ς ζ) (ς (ltB 200 (a0.aH.length:Int))))))))) λ(v2:Bool)=>cond v2 (ς η) (iter (ju a0) FU 0)
instance TU{a0:ab} :FC prog (oO a0=ς r) 21 [.agg (eb a0)] [.c (.d (.b r))]:=gG func21 ntmps21 (hb 9 50) (hl 0 3) (hl 2 4) (hb 81 95) (hb 105 2)
def uw(a0:Int)(a1:Int):Option Int:=
 afW (xl a1) λr1=>afW (s5 a0 r1) λr2=>ς r2
instance aeN{r:Int}:FC prog (uw a0 a1=ς r) 80 [aI a0,aI a1] [.c (.d (.i .i64 r))]:=gG func80 ntmps80
def qI(a0:Int)(a1:aF):Option Bool:=
 afW (lK a1.bO) λr1=>afW (cond r1 (cond (eqB a1.bO.di 1) (afW (uw a0 a1.aK) λr3=>afW (vj r3 a1.bO) λr4=>ς r4) (ς η)) (ς η)) λ(v2:Bool)=>ς v2
instance aaA{a1:aF} :FC prog (qI a0 a1=ς r) 32 [aI a0,.agg (df a1)] [.c (.d (.b r))]:=gG func32 ntmps32 (hb 8 4)
def vi(a0:Int)(a1:aG):Option Int:=
 afW (qF) λr1=>afW (s5 a0 r1) λr2=>afW (fA r2 [23,a1.bb,a1.aS,a1.ae,a1.aK,a1.bP]) λr3=>ς r3
instance adG{a1:aG}{r:Int}:FC prog (vi a0 a1=ς r) 157 [aI a0,.agg (dE a1)] [.c (.d (.i .i64 r))]:=gG func157 ntmps157
def ji(a0:Int)(a1:aG):Option Bool:=
 afW (vi a0 a1) λr1=>ς (eqB a1.kr r1)
instance W5{a1:aG} :FC prog (ji a0 a1=ς r) 81 [aI a0,.agg (dE a1)] [.c (.d (.b r))]:=gG func81 ntmps81
def qP(a0:ag)(a1:aG):Option Bool:=
 cond (eqB a1.bb 3) (afW (cond (leB a1.ae a0.bD.cH) (cond (!eqB a1.ae a0.bA) (ς ζ) (ς (!eqB a1.bP a0.aV.vB))) (ς η)) λ(v1:Bool)=>ς v1) (afW (cond (eqB a1.bb 5) (ς (eqB a1.bb 5)) (ς (eqB a1.bb 8))) λ(v2:Bool)=>cond v2 (afW (cond (ltB a1.ae a0.ae) (ς ζ) (cond (eqB a1.ae a0.ae) (afW (ji a0.aZ a1) λr4=>ς (!r4)) (ς η))) λ(v3:Bool)=>ς v3) (ς ζ))
instance Wk{a0:ag}{a1:aG} :FC prog (qP a0 a1=ς r) 33 [.agg (cr a0),.agg (dE a1)] [.c (.d (.b r))]:=gG func33 ntmps33 (hb 15 4) (hc 30 30) (hb 38 4)
def oD(a0:Int)(a1:Int)(a2:ct):Option Int:=
 afW (lM a0 a2.eJ a2.gD) λr1=>afW (fA a0 [2,a2.eJ,r1]) λr2=>cond (!eqB a2.kr r2) (ς 1) (cond (leB r1 a1) (ς 2) (cond (ltB a1 (WR (r1-1000))) (ς 3) (ς 0)))
instance W6{a2:ct}{r:Int}:FC prog (oD a0 a1 a2=ς r) 82 [aI a0,aI a1,.agg (ni a2)] [.c (.d (.i .i64 r))]:=gG func82 ntmps82
def nH(a0:aA)(a1:aG):Option Bool:=
 cond (eqB a1.bb 2) (afW (oD a0.dq.eV a0.dq.dh a1.bZ) λr1=>afW (cond (eqB r1 1) (ς ζ) (ς (eqB r1 2))) λ(v2:Bool)=>ς v2) (afW (cond (eqB a1.bb 4) (ς (eqB a1.bb 4)) (ς (eqB a1.bb 6))) λ(v3:Bool)=>cond v3 (afW (cond (ltB a1.ae a0.ae) (ς ζ) (cond (eqB a1.ae a0.ae) (afW (ji a0.aZ a1) λr5=>ς (!r5)) (ς η))) λ(v4:Bool)=>ς v4) (ς ζ))
instance Rv{a0:aA}{a1:aG} :FC prog (nH a0 a1=ς r) 34 [.agg (dR a0),.agg (dE a1)] [.c (.d (.b r))]:=gG func34 ntmps34 (hb 21 4) (hc 25 25) (hb 33 4)
def vg(a0:Int)(a1:Int)(a2:Int)(a3:ah):Option aF:=
 afW (uw a0 a2) λr1=>afW (If r1 1 a3.cH a3.bh) λr2=>ς (⟨a1,a2,r2⟩:aF)
instance adF{a2:Int}{a3:ah}{r:aF}:FC prog (vg a0 a1 a2 a3=ς r) 240 [aI a0,aI a1,aI a2,.agg (bC a3)] [.agg (qM [.o] (kf r))]:=gG func240 ntmps240 (hz 1)
def BG(a0:bu):Option (ct×bu):=
 afW (CQ a0) λr1=>afW (cS r1.2 50) λr2=>afW (My r2.2) λr3=>afW (jw r1.1 r2.1 r3.1) λr4=>afW (cS r3.2 8) λr5=>afW (cond (eqB r5.1 0) (afW (BF r5.2) λr16=>ς (r16.2,{r4 with kr:=r16.1})) (afW (cond (eqB r5.1 1) (afW (CP r5.2 [WR (r4.gD+1),-1,1000000,WR (r4.gD+1000000)]) λr24=>ς (r24.2,{r4 with gD:=r24.1})) (afW (cond (eqB r5.1 2) (ς (WR (r4.eJ+1))) (ς r4.eJ)) λ(v25:Int)=>ς (r5.2,{r4 with eJ:=v25}))) λ((v22,v23):bu×ct)=>ς (v22,v23))) λ((v14,v15):bu×ct)=>ς (v15,v14)
instance aeX{a0:bu}{r:ct×bu}:FCW prog (BG a0=ς r) 308 (.var 124 (kM [.f] (cB a0))) [tP 200] (.var 124 (kM [.f] (cB r.2))) [.agg (qM [] (kV r.1))]:=gW func308 ntmps308 (hC 17 (λ(v:bu×ct) sl ob nx=>⟨sl,[(200,.var 124 (kM [.f] (cB v.1))),(211,.var 40 (kM [] (kV v.2)))]++ob,nx⟩)) (hC 22 (λ(v:bu×ct) sl ob nx=>⟨sl,[(200,.var 124 (kM [.f] (cB v.1))),(211,.var 40 (kM [] (kV v.2)))]++ob,nx⟩)) (hC 34 (λ(v:Int) sl ob nx=>⟨sl,uC 211 0 [.d η (.i .i64 v)] ob,nx⟩))
def kR(a0:Int)(a1:aG):Option aG:=
 afW (vi a0 a1) λr1=>ς {a1 with kr:=r1}
instance abT{a1:aG}{r:aG}:FC prog (kR a0 a1=ς r) 309 [aI a0,.agg (dE a1)] [.agg (qM [] (ij r))]:=gG func309 ntmps309
def tw(a0:a8)(a1:Int):Option (a8×ct):=
 afW (fc a0) λr1=>afW (cond (!r1) (ς ζ) (ς (eqB a0.cH 999999))) λ(v2:Bool)=>cond v2 (ς (a0,cO)) (afW (jw a0.eV a1 (WR (a0.cH+1))) λr3=>ς ({a0 with cH:=WR (a0.cH+1)},r3))
instance TY{a0:a8}{r:a8×ct}:FC prog (tw a0 a1=ς r) 366 [.agg (eB a0),aI a1] [.agg (qM [] (uP r.1)),.agg (qM [] (kV r.2))]:=gG func366 ntmps366 (hb 10 14) (hz 5)
def qA(a0:ag)(a1:aG):Option bJ:=
 afW (mO a0.bD.ID (WR (a0.bD.cH+1))) λr1=>afW (tw a0.bD r1) λr2=>bif(eqB r2.1.ID.eF a0.bD.ID.eF&&(eqB r2.1.ID.bP a0.bD.ID.bP&&(eqB r2.1.eV a0.bD.eV&&(eqB r2.1.cH a0.bD.cH&&ζ)))) then(afW (qK a0) λr3=>ς r3) else(afW (jZ a0) λr4=>ς (⟨{r4 with bD:=r2.1,aV:=r2.2,bA:=r2.1.cH},[(⟨2,a1.aS,r2.1.cH,0,0,r2.2,0⟩:aG)]⟩:bJ))
instance V1{a0:ag}{a1:aG}{r:bJ}:FC prog (qA a0 a1=ς r) 330 [.agg (cr a0),.agg (dE a1)] [.agg (qM [.o,.o,.o,.o] (ev r))]:=gG func330 ntmps330 (hz 1)
def CJ(a0:Int)(a1:Int)(a2:Int)(a3:bF):Option (List Int×Int×Bool):=
 afW (lK a3) λr1=>afW (cond (!r1) (ς ζ) (cond (!eqB a3.di a1) (ς ζ) (afW (vj a0 a3) λr3=>cond (!r3) (ς ζ) (ς (leB a3.gR a2))))) λ(v2:Bool)=>cond v2 (ς (([]:List Int),a2,η)) (afW (rL a0 (WR ((WR (2*a3.gR))+a3.di))) λr4=>afW (DL r4 a3.bh) λr5=>ς (r5,a3.gR,ζ))
instance adI{a2:Int}{a3:bF}{r:List Int×Int×Bool}:FC prog (CJ a0 a1 a2 a3=ς r) 385 [aI a0,aI a1,aI a2,.agg (eZ a3)] [.c (.own 5 1 (r.1.map eU8) r.1.length),.c (.d (.i .i64 r.2.1)),.c (.d (.b r.2.2))]:=gG func385 ntmps385 (hb 14 31)
def nR(a0:mw)(a1:ct):Option (mw×gU):=
 afW (qw a0) λr1=>cond (!r1) (ς (a0,{jy with Code:=1})) (afW (oD a0.eV a0.dh a1) λr2=>cond (eqB r2 0) (afW (lM a0.eV a1.eJ a1.gD) λr3=>afW (fA a0.eV [3,a1.eJ]) λr4=>afW (jw a0.eV a1.eJ r3) λr5=>ς ({a0 with dh:=r3},{jy with vB:=r4,yg:=r5.eV})) (afW (cond (eqB r2 2) (ς (eqB r2 2)) (ς (eqB r2 3))) λ(v6:Bool)=>cond v6 (afW (uc a0.eV a1.eJ a0.dh) λr7=>ς (a0,{jy with Code:=r2,Xj:=r7})) (ς (a0,{jy with Code:=r2}))))
instance MV{a0:mw}{a1:ct}{r:mw×gU}:FC prog (nR a0 a1=ς r) 387 [.agg (GZ a0),.agg (ni a1)] [.agg (qM [] (Qj r.1)),.agg (qM [] (uO r.2))]:=gG func387 ntmps387 (hz 9) (hc 48 48) (hz 12)
def sF(a0:ab)(r1:bQ):(Int×List ag)->Option (cj (Int×List ag) (List ag))
 |(v5,v6)=>cond (ltB v5 (v6.length:Int)) (afW (oA a0.fg v5) λr14=>afW (oA r1 v5) λr15=>afW (cond (!eqB r14 r15) (afW (ix v6 v5) λx17=>afW (Bu x17) λr18=>afW (ix v6 v5) λx19=>ς (v6.set (v5).toNat r18)) (ς v6)) λ(v16:List ag)=>ς (.next (WR (v5+1),v16))) (ς (.done v6))
def zi(a0:ab)(a1:Int)(a2:Bool):Option (Bool×ab):=
 afW (ud a0.fg a1 a2) λr1=>afW (dt a1 0 (WR (a0.fg.fU-1))) λr2=>afW (cond (!r2) (ς ζ) (afW (sY a0.fg a1) λr4=>cond (booB r4 a2) (ς ζ) (ς (eqB r1.fZ 0)))) λ(v3:Bool)=>cond v3 (ς (η,a0)) (afW (iter (sF a0 r1) FU (0,a0.an)) λ(v13:List ag)=>ς (ζ,{a0 with an:=v13,fg:=r1}))
instance ad0{a0:ab}{a2:Bool}{r:Bool×ab}:FCV prog (zi a0 a1 a2=ς r) 152 (nS a0) [tP 200,tI a1,tB a2] (nS r.2) (.v (.c (.d η (.b r.1)))) []:=gV func152 ntmps152 (hb 26 40) (hL 0 (λ(v:Int×List ag) sl ob nx=>⟨(9,tI v.1)::xS [191,190,192,193] sl,[(191,n93 v.2)]++(uC 200 2 [.wn 191 v.2.length] ob),nx⟩)) (hB 0 (λ(v:List ag) sl ob nx=>⟨(9,.any)::xS [191,190,192,193] sl,[(191,n93 v)]++(uC 200 2 [.wn 191 v.length] ob),nx⟩)) (hC 64 (λ(v:List ag) sl ob nx=>⟨xS [191,190,192,193] sl,[(191,n93 v)]++(uC 200 2 [.wn 191 v.length] ob),nx⟩)) (hz 10)
end Go.AM
