/- A part. -/
import Derived.Test.YtfbpfflnhfcmaaaGreatS3
set_option linter.unusedVariables false
open Option renaming some->ς,none->ξ
open Bool renaming true->ζ,false->η
open True renaming intro->θ
open Option renaming bind->afW
namespace Go.AM
open Go.Proofs
open Tryz
attribute [local irreducible] AWN NS AWO AWR AWC DR DZ dm gK iter
set_option maxRecDepth 100000
set_option maxHeartbeats 40000000
variable{a0:Go.AM.ag}
def wK(a0:ab):(Int×List aA)->Option (cj (Int×List aA) (List aA))
 |(v2,v3)=>cond (ltB v2 (a0.aj.length:Int)) (afW (ix a0.aj v2) λx7=>afW (lO x7) λr8=>cond (da 144 (v3++[r8]).length) (ς (.next (WR (v2+1),(v3++[r8])))) ξ) (ς (.done v3))
def wL(a0:ab):(Int×List ag)->Option (cj (Int×List ag) (List ag))
 |(v9,v10)=>cond (ltB v9 (a0.an.length:Int)) (afW (ix a0.an v9) λx14=>afW (jZ x14) λr15=>cond (da 288 (v10++[r15]).length) (ς (.next (WR (v9+1),(v10++[r15])))) ξ) (ς (.done v10))
def wM(a0:ab):(Int×List av)->Option (cj (Int×List av) (List av))
 |(v16,v17)=>cond (ltB v16 (a0.aT.length:Int)) (afW (ix a0.aT v16) λx21=>afW (oE x21) λr22=>cond (da 48 (v17++[r22]).length) (ς (.next (WR (v16+1),(v17++[r22])))) ξ) (ς (.done v17))
def wN(a0:ab):(Int×List bg)->Option (cj (Int×List bg) (List bg))
 |(v23,v24)=>cond (ltB v23 (a0.aH.length:Int)) (afW (ix a0.aH v23) λx28=>afW (vr x28) λr29=>cond (da 176 (v24++[r29]).length) (ς (.next (WR (v23+1),(v24++[r29])))) ξ) (ς (.done v24))
def AZ(a0:ab):Option ab:=
 afW (s8 a0.cp) λr1=>afW (iter (wK a0) FU (0,([]:List aA))) λ(v6:List aA)=>afW (iter (wL a0) FU (0,([]:List ag))) λ(v13:List ag)=>afW (iter (wM a0) FU (0,([]:List av))) λ(v20:List av)=>afW (iter (wN a0) FU (0,([]:List bg))) λ(v27:List bg)=>ς (⟨r1,v6,v13,v20,v27,a0.bH,a0.fg,a0.iS,a0.Lost⟩:ab)
instance IC{a0:ab}{r:ab}:FCV prog (AZ a0=ς r) 73 [] [.v (.agg (kM [.f,.f,.f,.f,.f] (b9 a0)))] [] (.v (.agg (kM [.t,.n 210,.n 211,.n 212,.n 213] (b9 r)))) [(210,n67 r.aj),(211,n93 r.an),(212,QG r.aT),(213,n48 r.aH)]:=gV func73 ntmps73 (hL 0 (λ(v:Int×List aA) sl ob nx=>⟨(4,tI v.1)::xS [213] sl,[(213,n67 v.2)]++(uC 212 1 [.wn 213 v.2.length] ob),214⟩)) (hB 0 (λ(v:List aA) sl ob nx=>⟨(4,.any)::xS [213] sl,[(213,n67 v)]++(uC 212 1 [.wn 213 v.length] ob),214⟩)) (hx 34) (hz 5) (hL 2 (λ(v:Int×List ag) sl ob nx=>⟨(5,tI v.1)::xS [214,213] sl,[(214,n93 v.2)]++(uC 212 2 [.wn 214 v.2.length] ob),215⟩)) (hB 2 (λ(v:List ag) sl ob nx=>⟨(5,.any)::xS [214,213] sl,[(214,n93 v)]++(uC 212 2 [.wn 214 v.length] ob),215⟩)) (hx 52) (hz 9) (hL 4 (λ(v:Int×List av) sl ob nx=>⟨(6,tI v.1)::xS [215,213,214] sl,[(215,QG v.2)]++(uC 212 3 [.wn 215 v.2.length] ob),216⟩)) (hB 4 (λ(v:List av) sl ob nx=>⟨(6,.any)::xS [215,213,214] sl,[(215,QG v)]++(uC 212 3 [.wn 215 v.length] ob),216⟩)) (hx 70) (hz 13) (hL 6 (λ(v:Int×List bg) sl ob nx=>⟨(7,tI v.1)::xS [216,213,214,215] sl,[(216,n48 v.2)]++(uC 212 4 [.wn 216 v.2.length] ob),217⟩)) (hB 6 (λ(v:List bg) sl ob nx=>⟨(7,.any)::xS [216,213,214,215] sl,[(216,n48 v)]++(uC 212 4 [.wn 216 v.length] ob),217⟩)) (hx 88) (hz 17) (hx 10) (hz 1)
def qr(a0:aA):Option Bool:=
 afW (dt a0.aX 2 3) λr1=>afW (cond r1 (afW (jg a0.aZ) λr3=>ς (!r3)) (ς η)) λ(v2:Bool)=>cond v2 (ς η) (afW (qw a0.dq) λr4=>afW (cond r4 (afW (dt a0.aX 0 3) λr6=>cond r6 (afW (dt a0.aS 0 5) λr7=>cond r7 (afW (dt a0.ae 0 999999) λr8=>cond r8 (afW (dt a0.aK 0 999999) λr9=>cond r9 (afW (dt a0.aZ 0 2147483646) λr10=>cond r10 (afW (dt a0.dy 0 3) λr11=>cond r11 (afW (kG a0.bm) λr12=>ς r12) (ς η)) (ς η)) (ς η)) (ς η)) (ς η)) (ς η)) (ς η)) λ(v5:Bool)=>ς v5)
instance VX{a0:aA}{r:Bool}:FC prog (qr a0=ς r) 109 [.agg (dR a0)] [.c (.d (.b r))]:=gG func109 ntmps109 (hb 6 11) (hb 15 2)
def lW(a0:ag):Int->Option (cj (Int) (Bool))
 |v5=>cond (ltB v5 (a0.ax.aJ.length:Int)) (afW (ix a0.ax.aJ v5) λx6=>afW (ix a0.aC (WR (x6.cH-1))) λx7=>afW (sW x6.bh x7.bh) λr8=>cond (!r8) (dn (ς η)) (ς (.next (WR (v5+1))))) (dn (afW (rQ a0.ax.aJ) λr9=>afW (jI a0.bG) λr10=>ς (leB r9 r10)))
def sE(a0:ag):Int->Option (cj (Int) (Bool))
 |v1=>cond (ltB v1 (a0.aC.length:Int)) (afW (ix a0.aC v1) λx2=>cond (ltB 60 (x2.bh.length:Int)) (dn (ς η)) (ς (.next (WR (v1+1))))) (dn (afW (cond (ltB 24 (a0.aC.length:Int)) (ς ζ) (afW (mP a0.ax) λr4=>cond (!r4) (ς ζ) (ς (ltB (WR ((a0.aC.length:Int)+1)) a0.ax.bw)))) λ(v3:Bool)=>cond v3 (ς η) (iter (lW a0) FU 0)))
def zf(a0:ag):Option Bool:=
 iter (sE a0) FU 0
instance adW{r:Bool}:FC prog (zf a0=ς r) 197 [.agg (cr a0)] [.c (.d (.b r))]:=gG func197 ntmps197 (hl 0 3) (hb 25 40) (hl 2 4)
def qO(a0:bg)(a1:bg):Option Bool:=
 afW (cond (eqB a0.aY a1.aY) (cond (booB a0.dF a1.dF) (cond (booB a0.cg a1.cg) (cond (eqB a0.aS a1.aS) (bif(eqB a0.aP.bb a1.aP.bb&&(eqB a0.aP.aS a1.aP.aS&&(eqB a0.aP.ae a1.aP.ae&&(eqB a0.aP.aK a1.aP.aK&&(eqB a0.aP.bP a1.aP.bP&&(eqB a0.aP.bZ.eJ a1.aP.bZ.eJ&&(eqB a0.aP.bZ.gD a1.aP.bZ.gD&&(eqB a0.aP.bZ.kr a1.aP.bZ.kr&&(eqB a0.aP.bZ.vB a1.aP.bZ.vB&&(eqB a0.aP.bZ.eV a1.aP.bZ.eV&&(eqB a0.aP.kr a1.aP.kr&&ζ))))))))))) then(afW (wq a0.bV a1.bV) λr2=>ς r2) else(ς η)) (ς η)) (ς η)) (ς η)) (ς η)) λ(v1:Bool)=>ς v1
instance Wj{a0:bg}{a1:bg}{r:Bool}:FC prog (qO a0 a1=ς r) 31 [.agg (fG a0),.agg (fG a1)] [.c (.d (.b r))]:=gG func31 ntmps31 (hb 10 4)
def fA(a0:Int)(a1:List Int):Option Int:=
 cond (da 8 ([a0]++a1).length) (cond (da 8 (([a0]++a1)++[a0]).length) (afW (TS (([a0]++a1)++[a0])) λr1=>ς r1) ξ) ξ
instance Mq{a0:Int}{a1:List Int}{r:Int}:FC prog (fA a0 a1=ς r) 159 [aI a0,aL (a1.map eI)] [.c (.d (.i .i64 r))]:=gG func159 ntmps159
def BF(a0:bu):Option (Int×bu):=
 afW (jY a0 10) λr1=>cond r1.1 (afW (CP r1.2 [-1,2147483647,2147483648]) λr2=>ς (r2.1,r2.2)) (afW (jY r1.2 4) λr3=>cond r3.1 (afW (CP r3.2 [0,1,2147483646]) λr4=>ς (r4.1,r4.2)) (afW (cS r3.2 1000000) λr5=>afW (cS r5.2 2000) λr6=>ς (WR (r5.1*r6.1),r6.2)))
instance sl3Word_c{a0:bu}{r:Int×bu}:FCW prog (BF a0=ς r) 310 (.var 124 (kM [.f] (cB a0))) [tP 200] (.var 124 (kM [.f] (cB r.2))) [.c (.d (.i .i64 r.1))]:=gW func310 ntmps310
def My(a0:bu):Option (Int×bu):=
 afW (jY a0 6) λr1=>cond r1.1 (afW (CP r1.2 [0,999999,1000000,-1,998999]) λr2=>ς (r2.1,r2.2)) (afW (cS r1.2 40) λr3=>ς (r3.1,r3.2))
instance sl5Seq_c{a0:bu}{r:Int×bu}:FCW prog (My a0=ς r) 351 (.var 124 (kM [.f] (cB a0))) [tP 200] (.var 124 (kM [.f] (cB r.2))) [.c (.d (.i .i64 r.1))]:=gW func351 ntmps351
def mW(a1:Int)(a2:Bool)(a3:List aG):(Int×ab)->Option (cj (Int×ab) (ab))
 |(v1,v12)=>cond (ltB v1 (a3.length:Int)) (afW (ix a3 v1) λx27=>afW (ix a3 v1) λx28=>afW (jx v12 (⟨a1,a2,η,x27.aS,x28,gm⟩:bg)) λr29=>ς (.next (WR (v1+1),r29))) (ς (.done v12))
def mV(a0:ab)(a1:Int)(a2:Bool)(a3:List aG):Option ab:=
 afW (iter (mW a1 a2 a3) FU (0,a0)) λ(v26:ab)=>ς v26
instance abY{a0:ab}{a1:Int}{a2:Bool}{a3:List aG}{r:ab}:FCV prog (mV a0 a1 a2 a3=ς r) 246 (nS a0) [tP 200,tI a1,tB a2,.v (.c (.d ζ (.l (a3.map dE))))] (nS r) (.tup []) []:=gV func246 ntmps246 (hL 0 (λ(v:Int×ab) sl ob nx=>⟨(8,tI v.1)::xS [193,192,191,190] sl,nS v.2++ob,nx⟩)) (hB 0 (λ(v:ab) sl ob nx=>⟨(8,.any)::xS [193,192,191,190] sl,nS v++ob,nx⟩)) (hz 3)
def vq(a0:ag)(a1:av):Option bM:=
 afW (jZ a0) λr1=>afW (oE a1) λr2=>ς {cz with aM:=r1,cT:=r2}
instance IA{a1:av}{r:bM}:FC prog (vq a0 a1=ς r) 313 [.agg (cr a0),.agg (dw a1)] [.agg (qM [.o,.o,.o,.o,.o,.o] (cd r))]:=gG func313 ntmps313 (hz 1)
def ub(a0:av)(a1:cW):Option (av×cW):=
 afW (ge a0 a1) λr1=>cond (!r1) (afW (oE a0) λr2=>ς (r2,a1)) (afW (Mn a0 a1.aO a1.d6) λr3=>ς (r3.1,(⟨a1.aO,WR (a1.cG-a1.d6),0⟩:cW)))
instance Ih{a0:av}{a1:cW}{r:av×cW}:FC prog (ub a0 a1=ς r) 314 [.agg (dw a0),.agg (oH a1)] [.agg (qM [.o] (dB r.1)),.agg (qM [] (Bf r.2))]:=gG func314 ntmps314 (hz 2) (hz 4)
def qz(a0:ag)(a1:Int):Option Int:=
 afW (qy a0) λr1=>afW (jI a0.bG) λr2=>afW (Ic 0 (WR ((WR (r1+a1))-r2))) λr3=>ς r3
instance Ig{a1:Int}{r:Int}:FC prog (qz a0 a1=ς r) 355 [.agg (cr a0),aI a1] [.c (.d (.i .i64 r))]:=gG func355 ntmps355
def sC(a0:av)(a1:cW)(a2:Int):Option (av×cW):=
 afW (DO a0 a1.aO a2) λr1=>afW (ge a0 a1) λr2=>afW (cond (!r2) (ς ζ) (afW (jh {a1 with cG:=WR (a1.cG+r1.2)}) λr4=>ς (!r4))) λ(v3:Bool)=>cond v3 (afW (oE a0) λr5=>ς (r5,a1)) (ς (r1.1,{a1 with cG:=WR (a1.cG+r1.2)}))
instance W2{a0:av}{a1:cW}{a2:Int}{r:av×cW}:FC prog (sC a0 a1 a2=ς r) 381 [.agg (dw a0),.agg (oH a1),aI a2] [.agg (qM [.o] (dB r.1)),.agg (qM [] (Bf r.2))]:=gG func381 ntmps381 (hb 29 33) (hz 5) (hz 6)
def qK(a0:ag):Option bJ:=
 afW (jZ a0) λr1=>ς (⟨r1,([]:List aG)⟩:bJ)
instance sl30None_c{r:bJ}:FC prog (qK a0=ς r) 357 [.agg (cr a0)] [.agg (qM [.o,.o,.o,.o] (ev r))]:=gG func357 ntmps357
def yV(a0:aA):Option aA:=
 afW (lO a0) λr1=>afW (cond (eqB a0.aX 2) (ς 3) (ς r1.aX)) λ(v2:Int)=>ς {r1 with aX:=v2}
instance adC{a0:aA}{r:aA}:FC prog (yV a0=ς r) 250 [.agg (dR a0)] [.agg (qM [.o,.o] (mB r))]:=gG func250 ntmps250 (hC 8 (λ(v:Int) sl ob nx=>⟨xS [2,3] sl,uC 4 4 [.d η (.i .i64 v)] ob,nx⟩))
def Bu(a0:ag):Option ag:=
 afW (jZ a0) λr1=>ς {r1 with aV:=cO,bA:=0,cP:=0,et:=eE,cF:=0}
instance aeL{r:ag}:FC prog (Bu a0=ς r) 254 [.agg (cr a0)] [.agg (qM [.o,.o,.o] (dO r))]:=gG func254 ntmps254
def rK(a0:ab)(a1:Int):Option Bool:=
 afW (ta a0 a1) λr1=>cond (!r1) (ς η) (afW (ix a0.an a1) λx2=>afW (sr x2 (x2.aC.length:Int)) λr3=>afW (sv a0 a1) λr4=>afW (ix a0.aT a1) λx5=>afW (jI x2.bG) λr6=>ς (leB (WR (r3-r4)) (WR (x5.bL+r6))))
instance adA{a0:ab}{a1:Int}{r:Bool}:FC prog (rK a0 a1=ς r) 13 [.agg (eb a0),aI a1] [.c (.d (.b r))]:=gG func13 ntmps13
end Go.AM
