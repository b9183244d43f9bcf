/- A part. -/
import Derived.Test.YtfbpfflnhfcmaaaGreatI0
set_option linter.unusedVariables false
open Option renaming some->ς,none->ξ
open Bool renaming true->ζ,false->η
open True renaming intro->θ
open Option renaming bind->acE
open List renaming replicate->aaI
namespace Go.AM
open Go.Proofs
open Tryz
attribute [local irreducible] AWN NS AWO AWR AWC DR DZ du gr iter
set_option maxRecDepth 100000
set_option maxHeartbeats 40000000
variable{a0:Go.AM.ae}{a1:Int}{r:Bool}
def vz(a0:aZ)(a1:Int)(a2:Int):Option Bool:=
 acE (lQ a0 a1) λr1=>acE (cond r1 (acE (ix a0.bp a1) λx3=>acE (gH x3.cM a2) λr4=>ς r4) (ς η)) λ(v2:Bool)=>ς v2
instance TB{a0:aZ}{a2:Int} :FC prog (vz a0 a1 a2=ς r) 126 [.agg (fT a0),aI a1,aI a2] [.c (.d (.b r))]:=gG func126 ntmps126 (hb 10 6)
def oS(a0:aZ)(v2:Int)(x3:dY):Int->Option (ci (Int) (ci (Int) (Bool)))
 |v7=>cond (ltB v7 (x3.cM.length:Int)) (acE (ix x3.cM v7) λx8=>acE (cond (eqB x8 v2) (ς ζ) (acE (lQ a0 x8) λr10=>cond (!r10) (ς ζ) (acE (vz a0 x8 v2) λr11=>ς (!r11)))) λ(v9:Bool)=>cond v9 (dn (dn (ς η))) (ς (.next (WR (v7+1))))) (dn (ς (.next (WR (v2+1)))))
def oR(a0:aZ):Int->Option (ci (Int) (Bool))
 |v2=>cond (ltB v2 (a0.bp.length:Int)) (acE (ix a0.bp v2) λx3=>acE (cd x3.fF 0 2) λr4=>acE (cond (!r4) (ς ζ) (acE (pb x3.cM) λr6=>ς (!r6))) λ(v5:Bool)=>cond v5 (dn (ς η)) (iter (oS a0 v2 x3) FU 0)) (dn (ς ζ))
def uy(a0:aZ):Option Bool:=
 acE (cd (a0.bp.length:Int) 1 6) λr1=>cond (!r1) (ς η) (iter (oR a0) FU 0)
instance Yj{a0:aZ} :FC prog (uy a0=ς r) 68 [.agg (fT a0)] [.c (.d (.b r))]:=gG func68 ntmps68 (hl 0 15) (hb 24 29) (hl 2 33) (hb 40 52)
def kD(a0:bE):Option Bool:=
 acE (cd a0.fy 1 6) λr1=>acE (cond r1 (cond (leB 0 a0.fy) (acE (cd a0.fj 0 (WR ((mD .i64 1 a0.fy)-1))) λr3=>ς r3) ξ) (ς η)) λ(v2:Bool)=>ς v2
instance Vp{a0:bE} :FC prog (kD a0=ς r) 69 [.agg (jg a0)] [.c (.d (.b r))]:=gG func69 ntmps69 (hb 6 2)
def oQ(a0:aC):Option Bool:=
 acE (oU a0.dO) λr1=>acE (cond (!r1) (ς ζ) (acE (cd a0.bz 0 3) λr3=>cond (!r3) (ς ζ) (acE (cd a0.bh 0 5) λr4=>ς (!r4)))) λ(v2:Bool)=>cond v2 (ς η) (acE (cd a0.ah 0 999999) λr5=>acE (cond (!r5) (ς ζ) (acE (cd a0.aY 0 999999) λr7=>cond (!r7) (ς ζ) (acE (cd a0.bg 0 2147483646) λr8=>ς (!r8)))) λ(v6:Bool)=>cond v6 (ς η) (acE (cond (eqB a0.bz 2) (acE (gN a0.bg) λr10=>ς (!r10)) (cond (eqB a0.bz 3) (acE (gN a0.bg) λr11=>ς (!r11)) (ς η))) λ(v9:Bool)=>cond v9 (ς η) (acE (cd a0.eU 0 3) λr12=>acE (cond r12 (acE (jV a0.bW) λr14=>ς r14) (ς η)) λ(v13:Bool)=>ς v13)))
instance RS{a0:aC} :FC prog (oQ a0=ς r) 127 [.agg (dF a0)] [.c (.d (.b r))]:=gG func127 ntmps127 (hb 7 18) (hb 23 34) (hb 38 48) (hb 52 2)
def kJ(a0:ae)(a1:Int):Option Bool:=
 acE (ix a0.ax a1) λx1=>acE (ix a0.aJ a1) λx2=>acE (oQ x1) λr3=>acE (cond r3 (acE (i8 x2) λr5=>cond r5 (acE (ix a0.bD a1) λx6=>acE (ik x6) λr7=>cond r7 (bif(eqB x1.dO.ID.d4 x2.bT.ID.d4&&(eqB x1.dO.ID.bZ x2.bT.ID.bZ&&ζ)) then(cond (eqB x1.dO.fA x2.bT.fA) (acE (lQ a0.d7 x1.bh) λr8=>cond r8 (acE (lQ a0.d7 x2.bh) λr9=>cond r9 (cond (eqB x2.bX.aO a1) (acE (ix a0.bD a1) λx10=>acE (fX x10 x2.bX) λr11=>ς r11) (ς η)) (ς η)) (ς η)) (ς η)) else(ς η)) (ς η)) (ς η)) (ς η)) λ(v4:Bool)=>ς v4
instance LW:FC prog (kJ a0 a1=ς r) 70 [.agg (g5 a0),aI a1] [.c (.d (.b r))]:=gG func70 ntmps70 (hb 19 4)
def iM(a0:ae):Int->Option (ci (Int) (Bool))
 |v7=>cond (ltB v7 (a0.aT.length:Int)) (acE (ix a0.aT v7) λx8=>acE (cd x8.bj 0 (WR ((a0.ax.length:Int)-1))) λr9=>acE (cond (!r9) (ς ζ) (acE (lQ a0.d7 x8.bh) λr11=>ς (!r11))) λ(v10:Bool)=>cond v10 (dn (ς η)) (ς (.next (WR (v7+1))))) (dn (cond (leB 0 (a0.d7.bp.length:Int)) (acE (cd a0.cF 0 (WR ((mD .i64 1 (a0.d7.bp.length:Int))-1))) λr12=>acE (cond r12 (acE (cd a0.lV 0 100000) λr14=>cond r14 (ς (leB 0 a0.Lost)) (ς η)) (ς η)) λ(v13:Bool)=>ς v13) ξ))
def iL(a0:ae):Int->Option (ci (Int) (Bool))
 |v5=>cond (ltB v5 (a0.ax.length:Int)) (acE (kJ a0 v5) λr6=>cond (!r6) (dn (ς η)) (ς (.next (WR (v5+1))))) (dn (cond (ltB 200 (a0.aT.length:Int)) (ς η) (iter (iM a0) FU 0)))
def kW(a0:ae):Option Bool:=
 acE (uy a0.d7) λr1=>acE (cond (!r1) (ς ζ) (acE (kD a0.fP) λr3=>cond (!r3) (ς ζ) (ς (eqB a0.fP.fj 0)))) λ(v2:Bool)=>cond v2 (ς η) (acE (cond (ltB 4 (a0.ax.length:Int)) (ς ζ) (cond (!eqB (a0.aJ.length:Int) (a0.ax.length:Int)) (ς ζ) (ς (!eqB (a0.bD.length:Int) (a0.ax.length:Int))))) λ(v4:Bool)=>cond v4 (ς η) (iter (iL a0) FU 0))
instance PD:FC prog (kW a0=ς r) 26 [.agg (g5 a0)] [.c (.d (.b r))]:=gG func26 ntmps26 (hb 10 21) (hb 26 43) (hl 0 47) (hl 2 62) (hb 74 81) (hb 92 2)
def yL(a0:aZ):(Int×List dY)->Option (ci (Int×List dY) (List dY))
 |(v1,v2)=>cond (ltB v1 (a0.bp.length:Int)) (acE (ix a0.bp v1) λx7=>acE (s6 x7.cM) λr8=>acE (ix v2 v1) λx9=>ς (.next (WR (v1+1),(v2.set (v1).toNat (⟨x7.fF,r8⟩:dY))))) (ς (.done v2))
def Cd(a0:aZ):Option aZ:=
 cond (qj 32 (a0.bp.length:Int) (a0.bp.length:Int)) (acE (iter (yL a0) FU (0,(aaI ((a0.bp.length:Int)).toNat O2))) λ(v6:List dY)=>ς (⟨v6⟩:aZ)) ξ
instance icopyMap_c{a0:aZ}{r:aZ}:FC prog (Cd a0=ς r) 83 [.agg (fT a0)] [.agg [.own 154 2 (r.bp.map eL) r.bp.length]]:=gG func83 ntmps83 (hL 0 (λ(v:Int×List dY) sl ob nx=>⟨(3,.v (.c (.w 2 v.2.length)))::(13,tI v.1)::xS [2] sl,[(2,w154 v.2)]++ob,nx⟩)) (hB 0 (λ(v:List dY) sl ob nx=>⟨(3,.v (.c (.w 2 v.length)))::(13,.any)::xS [2] sl,[(2,w154 v)]++ob,nx⟩)) (hz 5)
def g8(a0:List aC):(Int×List aC)->Option (ci (Int×List aC) (List aC))
 |(v1,v2)=>cond (ltB v1 (a0.length:Int)) (acE (ix a0 v1) λx7=>acE (mf x7) λr8=>acE (ix v2 v1) λx9=>ς (.next (WR (v1+1),(v2.set (v1).toNat r8)))) (ς (.done v2))
def fL(a0:List aC):Option (List aC):=
 cond (qj 144 (a0.length:Int) (a0.length:Int)) (acE (iter (g8 a0) FU (0,(aaI ((a0.length:Int)).toNat Ht))) λ(v6:List aC)=>ς v6) ξ
instance AD{a0:List aC}{r:List aC}:FCV prog (fL a0=ς r) 84 [] [.v (.c (.d η (.l (a0.map dF)))),.v (.c (.fn 85))] [] (.v (.c (.w 210 r.length))) [(210,w67 r)]:=gV func84 ntmps84 (hL 0 (λ(v:Int×List aC) sl ob nx=>⟨(5,.v (.c (.w 210 v.2.length)))::(13,tI v.1)::xS [210] sl,[(210,w67 v.2)]++ob,nx⟩)) (hB 0 (λ(v:List aC) sl ob nx=>⟨(5,.v (.c (.w 210 v.length)))::(13,.any)::xS [210] sl,[(210,w67 v)]++ob,nx⟩))
def gA(a0:List ag):(Int×List ag)->Option (ci (Int×List ag) (List ag))
 |(v1,v2)=>cond (ltB v1 (a0.length:Int)) (acE (ix a0 v1) λx7=>acE (gJ x7) λr8=>acE (ix v2 v1) λx9=>ς (.next (WR (v1+1),(v2.set (v1).toNat r8)))) (ς (.done v2))
def fo(a0:List ag):Option (List ag):=
 cond (qj 288 (a0.length:Int) (a0.length:Int)) (acE (iter (gA a0) FU (0,(aaI ((a0.length:Int)).toNat AB))) λ(v6:List ag)=>ς v6) ξ
instance yK{a0:List ag}{r:List ag}:FCV prog (fo a0=ς r) 86 [] [.v (.c (.d η (.l (a0.map cp)))),.v (.c (.fn 87))] [] (.v (.c (.w 210 r.length))) [(210,w93 r)]:=gV func86 ntmps86 (hL 0 (λ(v:Int×List ag) sl ob nx=>⟨(5,.v (.c (.w 210 v.2.length)))::(13,tI v.1)::xS [210] sl,[(210,w93 v.2)]++ob,nx⟩)) (hB 0 (λ(v:List ag) sl ob nx=>⟨(5,.v (.c (.w 210 v.length)))::(13,.any)::xS [210] sl,[(210,w93 v)]++ob,nx⟩))
def gz(a0:List aj):(Int×List aj)->Option (ci (Int×List aj) (List aj))
 |(v1,v2)=>cond (ltB v1 (a0.length:Int)) (acE (ix a0 v1) λx7=>acE (fk x7) λr8=>acE (ix v2 v1) λx9=>ς (.next (WR (v1+1),(v2.set (v1).toNat r8)))) (ς (.done v2))
def fm(a0:List aj):Option (List aj):=
 cond (qj 48 (a0.length:Int) (a0.length:Int)) (acE (iter (gz a0) FU (0,(aaI ((a0.length:Int)).toNat qt))) λ(v6:List aj)=>ς v6) ξ
instance yJ{a0:List aj}{r:List aj}:FCV prog (fm a0=ς r) 88 [] [.v (.c (.d η (.l (a0.map dh)))),.v (.c (.fn 89))] [] (.v (.c (.w 210 r.length))) [(210,w107 r)]:=gV func88 ntmps88 (hL 0 (λ(v:Int×List aj) sl ob nx=>⟨(5,.v (.c (.w 210 v.2.length)))::(13,tI v.1)::xS [210] sl,[(210,w107 v.2)]++ob,nx⟩)) (hB 0 (λ(v:List aj) sl ob nx=>⟨(5,.v (.c (.w 210 v.length)))::(13,.any)::xS [210] sl,[(210,w107 v)]++ob,nx⟩))
def g9(a0:List bA):(Int×List bA)->Option (ci (Int×List bA) (List bA))
 |(v1,v2)=>cond (ltB v1 (a0.length:Int)) (acE (ix a0 v1) λx7=>acE (qU x7) λr8=>acE (ix v2 v1) λx9=>ς (.next (WR (v1+1),(v2.set (v1).toNat r8)))) (ς (.done v2))
def fM(a0:List bA):Option (List bA):=
 cond (qj 176 (a0.length:Int) (a0.length:Int)) (acE (iter (g9 a0) FU (0,(aaI ((a0.length:Int)).toNat fE))) λ(v6:List bA)=>ς v6) ξ
instance AE{a0:List bA}{r:List bA}:FCV prog (fM a0=ς r) 90 [] [.v (.c (.d η (.l (a0.map eP)))),.v (.c (.fn 91))] [] (.v (.c (.w 210 r.length))) [(210,w48 r)]:=gV func90 ntmps90 (hL 0 (λ(v:Int×List bA) sl ob nx=>⟨(5,.v (.c (.w 210 v.2.length)))::(13,tI v.1)::xS [210] sl,[(210,w48 v.2)]++ob,nx⟩)) (hB 0 (λ(v:List bA) sl ob nx=>⟨(5,.v (.c (.w 210 v.length)))::(13,.any)::xS [210] sl,[(210,w48 v)]++ob,nx⟩))
def sF(a0:ae):Option ae:=
 acE (Cd a0.d7) λr1=>acE (fL a0.ax) λr2=>acE (fo a0.aJ) λr3=>acE (fm a0.bD) λr4=>acE (fM a0.aT) λr5=>ς (⟨r1,r2,r3,r4,r5,a0.cF,a0.fP,a0.lV,a0.Lost⟩:ae)
instance Vx{r:ae}:FC prog (sF a0=ς r) 35 [.agg (g5 a0)] [.agg (qM [.o,.o,.o,.o,.o] (bF r))]:=gG func35 ntmps35
def mZ(a0:aC):Option aG:=
 ς {fc with bu:=1,bh:=a0.bh}
instance TO{a0:aC}{r:aG}:FC prog (mZ a0=ς r) 204 [.agg (dF a0)] [.agg (qM [] (gL r))]:=gG func204 ntmps204
def uE(a0:aC):Option a9:=
 cond (ltB 0 a0.eU) (acE (cZ {a0 with eU:=WR (a0.eU-1)} []) λr1=>ς r1) (cond (eqB a0.bz 1) (acE (mZ {a0 with eU:=3}) λr2=>acE (cZ {a0 with eU:=3} [r2]) λr3=>ς r3) (acE (cond (eqB a0.bz 2) (ς (!a0.cj)) (ς η)) λ(v4:Bool)=>cond v4 (acE (qV {a0 with eU:=3}) λr5=>acE (cZ {a0 with eU:=3} [r5]) λr6=>ς r6) (acE (cZ a0 []) λr7=>ς r7)))
instance Ym{a0:aC}{r:a9}:FC prog (uE a0=ς r) 120 [.agg (dF a0)] [.agg (qM [.o,.o,.o] (dx r))]:=gG func120 ntmps120 (hz 5) (hb 25 21) (hz 8)
def Ce(a0:ae):(Int×ae)->Option (ci (Int×ae) (ae))
 |(v1,v12)=>cond (ltB v1 (a0.ax.length:Int)) (acE (ix v12.ax v1) λx27=>acE (uE x27) λr28=>acE (gK v12 v1 r28) λr29=>ς (.next (WR (v1+1),r29))) (ς (.done v12))
def wb(v30:Int)(v159:bR):(Int×ae)->Option (ci (Int×ae) (ae))
 |(v166,v177)=>cond (ltB v166 (v159.ct.length:Int)) (acE (ix v159.ct v166) λx191=>acE (uI v177 (⟨v30,η,ζ,v159.bb.bh,fc,x191⟩:bA)) λr192=>ς (.next (WR (v166+1),r192))) (ς (.done v177))
def Cf(v26:ae):(Int×ae)->Option (ci (Int×ae) (ae))
 |(v30,v41)=>cond (ltB v30 (v26.aJ.length:Int)) (acE (acE (ix v41.aJ v30) λx160=>acE (ix v41.bD v30) λx161=>acE (sB x160 x161 v41.d7) λr162=>ς r162) λ(v159:bR)=>acE (ix v41.aJ v30) λx163=>acE (ix v41.bD v30) λx164=>acE (lA {v41 with aJ:=(v41.aJ.set (v30).toNat v159.bb),bD:=(v41.bD.set (v30).toNat v159.eN)} v30 v159.lW) λr165=>acE (iter (wb v30 v159) FU (0,r165)) λ(v190:ae)=>ς (.next (WR (v30+1),v190))) (ς (.done v41))
def L1(a0:ae):Option (Bool×ae):=
 cond (leB 100000 a0.lV) (ς (η,a0)) (acE (iter (Ce a0) FU (0,{a0 with lV:=WR (a0.lV+1)})) λ(v26:ae)=>acE (iter (Cf v26) FU (0,v26)) λ(v122:ae)=>ς (ζ,v122))
instance itick_c{r:Bool×ae}:FCV prog (L1 a0=ς r) 66 (nI a0) [tP 200] (nI r.2) (.v (.c (.d η (.b r.1)))) []:=gV func66 ntmps66 (hL 0 (λ(v:Int×ae) sl ob nx=>⟨(25,tI v.1)::xS [193,192,191,190] sl,nI v.2++ob,nx⟩)) (hB 0 (λ(v:ae) sl ob nx=>⟨(25,.any)::xS [193,192,191,190] sl,nI v++ob,nx⟩)) (hL 2 (λ(v:Int×ae) sl ob nx=>⟨(45,tI v.1)::xS [193,192,191,190] sl,nI v.2++ob,nx⟩)) (hB 2 (λ(v:ae) sl ob nx=>⟨(45,.any)::xS [193,192,191,190] sl,nI v++ob,nx⟩)) (hL 4 (λ(v:Int×ae) sl ob nx=>⟨(91,tI v.1)::xS [193,192,191,190] sl,nI v.2++ob,nx⟩)) (hB 4 (λ(v:ae) sl ob nx=>⟨(91,.any)::xS [193,192,191,190] sl,nI v++ob,nx⟩)) (hz 14) (hz 13) (hA 12 18 19 [0,1,2,3,4,5,6,7,8,9,10,11,12,13,14,15,16,17,19,18,20] [0,1,2,3,4,5,6,7,8,9,10,11,12,13,14,15,16,17,18,19,20] (λ(v:bR) sl ob nx=>⟨(5,tP 210)::xS [211] sl,oM [.t,.t,.t,.t,.n 211,.t] 210 173 (b9 v)++ob,212⟩)) (hL 4 (λ(v:Int×ae) sl ob nx=>⟨(91,tI v.1)::xS [193,192,191,190] sl,nI v.2++ob,nx⟩)) (hB 4 (λ(v:ae) sl ob nx=>⟨(91,.any)::xS [193,192,191,190] sl,nI v++ob,nx⟩)) (hz 14) (hz 13)
def qz(a0:aC)(a1:aD):Option a9:=
 cond (!eqB a0.bz 2) (acE (cZ a0 []) λr1=>ς r1) (acE (tx a0.bg a0.ah a0.aY a1) λr2=>cond r2.2 (acE (oX a0.bW r2.1) λr3=>acE (ol a0.bg (⟨8,a0.bh,a0.ah,a0.aY,r3.bB,cH,0⟩:aG)) λr4=>acE (cZ {a0 with bW:=r3} [r4]) λr5=>ς r5) (acE (cZ a0 []) λr6=>ς r6))
instance TF{a0:aC}{a1:aD}{r:a9}:FC prog (qz a0 a1=ς r) 211 [.agg (dF a0),.agg (dr a1)] [.agg (qM [.o,.o,.o] (dx r))]:=⟨λH=>by
 refine fI func211 ntmps211 ?_
 refine cC H ?_ ?_<;>intro H
 .refine aa H λr1 q1 H=>nA (ca (hF:=rI.h q1)) ?_
  exact ao H
 obtain⟨r2,q2,H⟩:=ob H
 rcases hb:r2.2 with _|_
 .have H:=bf hb H
  refine oi rfl (ca (hF:=HD q2 hb)) ?_
  simp only[hb]
  refine wI ?_
  refine aa H λr6 q6 H=>nA (ca (hF:=rI.h q6)) ?_
  exact ao H
 have H:=bt hb H
 refine oi rfl (ca (hF:=HE q2 hb)) ?_
 simp only[hb]
 refine wI ?_
 refine aa H λr3 q3 H=>nA (ca (hF:=Dj.h q3)) ?_
 refine kx [0,1,2,3,4,5,6,7] (h:=?_)
 refine wkb ?_
 refine aa H λr4 q4 H=>ij rfl (ca (hF:=HG.h q4)) ?_
 refine wkb ?_
 refine rE rfl (bsx (bs rfl rfl rfl rfl rfl rfl rfl rfl) rfl) ?_
 refine wkb ?_
 refine aa H λr5 q5 H=>ij rfl (ca (hF:=rI.h q5)) ?_
 refine wkb ?_
 refine rE rfl (spx 100636) ?_
 refine wkb ?_
 refine wI ?_
 cases H
 exact jJ⟩
def yN(a0:ae)(a1:Int):Option ae:=
 acE (qW a0 a1) λr1=>acE (vZ r1.2 r1.1.bh) λr2=>acE (cond (!r2) (ς {r1.2 with Lost:=WR (r1.2.Lost+1)}) (acE (cond r1.1.ey (cond r1.1.dB (ς ζ) (ς (!eqB r1.1.a8.bh r1.1.bh))) (ς η)) λ(v14:Bool)=>acE (cond v14 (ς r1.2) (acE (cond r1.1.ey (acE (ix r1.2.aJ r1.1.bj) λx37=>acE (oZ x37 r1.1.a8) λr38=>acE (ix r1.2.aJ r1.1.bj) λx39=>acE (lA {r1.2 with aJ:=(r1.2.aJ.set (r1.1.bj).toNat r38.bb)} r1.1.bj r38.c9) λr40=>ς r40) (acE (ix r1.2.ax r1.1.bj) λx41=>acE (cond (!eqB x41.bh r1.1.bh) (ς {r1.2 with Lost:=WR (r1.2.Lost+1)}) (acE (cond r1.1.dB (acE (ix r1.2.ax r1.1.bj) λx64=>acE (qz x64 r1.1.ct) λr65=>acE (gK r1.2 r1.1.bj r65) λr66=>ς r66) (acE (ix r1.2.ax r1.1.bj) λx67=>acE (oY x67 r1.1.a8) λr68=>acE (gK r1.2 r1.1.bj r68) λr69=>ς r69)) λ(v63:ae)=>ς v63)) λ(v52:ae)=>ς v52)) λ(v36:ae)=>ς v36)) λ(v25:ae)=>ς v25)) λ(v13:ae)=>ς v13
instance ideliver_c{r:ae}:FCV prog (yN a0 a1=ς r) 124 (nI a0) [tP 200,tI a1] (nI r) (.tup []) []:=gV func124 ntmps124 (hC 25 (λ(v:ae) sl ob nx=>⟨xS [193,192,191,190] sl,nI v++fO [210] ob,nx⟩)) (hb 43 40) (hC 40 (λ(v:ae) sl ob nx=>⟨xS [193,192,191,190] sl,nI v++fO [210] ob,nx⟩)) (hC 55 (λ(v:ae) sl ob nx=>⟨xS [193,192,191,190] sl,nI v++fO [210] ob,nx⟩)) (hz 8) (hz 7) (hC 81 (λ(v:ae) sl ob nx=>⟨xS [193,192,191,190] sl,nI v++fO [210] ob,nx⟩)) (hC 100 (λ(v:ae) sl ob nx=>⟨xS [193,192,191,190] sl,nI v++ob,nx⟩)) (hz 13) (hz 2)
def o8(a0:ae)(a1:dJ):Option (Bool×ae):=
 acE (cd a1.da 0 (WR ((a0.aT.length:Int)-1))) λr1=>cond (!r1) (ς (η,a0)) (cond (eqB a1.bu 2) (acE (yN a0 a1.da) λr2=>ς (ζ,r2)) (cond (eqB a1.bu 3) (acE (qW a0 a1.da) λr3=>ς (ζ,{r3.2 with Lost:=WR (r3.2.Lost+1)})) (cond (eqB a1.bu 4) (cond (leB 200 (a0.aT.length:Int)) (ς (η,a0)) (acE (ix a0.aT a1.da) λx4=>acE (uI a0 x4) λr5=>ς (ζ,r5))) (ς (ζ,a0)))))
instance R8{a1:dJ}{r:Bool×ae}:FCV prog (o8 a0 a1=ς r) 92 (nI a0) [tP 200,.v (.agg (kM [.t,.t] (g6 a1)))] (nI r.2) (.v (.c (.d η (.b r.1)))) []:=gV func92 ntmps92 (hz 12)
def Ca(a0:aC):Option a9:=
 cond (!eqB a0.bz 0) (acE (cZ a0 []) λr1=>ς r1) (acE (mZ {a0 with bz:=1,eU:=3}) λr2=>acE (cZ {a0 with bz:=1,eU:=3} [r2]) λr3=>ς r3)
instance iPowerOn_c{a0:aC}{r:a9}:FC prog (Ca a0=ς r) 168 [.agg (dF a0)] [.agg (qM [.o,.o,.o] (dx r))]:=gG func168 ntmps168 (hz 5)
def uA(a0:aC)(a1:Int):Option a9:=
 acE (cond (eqB a1 a0.bh) (ς ζ) (acE (cd a1 0 5) λr2=>ς (!r2))) λ(v1:Bool)=>cond v1 (acE (cZ a0 []) λr3=>ς r3) (acE (cond (!eqB a0.bz 2) (ς ζ) (ς (leB 999999 a0.aY))) λ(v4:Bool)=>cond v4 (acE (cZ {a0 with bh:=a1} []) λr5=>ς r5) (acE (iz {a0 with bh:=a1,aY:=WR (a0.aY+1)}) λr6=>ς r6))
instance Yl{a0:aC}{r:a9}:FC prog (uA a0 a1=ς r) 169 [.agg (dF a0),aI a1] [.agg (qM [.o,.o,.o] (dx r))]:=gG func169 ntmps169 (hb 9 13) (hb 21 25)
def xb(a0:aC):Option aC:=
 acE (cond (eqB a0.bz 2) (ς 3) (ς a0.bz)) λ(v1:Int)=>acE (mf {a0 with bz:=v1}) λr2=>ς r2
instance Zm{a0:aC}{r:aC}:FC prog (xb a0=ς r) 170 [.agg (dF a0)] [.agg (qM [.o,.o] (eW r))]:=gG func170 ntmps170 (hC 5 (λ(v:Int) sl ob nx=>⟨sl,[(0,.var 67 (kM [.f,.f] (eW {a0 with bz:=v})))]++ob,nx⟩))
def qB(a0:ag)(a1:List Int):Option (ag×Bool):=
 acE (gJ a0) λr1=>acE (cond (leB 24 (a0.aS.length:Int)) (ς ζ) (ς (ltB 60 (a1.length:Int)))) λ(v2:Bool)=>cond v2 (ς (r1,η)) (acE (eY a1) λr3=>cond (cW 24 (r1.aS++[(⟨r3⟩:bI)]).length) (ς ({r1 with aS:=(r1.aS++[(⟨r3⟩:bI)])},ζ)) ξ)
instance TJ{a0:ag}{a1:List Int}{r:ag×Bool}:FC prog (qB a0 a1=ς r) 171 [.agg (cp a0),aL (a1.map eU8)] [.agg (qM [.o,.o,.o] (cU r.1)),.c (.d (.b r.2))]:=gG func171 ntmps171 (hb 13 17) (hx 22) (hz 4)
def kG(a0:ae)(a1:dJ):Option (Bool×ae):=
 acE (cd a1.da 0 (WR ((a0.ax.length:Int)-1))) λr1=>cond (!r1) (ς (η,a0)) (cond (eqB a1.bu 5) (acE (ix a0.ax a1.da) λx2=>cond (!eqB x2.bz 0) (ς (η,a0)) (acE (ix a0.ax a1.da) λx3=>acE (Ca x3) λr4=>acE (gK a0 a1.da r4) λr5=>ς (ζ,r5))) (cond (eqB a1.bu 6) (acE (lQ a0.d7 a1.bh) λr6=>acE (cond (!r6) (ς ζ) (acE (ix a0.ax a1.da) λx8=>ς (eqB a1.bh x8.bh))) λ(v7:Bool)=>cond v7 (ς (η,a0)) (acE (ix a0.ax a1.da) λx9=>acE (uA x9 a1.bh) λr10=>acE (gK a0 a1.da r10) λr11=>ς (ζ,r11))) (cond (eqB a1.bu 7) (acE (ix a0.ax a1.da) λx12=>cond (!eqB x12.bz 2) (ς (η,a0)) (acE (ix a0.ax a1.da) λx13=>acE (xb x13) λr14=>acE (ix a0.ax a1.da) λx15=>ς (ζ,{a0 with ax:=(a0.ax.set (a1.da).toNat r14)}))) (cond (eqB a1.bu 8) (acE (ix a0.aJ a1.da) λx16=>acE (qB x16 a1.bk) λr17=>cond (!r17.2) (ς (η,a0)) (acE (ix a0.aJ a1.da) λx18=>ς (ζ,{a0 with aJ:=(a0.aJ.set (a1.da).toNat r17.1)}))) (ς (ζ,a0))))))
instance LU{a1:dJ}{r:Bool×ae}:FCV prog (kG a0 a1=ς r) 93 (nI a0) [tP 200,.v (.agg (kM [.t,.t] (g6 a1)))] (nI r.2) (.v (.c (.d η (.b r.1)))) []:=gV func93 ntmps93 (hb 53 65) (hz 12) (hz 16) (hz 21) (hz 18)
def sD(a0:ae)(a1:dJ):Option (Bool×ae):=
 acE (lQ a0.d7 a1.da) λr1=>acE (cond (!r1) (ς ζ) (acE (vZ a0 a1.da) λr3=>ς (booB r3 (eqB a1.bu 10)))) λ(v2:Bool)=>cond v2 (ς (η,a0)) (cond (leB 0 a1.da) (ς (ζ,{a0 with cF:=Jv .i64 a0.cF (mD .i64 1 a1.da)})) ξ)
instance Vw{a1:dJ}{r:Bool×ae}:FCV prog (sD a0 a1=ς r) 94 (nI a0) [tP 200,.v (.agg (kM [.t,.t] (g6 a1)))] (nI r.2) (.v (.c (.d η (.b r.1)))) []:=gV func94 ntmps94 (hb 13 24) (hz 3)
def qQ(a0:bE)(a1:Int):Option Bool:=
 acE (kD a0) λr1=>acE (cond r1 (acE (cd a1 0 (WR (a0.fy-1))) λr3=>cond r3 (cond (leB 0 a1) (ς (eqB (AC .i64 (Eb .i64 a0.fj a1) 1) 1)) ξ) (ς η)) (ς η)) λ(v2:Bool)=>ς v2
instance Yh{a0:bE} :FC prog (qQ a0 a1=ς r) 172 [.agg (jg a0),aI a1] [.c (.d (.b r))]:=gG func172 ntmps172 (hb 7 4)
def sx(a0:bE)(a1:Int)(a2:Bool):Option bE:=
 acE (kD a0) λr1=>acE (cond (!r1) (ς ζ) (acE (cd a1 0 (WR (a0.fy-1))) λr3=>ς (!r3))) λ(v2:Bool)=>cond v2 (ς a0) (acE (cond a2 (cond (leB 0 a1) (ς (bOr .i64 a0.fj (mD .i64 1 a1))) ξ) (cond (leB 0 a1) (ς (wW .i64 a0.fj (mD .i64 1 a1))) ξ)) λ(v4:Int)=>ς (⟨a0.fy,v4⟩:bE))
instance Vu{a0:bE}{a2:Bool}{r:bE}:FC prog (sx a0 a1 a2=ς r) 173 [.agg (jg a0),aI a1,aB a2] [.agg (qM [] (kB r))]:=gG func173 ntmps173 (hb 10 17) (hC 19 (λ(v:Int) sl ob nx=>⟨sl,[(0,.var 32 (kM [] (kB (⟨a0.fy,v⟩:bE))))]++ob,nx⟩)) (hz 4) (hz 5)
def lN(a0:Int)(a1:Int):Option Int:=
 acE (eX 17 [a0,a1]) λr1=>ς (Int.tmod (WR (r1*r1)) 2147483647)
instance Nj{a0:Int}{r:Int}:FC prog (lN a0 a1=ς r) 266 [aI a0,aI a1] [.c (.d (.i .i64 r))]:=gG func266 ntmps266
def jW(a0:bE)(a1:Int):(Int×Int×Int)->Option (ci (Int×Int×Int) (Int))
 |(v2,v3,v4)=>cond (ltB v4 a0.fy) (acE (qQ a0 v4) λr10=>cond (!r10) (ς (.next (v2,v3,WR (v4+1)))) (acE (lN v4 a1) λr11=>acE (cond (ltB v3 r11) (ς (v4,r11)) (ς (v2,v3))) λ((v12,v13):Int×Int)=>ς (.next (v12,v13,WR (v4+1))))) (ς (.done v2))
def mX(a0:bE)(a1:Int):Option Int:=
 acE (kD a0) λr1=>cond (!r1) (ς (-1)) (acE (iter (jW a0 a1) FU (-1,-1,0)) λ(v9:Int)=>ς v9)
instance TH{a0:bE}{r:Int}:FC prog (mX a0 a1=ς r) 174 [.agg (jg a0),aI a1] [.c (.d (.i .i64 r))]:=gG func174 ntmps174 (hL 0 (λ(v:Int×Int×Int) sl ob nx=>⟨(5,tI v.1)::(6,tI v.2.1)::(7,tI v.2.2)::sl,ob,nx⟩)) (hB 0 (λ(v:Int) sl ob nx=>⟨(5,tI v)::(6,.any)::(7,.any)::sl,ob,nx⟩)) (hC 27 (λ(v:Int×Int) sl ob nx=>⟨(5,tI v.1)::(6,tI v.2)::sl,ob,nx⟩))
def Aa(a0:ag):Option ag:=
 acE (gJ a0) λr1=>ς {r1 with aA:=cH,bG:=0,dQ:=0,f6:=ev,dL:=0}
instance aaY{a0:ag}{r:ag}:FC prog (Aa a0=ς r) 175 [.agg (cp a0)] [.agg (qM [.o,.o,.o] (cU r))]:=gG func175 ntmps175
def lO(a0:ae)(r4:bE):(Int×List ag)->Option (ci (Int×List ag) (List ag))
 |(v5,v6)=>cond (ltB v5 (a0.aJ.length:Int)) (acE (mX a0.fP v5) λr14=>acE (mX r4 v5) λr15=>acE (cond (!eqB r14 r15) (acE (ix v6 v5) λx17=>acE (Aa x17) λr18=>acE (ix v6 v5) λx19=>ς (v6.set (v5).toNat r18)) (ς v6)) λ(v16:List ag)=>ς (.next (WR (v5+1),v16))) (ς (.done v6))
def o9(a0:ae)(a1:dJ):Option (Bool×ae):=
 acE (cd a1.da 0 (WR (a0.fP.fy-1))) λr1=>acE (cond (!r1) (ς ζ) (acE (qQ a0.fP a1.da) λr3=>ς (booB r3 (eqB a1.bu 12)))) λ(v2:Bool)=>cond v2 (ς (η,a0)) (acE (sx a0.fP a1.da (eqB a1.bu 12)) λr4=>cond (eqB r4.fj 0) (ς (η,a0)) (acE (iter (lO a0 r4) FU (0,a0.aJ)) λ(v13:List ag)=>ς (ζ,{a0 with aJ:=v13,fP:=r4})))
instance R9{a1:dJ}{r:Bool×ae}:FCV prog (o9 a0 a1=ς r) 95 (nI a0) [tP 200,.v (.agg (kM [.t,.t] (g6 a1)))] (nI r.2) (.v (.c (.d η (.b r.1)))) []:=gV func95 ntmps95 (hb 22 32) (hL 0 (λ(v:Int×List ag) sl ob nx=>⟨(54,tI v.1)::xS [191,190,192,193] sl,[(191,w93 v.2)]++(uC 200 2 [.w 191 v.2.length] ob),nx⟩)) (hB 0 (λ(v:List ag) sl ob nx=>⟨(54,.any)::xS [191,190,192,193] sl,[(191,w93 v)]++(uC 200 2 [.w 191 v.length] ob),nx⟩)) (hC 63 (λ(v:List ag) sl ob nx=>⟨xS [191,190,192,193] sl,[(191,w93 v)]++(uC 200 2 [.w 191 v.length] ob),nx⟩)) (hz 13)
def JT(a0:ae)(a1:bA):Option (Bool×ae):=
 acE (cond (leB 200 (a0.aT.length:Int)) (ς ζ) (acE (cd a1.bj 0 (WR ((a0.ax.length:Int)-1))) λr2=>cond (!r2) (ς ζ) (acE (lQ a0.d7 a1.bh) λr3=>ς (!r3)))) λ(v1:Bool)=>cond v1 (ς (η,a0)) (acE (uI a0 a1) λr4=>ς (ζ,r4))
instance iforge_c{a1:bA}{r:Bool×ae}:FCV prog (JT a0 a1=ς r) 96 (nI a0) [tP 200,.v (.agg (kM [.t] (oN a1)))] (nI r.2) (.v (.c (.d η (.b r.1)))) []:=gV func96 ntmps96 (hb 11 32)
def yH(a0:ae)(a1:dJ):Option (Bool×ae):=
 cond (eqB a1.bu 1) (acE (L1 a0) λr1=>ς (r1.1,r1.2)) (acE (cond (eqB a1.bu 2) (ς (eqB a1.bu 2)) (acE (cond (eqB a1.bu 3) (ς (eqB a1.bu 3)) (ς (eqB a1.bu 4))) λ(v3:Bool)=>ς v3)) λ(v2:Bool)=>cond v2 (acE (o8 a0 a1) λr4=>ς (r4.1,r4.2)) (acE (cond (eqB a1.bu 5) (ς (eqB a1.bu 5)) (acE (cond (eqB a1.bu 6) (ς (eqB a1.bu 6)) (acE (cond (eqB a1.bu 7) (ς (eqB a1.bu 7)) (ς (eqB a1.bu 8))) λ(v7:Bool)=>ς v7)) λ(v6:Bool)=>ς v6)) λ(v5:Bool)=>cond v5 (acE (kG a0 a1) λr8=>ς (r8.1,r8.2)) (acE (cond (eqB a1.bu 9) (ς (eqB a1.bu 9)) (ς (eqB a1.bu 10))) λ(v9:Bool)=>cond v9 (acE (sD a0 a1) λr10=>ς (r10.1,r10.2)) (acE (cond (eqB a1.bu 11) (ς (eqB a1.bu 11)) (ς (eqB a1.bu 12))) λ(v11:Bool)=>cond v11 (acE (o9 a0 a1) λr12=>ς (r12.1,r12.2)) (cond (eqB a1.bu 13) (acE (JT a0 a1.b7) λr13=>ς (r13.1,r13.2)) (ς (η,a0)))))))
instance Yo{a1:dJ}{r:Bool×ae}:FCV prog (yH a0 a1=ς r) 36 (nI a0) [tP 200,.v (.agg (kM [.t,.t] (g6 a1)))] (nI r.2) (.v (.c (.d η (.b r.1)))) []:=gV func36 ntmps36 (hc 11 11) (hc 11 11) (hc 18 18) (hc 18 18) (hc 18 18) (hc 26 26) (hc 32 32)
def jX(a1:Int):(Int×ae)->Option (ci (Int×ae) (ae))
 |(v1,v12)=>acE (cond (ltB v1 a1) (ς (ltB 0 (v12.aT.length:Int))) (ς η)) λ(v26:Bool)=>cond v26 (acE (yN v12 0) λr27=>ς (.next (WR (v1+1),r27))) (ς (.done v12))
def qE(a0:ae)(a1:Int):Option ae:=
 acE (iter (jX a1) FU (0,a0)) λ(v25:ae)=>ς v25
instance TS{r:ae}:FCV prog (qE a0 a1=ς r) 67 (nI a0) [tP 200,tI a1] (nI r) (.tup []) []:=gV func67 ntmps67 (hL 0 (λ(v:Int×ae) sl ob nx=>⟨(4,tI v.1)::xS [193,192,191,190] sl,nI v.2++ob,nx⟩)) (hB 0 (λ(v:ae) sl ob nx=>⟨(4,.any)::xS [193,192,191,190] sl,nI v++ob,nx⟩)) (hb 8 15)
def xf(a1:Int):(Int×ae)->Option (ci (Int×ae) (ae))
 |(v5,v16)=>cond (ltB v5 a1) (acE (L1 v16) λr30=>acE (qE r30.2 4000) λr31=>ς (.next (WR (v5+1),r31))) (ς (.done v16))
def jj(a0:ae)(a1:Int):Option ae:=
 acE (sF a0) λr1=>acE (kW a0) λr2=>acE (cond (!r2) (ς ζ) (acE (cd a1 0 200) λr4=>ς (!r4))) λ(v3:Bool)=>cond v3 (ς r1) (acE (iter (xf a1) FU (0,r1)) λ(v29:ae)=>ς v29)
instance iRounds_c{r:ae}:FC prog (jj a0 a1=ς r) 24 [.agg (g5 a0),aI a1] [.agg (qM [.d,.o,.o,.o,.o] (bF r))]:=gG func24 ntmps24 (hb 12 16) (hL 0 (λ(v:Int×ae) sl ob nx=>⟨(6,tI v.1)::xS [6,5,4,3,2] sl,oM [.t,.w 3,.w 4,.w 5,.w 6] 7 34 (bF v.2)++fO [2] ob,nx⟩)) (hB 0 (λ(v:ae) sl ob nx=>⟨(6,.any)::xS [6,5,4,3,2] sl,oM [.t,.w 3,.w 4,.w 5,.w 6] 7 34 (bF v)++fO [2] ob,nx⟩))
def xc(a0:ae):Option Bool:=
 ς (eqB (a0.aT.length:Int) 0)
instance Vo:FC prog (xc a0=ς r) 16 [.agg (g5 a0)] [.c (.d (.b r))]:=gG func16 ntmps16
def Bk(a0:ae):Option ae:=
 acE (jj a0 1) λr1=>ς r1
instance iRound_c{r:ae}:FC prog (Bk a0=ς r) 23 [.agg (g5 a0)] [.agg (qM [.d,.o,.o,.o,.o] (bF r))]:=gG func23 ntmps23
end Go.AM
