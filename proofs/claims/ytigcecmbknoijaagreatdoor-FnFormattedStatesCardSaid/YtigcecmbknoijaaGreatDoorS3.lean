/- A part. -/
import Derived.Test.YtigcecmbknoijaaGreatDoorG
set_option linter.unusedVariables false
open Option renaming some->ς,none->ξ
open Bool renaming true->ζ,false->η
open True renaming intro->θ
open Option renaming bind->ZS
namespace Go.AM
open Go.Proofs
open Tryz
attribute [local irreducible] AWN NS AWO AWR AWC DR DZ cM eN iter
set_option maxRecDepth 100000
set_option maxHeartbeats 40000000
variable{a0:Go.AM.aj}{r a1:Int}
def rj(a0:aj):Option (Int×aj):=
 ZS (cond (ltB a0.fi (a0.fb.length:Int)) (ZS (ix a0.fb a0.fi) λx3=>ς (uL .i64 (WR ((uL .i64 (GX .i64 (Ap .i64 (WR ((WR (a0.fh*6364136223846793005))+1442695040888963407)) 33) (Ap .i64 (WR ((WR (a0.fh*6364136223846793005))+1442695040888963407)) 47)) 255)+(WR (x3)))) 255,WR (a0.fi+1))) (ς (uL .i64 (GX .i64 (Ap .i64 (WR ((WR (a0.fh*6364136223846793005))+1442695040888963407)) 33) (Ap .i64 (WR ((WR (a0.fh*6364136223846793005))+1442695040888963407)) 47)) 255,a0.fi))) λ((v1,v2):Int×Int)=>ς (v1,(⟨a0.fb,v2,WR ((WR (a0.fh*6364136223846793005))+1442695040888963407)⟩:aj))
instance sl1Byte_c{r:Int×aj}:FCW prog (rj a0=ς r) 60 (.var 115 (kM [.f] (aO a0))) [tP 200] (.var 115 (kM [.f] (aO r.2))) [.c (.d (.i .i64 r.1))]:=gW func60 ntmps60 (hC 34 (λ(v:Int×Int) sl ob nx=>⟨(3,tI v.1)::sl,[(200,.var 115 (kM [.f] (aO (⟨a0.fb,v.2,WR ((WR (a0.fh*6364136223846793005))+1442695040888963407)⟩:aj))))]++ob,nx⟩))
def a9(a0:aj)(a1:Int):Option (Int×aj):=
 cond (leB a1 0) (ς (0,a0)) (cond (leB a1 256) (ZS (rj a0) λr1=>cond (!eqB a1 0) (ς (Int.tmod r1.1 a1,r1.2)) ξ) (ZS (rj a0) λr2=>ZS (rj r2.2) λr3=>ZS (rj r3.2) λr4=>cond (!eqB a1 0) (ς (Int.tmod (WR ((WR ((WR (r2.1*65536))+(WR (r3.1*256))))+r4.1)) a1,r4.2)) ξ))
instance bW{r:Int×aj}:FCW prog (a9 a0 a1=ς r) 39 (.var 115 (kM [.f] (aO a0))) [tP 200,tI a1] (.var 115 (kM [.f] (aO r.2))) [.c (.d (.i .i64 r.1))]:=gW func39 ntmps39
def rh(a0:an)(a1:Int):Int->Option (cH (Int) (Int))
 |v1=>cond (ltB v1 (a0.aC.length:Int)) (ZS (ix a0.aC v1) λx2=>cond (eqB x2.aH a1) (dn (ς v1)) (ς (.next (WR (v1+1))))) (dn (ς (-1)))
def kC(a0:an)(a1:Int):Option Int:=
 iter (rh a0 a1) FU 0
instance Xq{a0:an} :FC prog (kC a0 a1=ς r) 111 [.agg (dX a0),aI a1] [.c (.d (.i .i64 r))]:=gG func111 ntmps111 (hl 0 5)
def gE(a0:an)(a1:Int):Option Int:=
 ZS (kC a0 a1) λr1=>cond (ltB r1 0) (ς 0) (ZS (ix a0.aC r1) λx2=>ς x2.dV)
instance RT{a0:an} :FC prog (gE a0 a1=ς r) 67 [.agg (dX a0),aI a1] [.c (.d (.i .i64 r))]:=gG func67 ntmps67
def m9(a0:an):(Int×Int)->Option (cH (Int×Int) (Int))
 |(v1,v2)=>cond (ltB v2 (a0.aC.length:Int)) (ZS (ix a0.aC v2) λx5=>ς (.next (WR (v1+x5.dV),WR (v2+1)))) (ς (.done v1))
def kA(a0:an):Option Int:=
 ZS (iter (m9 a0) FU (0,0)) λ(v4:Int)=>ς v4
instance Oi{a0:an} :FC prog (kA a0=ς r) 12 [.agg (dX a0)] [.c (.d (.i .i64 r))]:=gG func12 ntmps12 (hm 0 3 4) (he 0 3 4)
def Cs(a0:Int)(a1:Int):Option Int:=
 cond (ltB a1 a0) (ς a1) (ς a0)
instance Gg{a0:Int} :FC prog (Cs a0 a1=ς r) 112 [aI a0,aI a1] [.c (.d (.i .i64 r))]:=gG func112 ntmps112
def fg(a0:aj)(a1:List Int):Option (Int×aj):=
 ZS (a9 a0 (a1.length:Int)) λr1=>ZS (ix a1 r1.1) λx2=>ς (x2,r1.2)
instance sQ{a1:List Int}{r:Int×aj}:FCW prog (fg a0 a1=ς r) 48 (.var 115 (kM [.f] (aO a0))) [tP 200,.v (.c (.d η (.l (a1.map eI))))] (.var 115 (kM [.f] (aO r.2))) [.c (.d (.i .i64 r.1))]:=gW func48 ntmps48
def fD(a0:aj)(a1:Int):Option (Bool×aj):=
 ZS (a9 a0 a1) λr1=>ς (eqB r1.1 0,r1.2)
instance jh{r:Bool×aj}:FCW prog (fD a0 a1=ς r) 70 (.var 115 (kM [.f] (aO a0))) [tP 200,tI a1] (.var 115 (kM [.f] (aO r.2))) [.c (.d (.b r.1))]:=gW func70 ntmps70
def tR(a0:lj)(a1:Int):Option ax:=
 ς {Tk with dZ:=a0,bg:=a1,bL:={ct with bF:=1}}
instance UU{a0:lj}{r:ax}:FC prog (tR a0 a1=ς r) 76 [.agg (Jx a0),aI a1] [.agg (qM [.z,.z] (fy r))]:=gG func76 ntmps76
def o5(a0:aj):Option (Int×aj):=
 ZS (a9 a0 6) λr1=>ς (WR (100+r1.1),r1.2)
instance sl5Key_c{r:Int×aj}:FCW prog (o5 a0=ς r) 104 (.var 115 (kM [.f] (aO a0))) [tP 200] (.var 115 (kM [.f] (aO r.2))) [.c (.d (.i .i64 r.1))]:=gW func104 ntmps104
def Kv(a0:aj):Option (cG×aj):=
 ZS (a9 a0 3) λr1=>ZS (a9 r1.2 5) λr2=>ς ((⟨r1.1,r2.1⟩:cG),r2.2)
instance sl4Who_c{r:cG×aj}:FCW prog (Kv a0=ς r) 119 (.var 115 (kM [.f] (aO a0))) [tP 200] (.var 115 (kM [.f] (aO r.2))) [.agg (qM [] (BK r.1))]:=gW func119 ntmps119
def zf(a0:aj):Option (lj×aj):=
 ZS (Kv a0) λr1=>ZS (o5 r1.2) λr2=>ZS (a9 r2.2 40) λr3=>ς ((⟨r1.1,r2.1,r3.1⟩:lj),r3.2)
instance sl6Card_c{r:lj×aj}:FCW prog (zf a0=ς r) 77 (.var 115 (kM [.f] (aO a0))) [tP 200] (.var 115 (kM [.f] (aO r.2))) [.agg (qM [] (JA r.1))]:=gW func77 ntmps77
def qr(a0:ax):Option aT:=
 ς {eB with bp:=1,bg:=a0.bg}
instance U5{a0:ax}{r:aT}:FC prog (qr a0=ς r) 123 [.agg (eh a0)] [.agg (qM [] (i6 r))]:=gG func123 ntmps123
def Cr(a0:Int)(a1:Int):Option Int:=
 cond (ltB a0 a1) (ς a1) (ς a0)
instance Xb{a0:Int} :FC prog (Cr a0 a1=ς r) 132 [aI a0,aI a1] [.c (.d (.i .i64 r))]:=gG func132 ntmps132
def mZ:Option kj:=
 ς (⟨[1,2]⟩:kj)
instance Je{r:kj}:FC prog (mZ=ς r) 171 [] [.agg [.own 3 1 (r.Steps.map eI) r.Steps.length]]:=gG func171 ntmps171
def rT(a0:Int):Option kj:=
 ς (⟨[1,3,a0]⟩:kj)
instance OM{a0:Int}{r:kj}:FC prog (rT a0=ς r) 179 [aI a0] [.agg [.own 3 1 (r.Steps.map eI) r.Steps.length]]:=gG func179 ntmps179
def Ai(a1:Int):(Int×List Int×aj)->Option (cH (Int×List Int×aj) (List Int×aj))
 |(v1,v5,v6)=>cond (ltB v1 a1) (ZS (rj v6) λr13=>cond (cN 1 (v5++[IntKind.u8.wrap (r13.1)]).length) (ς (.next (WR (v1+1),(v5++[IntKind.u8.wrap (r13.1)]),r13.2))) ξ) (ς (.done (v5,v6)))
def nj(a0:aj)(a1:Int):Option (List Int×aj):=
 ZS (iter (Ai a1) FU (0,([]:List Int),a0)) λ((v11,v12):List Int×aj)=>ς (v11,v12)
instance tZ{r:List Int×aj}:FCW prog (nj a0 a1=ς r) 41 (.var 115 (kM [.f] (aO a0))) [tP 200,tI a1] (.var 115 (kM [.f] (aO r.2))) [.c (.own 5 1 (r.1.map eU8) r.1.length)]:=gW func41 ntmps41 (hL 0 (λ(v:Int×List Int×aj) sl ob nx=>⟨(5,.v (.c (.w 210 v.2.1.length)))::(6,tI v.1)::xS [210] sl,[(200,.var 115 (kM [.f] (aO v.2.2))),(210,w5 v.2.1)]++ob,nx⟩)) (hB 0 (λ(v:List Int×aj) sl ob nx=>⟨(5,.v (.c (.w 210 v.1.length)))::(6,.any)::xS [210] sl,[(200,.var 115 (kM [.f] (aO v.2))),(210,w5 v.1)]++ob,nx⟩))
def A3(a0:aj):Option (lj×aP×aj):=
 ZS (zf a0) λr1=>ZS (a9 r1.2 4) λr2=>ZS (a9 r2.2 8) λr3=>ZS (cond (eqB r3.1 0) (ZS (fg r3.2 [0,WR (r1.1.dq+1500),999998]) λr10=>ς (r10.1,r1.1.dq,r10.2)) (ZS (cond (eqB r3.1 1) (ZS (fg r3.2 [0,5000,999990]) λr16=>ς (r16.1,r16.2)) (ς (r1.1.dq,r3.2))) λ((v14,v15):Int×aj)=>ς (WR (r1.1.dq+r2.1),v14,v15))) λ((v7,v8,v9):Int×Int×aj)=>ς ({r1.1 with dq:=v8},(⟨r1.1.ID,r1.1.gS,v7⟩:aP),v9)
instance sl6Pair_c{r:lj×aP×aj}:FCW prog (A3 a0=ς r) 90 (.var 115 (kM [.f] (aO a0))) [tP 200] (.var 115 (kM [.f] (aO r.2.2))) [.agg (qM [] (JA r.1)),.agg (qM [] (pZ r.2.1))]:=gW func90 ntmps90 (hC 20 (λ(v:Int×Int×aj) sl ob nx=>⟨sl,[(200,.var 115 (kM [.f] (aO v.2.2)))]++(uC 213 3 [.d η (.i .i64 v.1)] (uC 212 3 [.d η (.i .i64 v.2.1)] ob)),nx⟩)) (hC 29 (λ(v:Int×aj) sl ob nx=>⟨sl,[(200,.var 115 (kM [.f] (aO v.2)))]++(uC 212 3 [.d η (.i .i64 v.1)] ob),nx⟩)) (hz 8) (hz 2)
def s8(a0:bY):Option bY:=
 cond (cN 8 (([]:List Int)++a0.bX).length) (ς {a0 with bX:=(([]:List Int)++a0.bX)}) ξ
instance XC{a0:bY}{r:bY}:FC prog (s8 a0=ς r) 138 [.agg (pV a0)] [.agg (qM [.o] (p3 r))]:=gG func138 ntmps138
def oL(a0:aP)(a1:bY)(a2:Int):Option ah:=
 ZS (s8 a1) λr1=>ς {EF with b7:=a0,jj:=r1,aK:=(⟨1,[]⟩:be),ci:={MU with aH:=a2}}
instance Tt{a0:aP}{a1:bY}{a2:Int}{r:ah}:FC prog (oL a0 a1 a2=ς r) 91 [.agg (eD a0),.agg (pV a1),aI a2] [.agg (qM [.o,.z,.z] (df r))]:=gG func91 ntmps91 (hz 1)
def Aj:(Int×List Int×aj)->Option (cH (Int×List Int×aj) (List Int×aj))
 |(v4,v8,v9)=>cond (ltB v4 4) (ZS (fD v9 3) λr17=>ZS (cond r17.1 (cond (cN 8 (v8++[v4]).length) (ς (v8++[v4])) ξ) (ς v8)) λ(v18:List Int)=>ς (.next (WR (v4+1),v18,r17.2))) (ς (.done (v8,v9)))
def vI(a0:aj):Option (bY×aj):=
 ZS (a9 a0 9) λr1=>ZS (a9 r1.2 4) λr2=>ZS (a9 r2.2 20) λr3=>ZS (iter (Aj) FU (0,([]:List Int),r3.2)) λ((v15,v16):List Int×aj)=>ς ((⟨WR (1+r1.1),WR (1+r2.1),WR (1+r3.1),v15⟩:bY),v16)
instance Kp{r:bY×aj}:FCV prog (vI a0=ς r) 92 [(200,.var 115 (kM [.f] (aO a0)))] [tP 200] [(200,.var 115 (kM [.f] (aO r.2)))] (.v (.agg (kM [.n 210] (p3 r.1)))) [(210,n3 r.1.bX)]:=gV func92 ntmps92 (hL 0 (λ(v:Int×List Int×aj) sl ob nx=>⟨(4,tI v.1)::xS [212] sl,[(200,.var 115 (kM [.f] (aO v.2.2))),(212,n3 v.2.1)]++(uC 211 3 [.wn 212 v.2.1.length] ob),213⟩)) (hB 0 (λ(v:List Int×aj) sl ob nx=>⟨(4,.any)::xS [212] sl,[(200,.var 115 (kM [.f] (aO v.2))),(212,n3 v.1)]++(uC 211 3 [.wn 212 v.1.length] ob),213⟩)) (hC 20 (λ(v:List Int) sl ob nx=>⟨xS [212] sl,[(212,n3 v)]++(uC 211 3 [.wn 212 v.length] ob),nx⟩))
def CJ(a0:List Int):Option b8:=
 cond (cN 1 (([]:List Int)++a0).length) (ς (⟨(([]:List Int)++a0)⟩:b8)) ξ
instance Xs{a0:List Int}{r:b8}:FC prog (CJ a0=ς r) 140 [aL (a0.map eU8)] [.agg [.own 5 1 (r.bm.map eU8) r.bm.length]]:=gG func140 ntmps140
def n9(a0:cY)(a1:Int):Option Bool:=
 ς (eqB a1 a0.uH)
instance Ki{a0:cY}{r:Bool}:FC prog (n9 a0 a1=ς r) 143 [.agg (tz a0),aI a1] [.c (.d (.b r))]:=gG func143 ntmps143
def t7(a0:List ab):(Int×Int)->Option (cH (Int×Int) (Int))
 |(v1,v2)=>cond (ltB v2 (a0.length:Int)) (ZS (ix a0 v2) λx5=>ς (.next (WR (v1+(x5.bm.length:Int)),WR (v2+1)))) (ς (.done v1))
def mq(a0:List ab):Option Int:=
 ZS (iter (t7 a0) FU (0,0)) λ(v4:Int)=>ς v4
instance VY{a0:List ab} :FC prog (mq a0=ς r) 97 [aL (a0.map aY)] [.c (.d (.i .i64 r))]:=gG func97 ntmps97 (hm 0 3 4) (he 0 3 4)
def qy:(Int×List aP×aj)->Option (cH (Int×List aP×aj) (List aP×aj))
 |(v2,v6,v7)=>cond (ltB 0 v2) (ZS (o5 v7) λr15=>ZS (a9 r15.2 20) λr16=>cond (cN 32 (v6++[(⟨(⟨1,v2⟩:cG),r15.1,r16.1⟩:aP)]).length) (ς (.next (WR (v2-1),(v6++[(⟨(⟨1,v2⟩:cG),r15.1,r16.1⟩:aP)]),r16.2))) ξ) (ς (.done (v6,v7)))
def lH(a0:aj):Option (List aP×aj):=
 ZS (a9 a0 3) λr1=>ZS (iter (qy) FU (WR (1+r1.1),([]:List aP),r1.2)) λ((v13,v14):List aP×aj)=>ς (v13,v14)
instance rA{r:List aP×aj}:FCW prog (lH a0=ς r) 150 (.var 115 (kM [.f] (aO a0))) [tP 200] (.var 115 (kM [.f] (aO r.2))) [.c (.own 64 4 (r.1.map eD) r.1.length)]:=gW func150 ntmps150 (hL 0 (λ(v:Int×List aP×aj) sl ob nx=>⟨(3,.v (.c (.w 210 v.2.1.length)))::(4,tI v.1)::xS [210] sl,[(200,.var 115 (kM [.f] (aO v.2.2))),(210,w64 v.2.1)]++ob,nx⟩)) (hB 0 (λ(v:List aP×aj) sl ob nx=>⟨(3,.v (.c (.w 210 v.1.length)))::(4,.any)::xS [210] sl,[(200,.var 115 (kM [.f] (aO v.2))),(210,w64 v.1)]++ob,nx⟩))
def yY(a0:aF):Option aF:=
 cond (cN 1 (([]:List Int)++a0.bH.bm).length) (ς {a0 with bH:={a0.bH with bm:=(([]:List Int)++a0.bH.bm)}}) ξ
instance Xt{a0:aF}{r:aF}:FC prog (yY a0=ς r) 186 [.agg (ev a0)] [.agg (qM [.o] (gF r))]:=gG func186 ntmps186
def qw(a0:bJ):Option bJ:=
 ZS (yY a0.cA) λr1=>ς {a0 with cA:=r1}
instance Gr{a0:bJ}{r:bJ}:FC prog (qw a0=ς r) 153 [.agg (eW a0)] [.agg (qM [.o] (pY r))]:=gG func153 ntmps153
def g8(a0:ae)(a1:bJ):Option ae:=
 cond (leB 200 (a0.aV.length:Int)) (ς {a0 with Lost:=WR (a0.Lost+1)}) (ZS (qw a1) λr1=>cond (cN 176 (a0.aV++[r1]).length) (ς {a0 with aV:=(a0.aV++[r1])}) ξ)
instance Ks{a0:ae}{a1:bJ}{r:ae}:FCV prog (g8 a0 a1=ς r) 151 (nS a0) [tP 200,.v (.agg (kM [.t] (pY a1)))] (nS r) (.tup []) []:=⟨λH=>by
 refine fV func151 ntmps151 ?_
 refine cC H ?_ ?_<;>intro H
 .cases H
  exact dv
 refine TJ 0 18 0 [1,2,3,4,5,6,7,8,9,10,11] Try.follows (by kernel_rfl) (by kernel_rfl) rfl (by kernel_rfl) rfl rfl ?_
 refine wI ?_
 refine aa H λr1 q1 H=>zA (ca (hF:=(Gr.h q1).frzs (by repeat (first|exact θ|refine⟨?_,?_⟩|exact lm _|rfl)))) ?_
 obtain⟨h,H⟩:=rq H
 refine zB cz (kh rfl (GU (enc:=eW) (ys:=a0.aV) (zs:=[r1]) h (by first|exact List.cons_ne_nil _ _|simp) rfl (λ_=>rfl) (by first|rfl|simp) (.w rfl (by first|rfl|exact lm _|simp)) rfl rfl rfl rfl rfl rfl rfl rfl rfl rfl)) cz ?_
 refine wA (spx 100534) ?_
 cases H
 refine cg ((fE 193)) ?_
 exact BL⟩
def ud(a0:aj):Option (Int×aj):=
 ZS (fD a0 10) λr1=>cond r1.1 (ZS (fg r1.2 [-1,2147483647,2147483648]) λr2=>ς (r2.1,r2.2)) (ZS (fD r1.2 4) λr3=>cond r3.1 (ZS (fg r3.2 [0,1,2147483646]) λr4=>ς (r4.1,r4.2)) (ZS (a9 r3.2 1000000) λr5=>ZS (a9 r5.2 2000) λr6=>ς (WR (r5.1*r6.1),r6.2)))
instance sl3Word_c{r:Int×aj}:FCW prog (ud a0=ς r) 106 (.var 115 (kM [.f] (aO a0))) [tP 200] (.var 115 (kM [.f] (aO r.2))) [.c (.d (.i .i64 r.1))]:=gW func106 ntmps106
def Gs(a0:aj):Option (Int×aj):=
 ZS (fD a0 6) λr1=>cond r1.1 (ZS (fg r1.2 [0,999999,1000000,-1,998999]) λr2=>ς (r2.1,r2.2)) (ZS (a9 r1.2 40) λr3=>ς (r3.1,r3.2))
instance sl5Seq_c{r:Int×aj}:FCW prog (Gs a0=ς r) 230 (.var 115 (kM [.f] (aO a0))) [tP 200] (.var 115 (kM [.f] (aO r.2))) [.c (.d (.i .i64 r.1))]:=gW func230 ntmps230
def oF(a0:List Int)(a1:List Int):Option Bool:=
 ς (strB (mz a0) (mz a1))
instance Tl{a0:List Int}{a1:List Int}{r:Bool}:FC prog (oF a0 a1=ς r) 250 [aL (a0.map eU8),aL (a1.map eU8)] [.c (.d (.b r))]:=gG func250 ntmps250
def rS(a0:bC)(a1:bC):Option Bool:=
 ZS (cond (eqB a0.dQ a1.dQ) (cond (eqB a0.eJ a1.eJ) (cond (eqB a0.kf a1.kf) (ZS (oF a0.bm a1.bm) λr2=>ς r2) (ς η)) (ς η)) (ς η)) λ(v1:Bool)=>ς v1
instance OK{a0:bC}{a1:bC}{r:Bool}:FC prog (rS a0 a1=ς r) 242 [.agg (gN a0),.agg (gN a1)] [.c (.d (.b r))]:=gG func242 ntmps242 (hb 10 4)
def qT(a0:aF)(a1:aF):Option Bool:=
 ZS (cond (eqB a0.ag a1.ag) (cond (eqB a0.aZ a1.aZ) (ZS (rS a0.bH a1.bH) λr2=>ς r2) (ς η)) (ς η)) λ(v1:Bool)=>ς v1
instance Tm{a0:aF}{a1:aF}{r:Bool}:FC prog (qT a0 a1=ς r) 232 [.agg (ev a0),.agg (ev a1)] [.c (.d (.b r))]:=gG func232 ntmps232 (hb 10 4)
def nz(a0:bJ)(a1:bJ):Option Bool:=
 ZS (cond (eqB a0.bk a1.bk) (cond (booB a0.dm a1.dm) (cond (booB a0.cS a1.cS) (cond (eqB a0.bg a1.bg) (bif(eqB a0.bh.bp a1.bh.bp&&(eqB a0.bh.bg a1.bh.bg&&(eqB a0.bh.ag a1.bh.ag&&(eqB a0.bh.aZ a1.bh.aZ&&(eqB a0.bh.bZ a1.bh.bZ&&(eqB a0.bh.cj.fT a1.bh.cj.fT&&(eqB a0.bh.cj.ji a1.bh.cj.ji&&(eqB a0.bh.cj.kf a1.bh.cj.kf&&(eqB a0.bh.cj.uH a1.bh.cj.uH&&(eqB a0.bh.cj.gS a1.bh.cj.gS&&(eqB a0.bh.kf a1.bh.kf&&ζ))))))))))) then(ZS (qT a0.cA a1.cA) λr2=>ς r2) else(ς η)) (ς η)) (ς η)) (ς η)) (ς η)) λ(v1:Bool)=>ς v1
instance Ow{a0:bJ}{a1:bJ}{r:Bool}:FC prog (nz a0 a1=ς r) 216 [.agg (eW a0),.agg (eW a1)] [.c (.d (.b r))]:=gG func216 ntmps216 (hb 10 4)
def kE(a1:Int)(a2:Bool)(a3:List aT):(Int×ae)->Option (cH (Int×ae) (ae))
 |(v1,v12)=>cond (ltB v1 (a3.length:Int)) (ZS (ix a3 v1) λx27=>ZS (ix a3 v1) λx28=>ZS (g8 v12 (⟨a1,a2,η,x27.bg,x28,ez⟩:bJ)) λr29=>ς (.next (WR (v1+1),r29))) (ς (.done v12))
def kD(a0:ae)(a1:Int)(a2:Bool)(a3:List aT):Option ae:=
 ZS (iter (kE a1 a2 a3) FU (0,a0)) λ(v26:ae)=>ς v26
instance TA{a0:ae}{a2:Bool}{a3:List aT}{r:ae}:FCV prog (kD a0 a1 a2 a3=ς r) 192 (nS a0) [tP 200,tI a1,tB a2,.v (.c (.d ζ (.l (a3.map eM))))] (nS r) (.tup []) []:=gV func192 ntmps192 (hL 0 (λ(v:Int×ae) sl ob nx=>⟨(8,tI v.1)::xS [193,192,191,190] sl,nS v.2++ob,nx⟩)) (hB 0 (λ(v:ae) sl ob nx=>⟨(8,.any)::xS [193,192,191,190] sl,nS v++ob,nx⟩)) (hz 3)
def iK(a0:ae)(a1:Int)(a2:bv):Option ae:=
 ZS (ix a0.av a1) λx1=>ZS (kD {a0 with av:=(a0.av.set (a1).toNat a2.bk)} a1 ζ a2.cT) λr2=>ς r2
instance Va{a0:ae}{a2:bv}{r:ae}:FCV prog (iK a0 a1 a2=ς r) 190 (nS a0) [tP 200,tI a1,.v (.agg (kM [.t,.t,.t] (eE a2)))] (nS r) (.tup []) []:=gV func190 ntmps190 (hz 1)
def mV(a0:ah):Option Int:=
 ZS (mq a0.aK.aM) λr1=>ς r1
instance Jc{a0:ah} :FC prog (mV a0=ς r) 247 [.agg (cQ a0)] [.c (.d (.i .i64 r))]:=gG func247 ntmps247
def vP(a0:ae)(a1:Int):Option (bJ×ae):=
 ZS (ix a0.aV a1) λx1=>cond (fa a0.aV 0 a1) (cond (fa a0.aV (WR (a1+1)) a0.aV.length) (cond (cN 176 (([]:List bJ)++(a0.aV.take (a1).toNat)).length) (cond (cN 176 ((([]:List bJ)++(a0.aV.take (a1).toNat))++(a0.aV.drop (WR (a1+1)).toNat)).length) (ς (x1,{a0 with aV:=((([]:List bJ)++(a0.aV.take (a1).toNat))++(a0.aV.drop (WR (a1+1)).toNat))})) ξ) ξ) ξ) ξ
instance XF{a0:ae}{r:bJ×ae}:FCV prog (vP a0 a1=ς r) 194 (nS a0) [tP 200,tI a1] (nS r.2) (.v (.agg (kM [.t] (pY r.1)))) []:=⟨λH=>by
 refine fV func194 ntmps194 ?_
 refine aa H λx1 hx1 H=>eC (jL 193 (hne:=uq (enc:=eW) hx1)) ?_
 refine nA (xwT hx1) ?_
 refine nA (oea (he:=js _ hx1)) ?_
 refine zI [0,1,2,3,4,5,6,7,9,10,11,12,13,14,15,8,16,17,18,19] ?_
 obtain⟨hs11,H⟩:=rq H
 refine zA (TR (enc:=eW) hs11 (by first|rfl|simp) rfl rfl rfl rfl) ?_
 obtain⟨hs12,H⟩:=rq H
 refine zA (TS (enc:=eW) hs12 (by first|rfl|simp) rfl rfl rfl rfl) ?_
 obtain⟨h,H⟩:=rq H
 refine wA (apx (enc:=eW) (ys:=([]:List bJ)) (zs:=a0.aV.take (a1).toNat) [212,193] h (hs:=IO (enc:=eW) hs11 rfl)) ?_
 obtain⟨h,H⟩:=rq H
 refine wA (apx (enc:=eW) (ys:=(([]:List bJ)++(a0.aV.take (a1).toNat))) (zs:=a0.aV.drop (WR (a1+1)).toNat) [213,193] h (hs:=Et (enc:=eW) hs12 (by first|rfl|simp) rfl)) ?_
 refine wA (spx 100832) ?_
 refine lA (ds:=[212,213]) (by kernel_rfl) (by kernel_rfl) rfl ?_
 refine wI ?_
 cases H
 refine cg (I5 193 214) ?_
 refine cg ((fE 193)) ?_
 exact dv⟩
def CF(a0:aj):Option (bQ×aj):=
 ZS (a9 a0 6) λr1=>cond (leB 0 (WR (1+r1.1))) (ZS (a9 r1.2 (my .i64 1 (WR (1+r1.1)))) λr2=>ς ((⟨WR (1+r1.1),r2.1⟩:bQ),r2.2)) ξ
instance Xr{r:bQ×aj}:FCW prog (CF a0=ς r) 115 (.var 115 (kM [.f] (aO a0))) [tP 200] (.var 115 (kM [.f] (aO r.2))) [.agg (qM [] (mE r.1))]:=gW func115 ntmps115
def AW(a0:aj):Option (bQ×aj):=
 ZS (CF a0) λr1=>ZS (a9 r1.2 8) λr2=>ZS (cond (eqB r2.1 0) (ZS (fg r2.2 [0,1,6,7,-1]) λr10=>ς (r10.2,(⟨r10.1,r1.1.fZ⟩:bQ))) (ZS (cond (eqB r2.1 1) (ZS (fg r2.2 [-1,63,64]) λr16=>ς (r16.1,r16.2)) (ς (r1.1.fZ,r2.2))) λ((v14,v15):Int×aj)=>ς (v15,(⟨r1.1.ia,v14⟩:bQ)))) λ((v8,v9):aj×bQ)=>ς (v9,v8)
instance Oo{r:bQ×aj}:FCW prog (AW a0=ς r) 72 (.var 115 (kM [.f] (aO a0))) [tP 200] (.var 115 (kM [.f] (aO r.2))) [.agg (qM [] (mE r.1))]:=gW func72 ntmps72 (hC 8 (λ(v:aj×bQ) sl ob nx=>⟨sl,[(200,.var 115 (kM [.f] (aO v.1))),(211,.var 41 (kM [] (mE v.2)))]++ob,nx⟩)) (hC 14 (λ(v:Int×aj) sl ob nx=>⟨sl,[(200,.var 115 (kM [.f] (aO v.2)))]++(uC 211 1 [.d η (.i .i64 v.1)] ob),nx⟩))
end Go.AM
