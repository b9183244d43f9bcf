/- A part. -/
import Derived.Test.YtfbpfflnhfcmaaaGreatS1
set_option linter.unusedVariables false
open Option renaming some->ς,none->ξ
open Bool renaming true->ζ,false->η
open True renaming intro->θ
open Option renaming bind->afW
open List renaming range->abm
namespace Go.AM
open Go.Proofs
open Tryz
attribute [local irreducible] AWN NS AWO AWR AWC DR DZ dm gK iter
set_option maxRecDepth 100000
set_option maxHeartbeats 40000000
variable{a1:Int}{r:Bool}
def jY(a0:bu)(a1:Int):Option (Bool×bu):=
 afW (cS a0 a1) λr1=>ς (eqB r1.1 0,r1.2)
instance By{a0:bu}{r:Bool×bu}:FCW prog (jY a0 a1=ς r) 137 (.var 124 (kM [.f] (cB a0))) [tP 200,tI a1] (.var 124 (kM [.f] (cB r.2))) [.c (.d (.b r.1))]:=gW func137 ntmps137
def fc(a0:a8):Option Bool:=
 afW (iw a0.ID) λr1=>afW (cond r1 (afW (jg a0.eV) λr3=>cond r3 (afW (dt a0.cH 0 999999) λr4=>ς r4) (ς η)) (ς η)) λ(v2:Bool)=>ς v2
instance Ib{a0:a8} :FC prog (fc a0=ς r) 194 [.agg (eB a0)] [.c (.d (.b r))]:=gG func194 ntmps194 (hb 6 2)
def CQ(a0:bu):Option (Int×bu):=
 afW (cS a0 6) λr1=>ς (WR (100+r1.1),r1.2)
instance sl5Key_c{a0:bu}{r:Int×bu}:FCW prog (CQ a0=ς r) 230 (.var 124 (kM [.f] (cB a0))) [tP 200] (.var 124 (kM [.f] (cB r.2))) [.c (.d (.i .i64 r.1))]:=gW func230 ntmps230
def jZ(a0:ag):Option ag:=
 afW (yb a0.gI) λr1=>afW (vk a0.aC) λr2=>afW (o5 a0.ax) λr3=>ς {a0 with gI:=r1,aC:=r2,ax:=r3}
instance Rs{a0:ag}{r:ag}:FC prog (jZ a0=ς r) 142 [.agg (cr a0)] [.agg (qM [.o,.o,.o] (dO r))]:=gG func142 ntmps142
def lO(a0:aA):Option aA:=
 afW (AT a0.bm) λr1=>ς {a0 with bm:=r1}
instance sl29Copy_c{a0:aA}{r:aA}:FC prog (lO a0=ς r) 141 [.agg (dR a0)] [.agg (qM [.o,.o] (mB r))]:=gG func141 ntmps141
def jx(a0:ab)(a1:bg):Option ab:=
 cond (leB 200 (a0.aH.length:Int)) (ς {a0 with Lost:=WR (a0.Lost+1)}) (afW (vr a1) λr1=>cond (da 176 (a0.aH++[r1]).length) (ς {a0 with aH:=(a0.aH++[r1])}) ξ)
instance Ru{a0:ab}{a1:bg}{r:ab}:FCV prog (jx a0 a1=ς r) 139 (nS a0) [tP 200,.v (.agg (kM [.t] (pD a1)))] (nS r) (.tup []) []:=⟨λH=>by
 refine fV func139 ntmps139 ?_
 refine cC H ?_ ?_<;>intro H
 .cases H
  exact mC
 refine Sb 0 18 0 [1,2,3,4,5,6,7,8,9,10,11] Try.follows (by kernel_rfl) (by kernel_rfl) rfl (by kernel_rfl) rfl rfl ?_
 refine wI ?_
 refine aa H λr1 q1 H=>zA (ca (hF:=(Mx.h q1).frzs (by repeat (first|exact θ|refine⟨?_,?_⟩|exact lm _|rfl)))) ?_
 obtain⟨h,H⟩:=rq H
 refine zB dV (vG rfl (Ux (enc:=fG) (ys:=a0.aH) (zs:=[r1]) h (by first|exact List.cons_ne_nil _ _|simp) rfl (λ_=>rfl) (by first|rfl|simp) (.w rfl (by first|rfl|exact lm _|simp)) rfl rfl rfl rfl rfl rfl rfl rfl rfl rfl)) dV ?_
 refine wA (spx 100084) ?_
 cases H
 refine dD ((qT 193)) ?_
 exact G9⟩
def qw(a0:mw):Option Bool:=
 afW (iw a0.ID) λr1=>afW (cond r1 (afW (jg a0.eV) λr3=>cond r3 (afW (dt a0.dh 0 999999) λr4=>ς r4) (ς η)) (ς η)) λ(v2:Bool)=>ς v2
instance aan{a0:mw} :FC prog (qw a0=ς r) 192 [.agg (GZ a0)] [.c (.d (.b r))]:=gG func192 ntmps192 (hb 6 2)
def jI(a0:cW):Option Int:=
 afW (jh a0) λr1=>cond (!r1) (ς 0) (ς (WR (a0.cG-a0.d6)))
instance T0{a0:cW}{r:Int}:FC prog (jI a0=ς r) 46 [.agg (oH a0)] [.c (.d (.i .i64 r))]:=gG func46 ntmps46
def ge(a0:av)(a1:cW):Option Bool:=
 afW (iQ a0) λr1=>afW (cond r1 (afW (jh a1) λr3=>cond r3 (afW (qE a0 a1.aO) λr4=>ς (eqB r4 a1.cG)) (ς η)) (ς η)) λ(v2:Bool)=>ς v2
instance Mr{a0:av}{a1:cW} :FC prog (ge a0 a1=ς r) 112 [.agg (dw a0),.agg (oH a1)] [.c (.d (.b r))]:=gG func112 ntmps112 (hb 7 4)
def lu(a0:ab)(a1:bg):Option Bool:=
 afW (cond (ltB (a0.aH.length:Int) 200) (afW (dt a1.aY 0 (WR ((a0.aj.length:Int)-1))) λr2=>cond r2 (afW (dt a1.aS 0 (WR ((a0.cp.bp.length:Int)-1))) λr3=>ς r3) (ς η)) (ς η)) λ(v1:Bool)=>ς v1
instance aaL{a0:ab}{a1:bg} :FC prog (lu a0 a1=ς r) 30 [.agg (eb a0),.agg (fG a1)] [.c (.d (.b r))]:=gG func30 ntmps30 (hb 9 4)
def xk(a0:bF)(a1:bF):Option Bool:=
 afW (cond (eqB a0.di a1.di) (cond (eqB a0.gR a1.gR) (cond (eqB a0.kr a1.kr) (afW (sW a0.bh a1.bh) λr2=>ς r2) (ς η)) (ς η)) (ς η)) λ(v1:Bool)=>ς v1
instance WY{a0:bF}{a1:bF} :FC prog (xk a0 a1=ς r) 153 [.agg (eZ a0),.agg (eZ a1)] [.c (.d (.b r))]:=gG func153 ntmps153 (hb 10 4)
def wq(a0:aF)(a1:aF):Option Bool:=
 afW (cond (eqB a0.ae a1.ae) (cond (eqB a0.aK a1.aK) (afW (xk a0.bO a1.bO) λr2=>ς r2) (ς η)) (ς η)) λ(v1:Bool)=>ς v1
instance abK{a0:aF}{a1:aF} :FC prog (wq a0 a1=ς r) 77 [.agg (df a0),.agg (df a1)] [.c (.d (.b r))]:=gG func77 ntmps77 (hb 10 4)
def lK(a0:bF):Option Bool:=
 afW (dt a0.di 0 1) λr1=>afW (cond r1 (afW (dt a0.gR 1 100000) λr3=>cond r3 (cond (leB (a0.bh.length:Int) 60) (afW (dt a0.kr 0 2147483646) λr4=>ς r4) (ς η)) (ς η)) (ς η)) λ(v2:Bool)=>ς v2
instance TW{a0:bF} :FC prog (lK a0=ς r) 78 [.agg (eZ a0)] [.c (.d (.b r))]:=gG func78 ntmps78 (hb 6 2)
def Jv(a0:Int)(a1:Int):Option Int:=
 afW (dt a1 1 1000000000000) λr1=>cond (!r1) (ς 0) (cond (!eqB a1 0) (cond (!eqB a1 0) (ς (Int.tmod (WR ((Int.tmod a0 a1)+a1)) a1)) ξ) ξ)
instance sMod_c{a0:Int}{r:Int}:FC prog (Jv a0 a1=ς r) 259 [aI a0,aI a1] [.c (.d (.i .i64 r))]:=gG func259 ntmps259
def AI(a0:List Int):(Int×Int)->Option (cj (Int×Int) (Int))
 |(v1,v2)=>cond (ltB v2 (a0.length:Int)) (afW (ix a0 v2) λx6=>afW (Jv x6 2147483647) λr7=>ς (.next (Int.tmod (WR ((WR ((WR (v1*1000003))+r7))+13)) 2147483647,WR (v2+1)))) (ς (.done v1))
def TS(a0:List Int):Option Int:=
 afW (iter (AI a0) FU (11,0)) λ(v5:Int)=>ς v5
instance sHash_c{a0:List Int}{r:Int}:FC prog (TS a0=ς r) 261 [aL (a0.map eI)] [.c (.d (.i .i64 r))]:=gG func261 ntmps261 (hm 0 3 4) (he 0 3 4)
def CP(a0:bu)(a1:List Int):Option (Int×bu):=
 afW (cS a0 (a1.length:Int)) λr1=>afW (ix a1 r1.1) λx2=>ς (x2,r1.2)
instance sl1Int_c{a0:bu}{a1:List Int}{r:Int×bu}:FCW prog (CP a0 a1=ς r) 187 (.var 124 (kM [.f] (cB a0))) [tP 200,.v (.c (.d η (.l (a1.map eI))))] (.var 124 (kM [.f] (cB r.2))) [.c (.d (.i .i64 r.1))]:=gW func187 ntmps187
def Mn(a0:av)(a1:Int)(a2:Int):Option (av×Bool):=
 afW (oE a0) λr1=>afW (iQ a0) λr2=>afW (cond (!r2) (ς ζ) (afW (qE a0 a1) λr4=>afW (dt a2 0 r4) λr5=>ς (!r5))) λ(v3:Bool)=>cond v3 (ς (r1,η)) (afW (cond (ltB 0 a2) (afW (s9 a0 a1) λr9=>afW (Gd a0.aD r9 a2) λr10=>ς {r1 with d9:=WR (a0.d9+a2),aD:=r10}) (ς r1)) λ(v8:av)=>ς (v8,ζ))
instance sDebit_c{a0:av}{a2:Int}{r:av×Bool}:FC prog (Mn a0 a1 a2=ς r) 334 [.agg (dw a0),aI a1,aI a2] [.agg (qM [.o] (dB r.1)),.c (.d (.b r.2))]:=gG func334 ntmps334 (hb 14 21) (hC 24 (λ(v:av) sl ob nx=>⟨xS [4,2] sl,oM [.w 4] 3 107 (dB v)++fO [2] ob,5⟩)) (hz 6)
def jH(a0:be)(a2:Int):(Int×List Int)->Option (cj (Int×List Int) (List Int))
 |(v3,v4)=>afW (cond (ltB v3 (a0.bp.length:Int)) (afW (dt a2 1 4) λr9=>ς r9) (ς η)) λ(v8:Bool)=>cond v8 (cond (da 8 (v4++[v3]).length) (ς (.next (WR (v3+1),(v4++[v3])))) ξ) (ς (.done v4))
def ua(a0:be)(a1:Int)(a2:Int):Option (List Int):=
 afW (tY a0 a1) λr1=>afW (cond (eqB a2 1) (ς (ltB 0 (r1.length:Int))) (ς η)) λ(v2:Bool)=>cond v2 (ς r1) (afW (iter (jH a0 a2) FU (0,([]:List Int))) λ(v7:List Int)=>ς v7)
instance aap{a0:be}{a2:Int}{r:List Int}:FC prog (ua a0 a1 a2=ς r) 380 [.agg (gM a0),aI a1,aI a2] [.c (.own 3 1 (r.map eI) r.length)]:=gG func380 ntmps380 (hb 15 19) (hL 0 (λ(v:Int×List Int) sl ob nx=>⟨(8,.v (.c (.w 2 v.2.length)))::(9,tI v.1)::xS [2] sl,[(2,w3 v.2)]++ob,nx⟩)) (hB 0 (λ(v:List Int) sl ob nx=>⟨(8,.v (.c (.w 2 v.length)))::(9,.any)::xS [2] sl,[(2,w3 v)]++ob,nx⟩)) (hb 27 30)
def wD(a0:cm)(a1:be):Option (cm×List Int):=
 cond (ltB 0 a0.dy) (ς ({a0 with dy:=WR (a0.dy-1)},([]:List Int))) (afW (cond (ltB a0.dJ 4) (ς (WR (a0.dJ+1))) (ς 1)) λ(v1:Int)=>afW (ua a1 a0.fF v1) λr2=>ς ((⟨a0.fF,v1,3⟩:cm),r2))
instance abV{a0:cm}{a1:be}{r:cm×List Int}:FC prog (wD a0 a1=ς r) 352 [.agg (rS a0),.agg (gM a1)] [.agg (qM [] (nY r.1)),.c (.own 3 1 (r.2.map eI) r.2.length)]:=gG func352 ntmps352 (hC 20 (λ(v:Int) sl ob nx=>⟨sl,[(3,.var 87 (kM [] (nY {a0 with dJ:=v})))]++ob,nx⟩)) (hz 9)
def s6(a0:bk)(a1:List Int):Option (bk×ah×Bool):=
 afW (o5 a0) λr1=>cond (da 1 (([]:List Int)++a1).length) (cond (da 1 (([]:List Int)++a1).length) (cond (da 32 (r1.aJ++[(⟨a0.bw,(([]:List Int)++a1)⟩:ah)]).length) (afW (mP (⟨WR (a0.bw+1),(r1.aJ++[(⟨a0.bw,(([]:List Int)++a1)⟩:ah)])⟩:bk)) λr2=>cond (!r2) (afW (o5 a0) λr3=>ς (r3,b7,η)) (ς ((⟨WR (a0.bw+1),(r1.aJ++[(⟨a0.bw,(([]:List Int)++a1)⟩:ah)])⟩:bk),(⟨a0.bw,(([]:List Int)++a1)⟩:ah),ζ))) ξ) ξ) ξ
theorem Il{a0:bk}{a1:List Int}{r:bk×ah×Bool}(H:s6 a0 a1=ς r)(hflag:r.2.2=ζ):Fn prog 332 [.agg (gY a0),aL (a1.map eU8)] [.agg (qM [.o] (eL r.1)),.agg (qM [.o] (ec r.2.1)),.c (.d (.b r.2.2))]:=by
 refine fI func332 ntmps332 ?_
 refine aa H λr1 q1 H=>nA (ca (hF:=qJ.h q1)) ?_
 refine zI [0,1,2,3,6,4,5,7] ?_
 obtain⟨h,H⟩:=rq H
 refine wA (M8 (enc:=eU8) (ys:=([]:List Int)) (zs:=a1) [5] h) ?_
 refine wA (spx 100370) ?_
 refine tD (ds:=[5]) (by kernel_rfl) (by kernel_rfl) rfl ?_
 refine wI ?_
 refine zI (abm 12) ?_
 obtain⟨h,H⟩:=rq H
 refine wA (JB (enc:=eU8) (ys:=([]:List Int)) (zs:=a1) [8] h) ?_
 obtain⟨h,H⟩:=rq H
 refine yw (ds:=[8]) (by kernel_rfl) (by kernel_rfl) rfl (by kernel_rfl) dV (vG rfl (apT (enc:=bC) (ys:=r1.aJ) (zs:=[(⟨a0.bw,(([]:List Int)++a1)⟩:ah)]) h)) dV rfl ?_
 refine wI ?_
 refine wA (spx 100369) ?_
 refine aa H λr2 q2 H=>nA (ca (hF:=xQ.h q2)) ?_
 refine cC H ?_ ?_<;>intro H
 .refine aa H λr3 q3 H=>nA (ca (hF:=qJ.h q3)) ?_
  cases H
  cases hflag
 refine zI (abm 5) ?_
 refine wA (spx 100368) ?_
 refine wA (spx 100367) ?_
 exact ao H
theorem Ik{a0:bk}{a1:List Int}{r:bk×ah×Bool}(H:s6 a0 a1=ς r)(hflag:r.2.2=η):Fn prog 332 [.agg (gY a0),aL (a1.map eU8)] [.agg (qM [.o] (eL r.1)),.agg (qM [.z] (ec r.2.1)),.c (.d (.b r.2.2))]:=by
 refine fI func332 ntmps332 ?_
 refine aa H λr1 q1 H=>nA (ca (hF:=qJ.h q1)) ?_
 refine zI [0,1,2,3,6,4,5,7] ?_
 obtain⟨h,H⟩:=rq H
 refine wA (M8 (enc:=eU8) (ys:=([]:List Int)) (zs:=a1) [5] h) ?_
 refine wA (spx 100374) ?_
 refine tD (ds:=[5]) (by kernel_rfl) (by kernel_rfl) rfl ?_
 refine wI ?_
 refine zI (abm 12) ?_
 obtain⟨h,H⟩:=rq H
 refine wA (JB (enc:=eU8) (ys:=([]:List Int)) (zs:=a1) [8] h) ?_
 obtain⟨h,H⟩:=rq H
 refine yw (ds:=[8]) (by kernel_rfl) (by kernel_rfl) rfl (by kernel_rfl) dV (vG rfl (apT (enc:=bC) (ys:=r1.aJ) (zs:=[(⟨a0.bw,(([]:List Int)++a1)⟩:ah)]) h)) dV rfl ?_
 refine wI ?_
 refine wA (spx 100373) ?_
 refine aa H λr2 q2 H=>nA (ca (hF:=xQ.h q2)) ?_
 refine cC H ?_ ?_<;>intro H
 .refine aa H λr3 q3 H=>nA (ca (hF:=qJ.h q3)) ?_
  exact ao H
 refine zI (abm 5) ?_
 refine wA (spx 100372) ?_
 refine wA (spx 100371) ?_
 cases H
 cases hflag
def qy(a0:ag):Option Int:=
 afW (rQ a0.ax.aJ) λr1=>ς r1
instance PH{a0:ag}{r:Int}:FC prog (qy a0=ς r) 382 [.agg (cr a0)] [.c (.d (.i .i64 r))]:=gG func382 ntmps382
def DO(a0:av)(a1:Int)(a2:Int):Option (av×Int):=
 afW (oE a0) λr1=>afW (iQ a0) λr2=>afW (cond (!r2) (ς ζ) (cond (ltB a1 0) (ς ζ) (afW (dt a2 1 100000) λr4=>cond (!r4) (ς ζ) (cond (eqB a0.bL 0) (ς ζ) (cond (leB 8 (a0.aD.length:Int)) (afW (s9 a0 a1) λr5=>ς (ltB r5 0)) (ς η)))))) λ(v3:Bool)=>cond v3 (ς (r1,0)) (afW (DN a2 a0.bL) λr6=>afW (Gc a0.aD a1 r6) λr7=>ς ({r1 with bL:=WR (a0.bL-r6),aD:=r7},r6))
instance sReserve_c{a0:av}{a2:Int}{r:av×Int}:FC prog (DO a0 a1 a2=ς r) 336 [.agg (dw a0),aI a1,aI a2] [.agg (qM [.o] (dB r.1)),.c (.d (.i .i64 r.2))]:=gG func336 ntmps336 (hb 14 39)
def uv(a0:ab)(a1:Int):Option Bool:=
 afW (DN (a0.cp.bp.length:Int) 6) λr1=>afW (dt a1 0 (WR (r1-1))) λr2=>afW (cond r2 (cond (leB 0 a1) (ς (eqB (yo .i64 (Cf .i64 a0.bH a1) 1) 0)) ξ) (ς η)) λ(v3:Bool)=>ς v3
instance aeM{a0:ab} :FC prog (uv a0 a1=ς r) 52 [.agg (eb a0),aI a1] [.c (.d (.b r))]:=gG func52 ntmps52 (hb 13 4)
def mQ(a0:aG):Option Bool:=
 afW (dt a0.bb 1 8) λr1=>afW (cond r1 (afW (dt a0.aS 0 5) λr3=>cond r3 (afW (dt a0.ae 0 999999) λr4=>cond r4 (afW (dt a0.aK 0 999999) λr5=>cond r5 (afW (dt a0.bP 0 1000000000000) λr6=>ς r6) (ς η)) (ς η)) (ς η)) (ς η)) λ(v2:Bool)=>ς v2
instance VZ{a0:aG} :FC prog (mQ a0=ς r) 356 [.agg (dE a0)] [.c (.d (.b r))]:=gG func356 ntmps356 (hb 6 2)
def jV(a0:bk)(a1:Int):(Int×List ah)->Option (cj (Int×List ah) (List ah))
 |(v2,v3)=>cond (ltB v2 (a0.aJ.length:Int)) (afW (ix a0.aJ v2) λx9=>afW (cond (leB a1 x9.cH) (afW (ix a0.aJ v2) λx11=>afW (ix a0.aJ v2) λx12=>cond (da 1 (([]:List Int)++x12.bh).length) (cond (da 32 (v3++[(⟨x11.cH,(([]:List Int)++x12.bh)⟩:ah)]).length) (ς (v3++[(⟨x11.cH,(([]:List Int)++x12.bh)⟩:ah)])) ξ) ξ) (ς v3)) λ(v10:List ah)=>ς (.next (WR (v2+1),v10))) (ς (.done v3))
def ml(a0:bk)(a1:Int):Option bk:=
 afW (o5 a0) λr1=>cond (ltB a0.bw a1) (ς r1) (afW (iter (jV a0 a1) FU (0,([]:List ah))) λ(v8:List ah)=>ς (⟨r1.bw,v8⟩:bk))
instance PG{a0:bk}{r:bk}:FC prog (ml a0 a1=ς r) 369 [.agg (gY a0),aI a1] [.agg (qM [.o] (eL r))]:=⟨λH=>by
 refine fI func369 ntmps369 ?_
 refine aa H λr1 q1 H=>nA (ca (hF:=qJ.h q1)) ?_
 refine cC H ?_ ?_<;>intro H
 .exact ao H
 refine aa H λv8 Hj H=>jB ⟨[(4,tP 1),(5,tP 3)],(oM [.w 4] 3 89 (eL (⟨r1.bw,v8⟩:bk))++[(1,.var 89 (kM [.z] (eL ui)))]),5⟩ ?_ ?_
 .refine iT Hj (λq=>⟨[(1,tI a1),(2,tP 0),(4,tP 1),(5,tP 3),(6,tI q.1)],(oM [.w 4] 3 89 (eL (⟨r1.bw,q.2⟩:bk))++[(0,.var 89 (kM [.f] (eL a0))),(1,.var 89 (kM [.z] (eL ui)))]),5⟩) ?_ (by refine bz (wB 4 (([]:List ah).length)) ?_;exact wo)
  rintro⟨v2,v3⟩ o H
  refine ad ?_
  refine cC H ?_ ?_<;>intro H
  .refine aa H λx9 hx9 H=>nA (xdT (enc:=bC) hx9) ?_
   refine aa H λv10 Hj H=>jA ⟨[(1,tI a1),(2,tP 0),(4,tP 1),(5,tP 3),(6,tI v2)],(oM [.w 4] 3 89 (eL (⟨r1.bw,v10⟩:bk))++[(0,.var 89 (kM [.f] (eL a0))),(1,.var 89 (kM [.z] (eL ui)))]),5⟩ ?_ ?_
   .refine cC Hj ?_ ?_<;>intro H
    .refine zI (abm 21) ?_
     refine aa H λx11 hx11 H=>zA (xdT (enc:=bC) hx11) ?_
     refine aa H λx12 hx12 H=>zA (xdT (enc:=bC) hx12) ?_
     obtain⟨h,H⟩:=rq H
     refine wA (JB (enc:=eU8) (ys:=([]:List Int)) (zs:=x12.bh) [5] h) ?_
     obtain⟨h,H⟩:=rq H
     refine yw (ds:=[5]) (by kernel_rfl) (by kernel_rfl) rfl (by kernel_rfl) dV (vG rfl (apT (enc:=bC) (ys:=v3) (zs:=[(⟨x11.cH,(([]:List Int)++x12.bh)⟩:ah)]) h)) dV rfl ?_
     refine wI ?_
     refine wA (spx 100436) ?_
     exact ai H
    exact ai H
   exact aN H
  exact aE H
 cases H
 exact jL⟩
def sx(a0:cW)(a1:Int):Option (cW×Bool):=
 afW (jh a0) λr1=>afW (cond (!r1) (ς ζ) (afW (dt a1 0 (WR (a0.cG-a0.d6))) λr3=>ς (!r3))) λ(v2:Bool)=>cond v2 (ς (a0,η)) (ς ({a0 with d6:=WR (a0.d6+a1)},ζ))
instance WX{a0:cW}{r:cW×Bool}:FC prog (sx a0 a1=ς r) 384 [.agg (oH a0),aI a1] [.agg (qM [] (Bf r.1)),.c (.d (.b r.2))]:=gG func384 ntmps384 (hb 10 19)
def ta(a0:ab)(a1:Int):Option Bool:=
 afW (DN (a0.aT.length:Int) (a0.an.length:Int)) λr1=>afW (dt a1 0 (WR (r1-1))) λr2=>ς r2
instance abZ{a0:ab} :FC prog (ta a0 a1=ς r) 43 [.agg (eb a0),aI a1] [.c (.d (.b r))]:=gG func43 ntmps43
end Go.AM
