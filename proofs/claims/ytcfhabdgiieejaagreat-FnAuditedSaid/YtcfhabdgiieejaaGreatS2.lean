/- A part. -/
import Derived.Test.YtcfhabdgiieejaaGreatS1
set_option linter.unusedVariables false
open Option renaming bind->abJ
open List renaming range->f5
namespace Go.AM
open Go.Proofs
open Tryz
attribute [local irreducible] AWN NS AWO AWR AWC DR DZ dQ f9 iter
set_option maxRecDepth 100000
set_option maxHeartbeats 40000000
variable {r:Bool} {a1:Int}
def kC (a0:cP):Option Int:=
 abJ (ik a0) λr1=>bif !r1 then(some 0) else(some (WR (a0.cV-a0.em)))
instance PZ {a0:cP} {r:Int}:FC prog (kC a0=some r) 48 [.agg (mV a0)] [.c (.d (.i .i64 r))]:=gF func48 ntmps48
def i8 (a0:bk) (a1:Int):Option (Bool×bk):=
 abJ (cH a0 a1) λr1=>some (eqB r1.1 0,r1.2)
theorem iN {a0:bk} {r:Bool×bk} (H:i8 a0 a1=some r):FnW prog 146 (.var 125 (kM [.f] (cj a0))) [tP 200,tI a1] (.var 125 (kM [.f] (cj r.2))) [.c (.d (.b r.1))]:=by
 refine fW func146 ntmps146 ?_
 refine aa H λr1 q1 H=>sA (cw (o:=200) (cm q1)) ?_
 cases H
 exact f8
def eM (a0:aO):Option Bool:=
 abJ (gP a0.ID) λr1=>abJ (bif r1 then(abJ (ij a0.eX) λr3=>bif r3 then(abJ (du a0.cW 0 999999) λr4=>some r4) else(some false)) else(some false)) λ(v2:Bool)=>some v2
instance FA {a0:aO} :FC prog (eM a0=some r) 207 [.agg (dO a0)] [.c (.d (.b r))]:=gF func207 ntmps207 (hb 6 2)
def AD (a0:bk):Option (Int×bk):=
 abJ (cH a0 6) λr1=>some (WR (100+r1.1),r1.2)
theorem Me {a0:bk} {r:Int×bk} (H:AD a0=some r):FnW prog 243 (.var 125 (kM [.f] (cj a0))) [tP 200] (.var 125 (kM [.f] (cj r.2))) [.c (.d (.i .i64 r.1))]:=by
 refine fW func243 ntmps243 ?_
 refine aa H λr1 q1 H=>sA (cw (o:=200) (cm q1)) ?_
 cases H
 exact f8
def i9 (a0:ah):Option ah:=
 abJ (vK a0.gT) λr1=>abJ (th a0.aH) λr2=>abJ (ny a0.ax) λr3=>some {a0 with gT:=r1,aH:=r2,ax:=r3}
instance AB {a0:ah} {r:ah}:FC prog (i9 a0=some r) 151 [.agg (bS a0)] [.agg (qM [.o,.o,.o] (c7 r))]:=gF func151 ntmps151
def kE (a0:aG):Option aG:=
 abJ (yA a0.bW) λr1=>some {a0 with bW:=r1}
instance F5 {a0:aG} {r:aG}:FC prog (kE a0=some r) 150 [.agg (cF a0)] [.agg (qM [.o,.o] (gD r))]:=gF func150 ntmps150
def gS (a0:ab) (a1:bM):Option ab:=
 bif leB 200 (a0.aT.length:Int) then(some {a0 with jT:=WR (a0.jT+1)}) else(abJ (tm a1) λr1=>bif da 176 (a0.aT++[r1]).length then(some {a0 with aT:=(a0.aT++[r1])}) else none)
instance tq {a0:ab} {a1:bM} {r:ab}:FCV prog (gS a0 a1=some r) 148 (nS a0) [tP 200,.v (.agg (kM [.t] (jE a1)))] (nS r) (.tup []) []:=⟨λH=>by
 refine fV func148 ntmps148 ?_
 refine cC H ?_ ?_<;>intro H
 .cases H
  exact bj
 refine OB 0 18 0 [1,2,3,4,5,6,7,8,9,10,11] Try.follows (by kernel_rfl) (by kernel_rfl) rfl (by kernel_rfl) rfl rfl ?_
 refine wI ?_
 refine aa H λr1 q1 H=>zA (ca (hF:=(BJ.h q1).frzs (by repeat (first|exact trivial|refine⟨?_,?_⟩|exact lm _|rfl)))) ?_
 obtain⟨h,H⟩:=rq H
 refine zB bC (fg rfl (AJ (enc:=dB) (ys:=a0.aT) (zs:=[r1]) h (by first|exact List.cons_ne_nil _ _|simp) rfl (λ_=>rfl) (by first|rfl|simp) (.w rfl (by first|rfl|exact lm _|simp)) rfl rfl rfl rfl rfl rfl rfl rfl rfl rfl)) bC ?_
 refine wA (spx 100254) ?_
 cases H
 refine bA ((d8 193)) ?_
 exact nT⟩
def oP (a0:lp):Option Bool:=
 abJ (gP a0.ID) λr1=>abJ (bif r1 then(abJ (ij a0.eX) λr3=>bif r3 then(abJ (du a0.di 0 999999) λr4=>some r4) else(some false)) else(some false)) λ(v2:Bool)=>some v2
instance VD {a0:lp} :FC prog (oP a0=some r) 205 [.agg (Et a0)] [.c (.d (.b r))]:=gF func205 ntmps205 (hb 6 2)
def fL (a0:aj) (a1:cP):Option Bool:=
 abJ (ia a0) λr1=>abJ (bif r1 then(abJ (ik a1) λr3=>bif r3 then(abJ (oX a0 a1.aJ) λr4=>some (eqB r4 a1.cV)) else(some false)) else(some false)) λ(v2:Bool)=>some v2
instance JQ {a0:aj} {a1:cP} :FC prog (fL a0 a1=some r) 121 [.agg (cM a0),.agg (mV a1)] [.c (.d (.b r))]:=gF func121 ntmps121 (hb 7 4)
def qC (a0:av) (a1:av):Option Bool:=
 abJ (bif eqB a0.ag a1.ag then(bif eqB a0.aV a1.aV then(abJ (p7 a0.bz a1.bz) λr2=>some r2) else(some false)) else(some false)) λ(v1:Bool)=>some v1
instance WJ {a0:av} {a1:av} :FC prog (qC a0 a1=some r) 83 [.agg (cN a0),.agg (cN a1)] [.c (.d (.b r))]:=gF func83 ntmps83 (hb 10 4)
def yu (a0:List Int):(Int×Int)->Option (cr (Int×Int) (Int))
 |(v1,v2)=>bif ltB v2 (a0.length:Int) then(abJ (ix a0 v2) λx6=>abJ (G3 x6 2147483647) λr7=>some (.next (Int.tmod (WR ((WR ((WR (v1*1000003))+r7))+13)) 2147483647,WR (v2+1)))) else(some (.done v1))
def PS (a0:List Int):Option Int:=
 abJ (iter (yu a0) FU (11,0)) λ(v5:Int)=>some v5
instance Yh {a0:List Int} {r:Int}:FC prog (PS a0=some r) 274 [aL (a0.map eI)] [.c (.d (.i .i64 r))]:=gF func274 ntmps274 (hm 0 3 4) (he 0 3 4)
def Az (a0:bk) (a1:List Int):Option (Int×bk):=
 abJ (cH a0 (a1.length:Int)) λr1=>abJ (ix a1 r1.1) λx2=>some (x2,r1.2)
theorem BF {a0:bk} {a1:List Int} {r:Int×bk} (H:Az a0 a1=some r):FnW prog 200 (.var 125 (kM [.f] (cj a0))) [tP 200,.v (.c (.d false (.l (a1.map eI))))] (.var 125 (kM [.f] (cj r.2))) [.c (.d (.i .i64 r.1))]:=by
 refine fW func200 ntmps200 ?_
 refine aa H λr1 q1 H=>sA (cw (o:=200) (cm q1)) ?_
 refine aa H λx2 hx2 H=>nA (xdT (enc:=eI) hx2) ?_
 cases H
 exact f8
def JK (a0:aj) (a1:Int) (a2:Int):Option (aj×Bool):=
 abJ (mR a0) λr1=>abJ (ia a0) λr2=>abJ (bif !r2 then(some true) else(abJ (oX a0 a1) λr4=>abJ (du a2 0 r4) λr5=>some (!r5))) λ(v3:Bool)=>bif v3 then(some (r1,false)) else(abJ (bif ltB 0 a2 then(abJ (qI a0 a1) λr9=>abJ (DL a0.an r9 a2) λr10=>some {r1 with ey:=WR (a0.ey+a2),an:=r10}) else(some r1)) λ(v8:aj)=>some (v8,true))
instance sDebit_c {a0:aj} {a2:Int} {r:aj×Bool}:FC prog (JK a0 a1 a2=some r) 348 [.agg (cM a0),aI a1,aI a2] [.agg (qM [.o] (ct r.1)),.c (.d (.b r.2))]:=⟨λH=>by
 refine fI func348 ntmps348 ?_
 refine aa H λr1 q1 H=>nA (ca (hF:=F1.h q1)) ?_
 refine aa H λr2 q2 H=>nA (ca (hF:=By.h q2)) ?_
 refine aa H λv3 Hj H=>jR ⟨[(1,tI a1),(2,tI a2),(3,tP 0),(6,tP 1),(8,tP 3),(21,tB v3)],(oM [.w 2] 3 107 (ct r1)++[(0,.var 107 (kM [.f] (ct a0))),(1,.var 107 (kM [.z] (ct it)))]),4⟩ ?_ ?_
 .refine gC Hj ?_ ?_<;>intro H
  .exact ai H
  refine aa H λr4 q4 H=>nG (ca (hF:=FK.h q4)) ?_
  refine aa H λr5 q5 H=>nG (ca (hF:=rZ.h q5)) ?_
  exact ai H
 refine cC H ?_ ?_<;>intro H
 .exact ao H
 refine aa H λv8 Hj H=>jA ⟨[(6,tP 1),(8,tP 3)],(oM [.w 4] 3 107 (ct v8)++[(1,.var 107 (kM [.z] (ct it)))]),5⟩ ?_ ?_
 .refine cC Hj ?_ ?_<;>intro H
  .refine zI (f5 9) ?_
   refine aa H λr9 q9 H=>zA (ca (hF:=N0.h q9)) ?_
   refine aa H λr10 q10 H=>zA (ca (hF:=RS.h q10)) ?_
   refine wA (spx 100510) ?_
   exact ai H
  cases H
  refine am (uI (nx':=5) rfl) ?_
  refine am (wS 4 2) ?_
  exact wo
 cases H
 exact dM⟩
def ul (a0:cG) (a1:aS):Option (cG×List Int):=
 bif ltB 0 a0.fo then(some ({a0 with fo:=WR (a0.fo-1)},([]:List Int))) else(abJ (bif ltB a0.fm 4 then(some (WR (a0.fm+1))) else(some 1)) λ(v1:Int)=>abJ (rR a1 a0.fZ v1) λr2=>some ((⟨a0.fZ,v1,3⟩:cG),r2))
instance G8 {a0:cG} {a1:aS} {r:cG×List Int}:FC prog (ul a0 a1=some r) 365 [.agg (pR a0),.agg (ge a1)] [.agg (qM [] (mB r.1)),.c (.own 3 1 (r.2.map eI) r.2.length)]:=gF func365 ntmps365 (hC 20 (λ(v:Int) sl ob nx=>⟨sl,[(3,.var 87 (kM [] (mB {a0 with fm:=v})))]++ob,nx⟩)) (hz 9)
def qG (a0:aY) (a1:List Int):Option (aY×ae×Bool):=
 abJ (ny a0) λr1=>bif da 1 (([]:List Int)++a1).length then(bif da 1 (([]:List Int)++a1).length then(bif da 32 (r1.aC++[(⟨a0.bE,(([]:List Int)++a1)⟩:ae)]).length then(abJ (lM (⟨WR (a0.bE+1),(r1.aC++[(⟨a0.bE,(([]:List Int)++a1)⟩:ae)])⟩:aY)) λr2=>bif !r2 then(abJ (ny a0) λr3=>some (r3,bT,false)) else(some ((⟨WR (a0.bE+1),(r1.aC++[(⟨a0.bE,(([]:List Int)++a1)⟩:ae)])⟩:aY),(⟨a0.bE,(([]:List Int)++a1)⟩:ae),true))) else none) else none) else none
theorem FN {a0:aY} {a1:List Int} {r:aY×ae×Bool} (H:qG a0 a1=some r) (hflag:r.2.2=true):Fn prog 346 [.agg (gq a0),aL (a1.map eU8)] [.agg (qM [.o] (dH r.1)),.agg (qM [.o] (dq r.2.1)),.c (.d (.b r.2.2))]:=by
 refine fI func346 ntmps346 ?_
 refine aa H λr1 q1 H=>nA (ca (hF:=o5.h q1)) ?_
 refine zI [0,1,2,3,6,4,5,7] ?_
 obtain⟨h,H⟩:=rq H
 refine wA (Gt (enc:=eU8) (ys:=([]:List Int)) (zs:=a1) [5] h) ?_
 refine wA (spx 100540) ?_
 refine mU (ds:=[5]) (by kernel_rfl) (by kernel_rfl) rfl ?_
 refine wI ?_
 refine zI (f5 12) ?_
 obtain⟨h,H⟩:=rq H
 refine wA (Hh (enc:=eU8) (ys:=([]:List Int)) (zs:=a1) [8] h) ?_
 obtain⟨h,H⟩:=rq H
 refine vZ (ds:=[8]) (by kernel_rfl) (by kernel_rfl) rfl (by kernel_rfl) bC (fg rfl (apT (enc:=aM) (ys:=r1.aC) (zs:=[(⟨a0.bE,(([]:List Int)++a1)⟩:ae)]) h)) bC rfl ?_
 refine wI ?_
 refine wA (spx 100539) ?_
 refine aa H λr2 q2 H=>nA (ca (hF:=vz.h q2)) ?_
 refine cC H ?_ ?_<;>intro H
 .refine aa H λr3 q3 H=>nA (ca (hF:=o5.h q3)) ?_
  cases H
  cases hflag
 refine zI (f5 5) ?_
 refine wA (spx 100538) ?_
 refine wA (spx 100537) ?_
 exact ao H
theorem FM {a0:aY} {a1:List Int} {r:aY×ae×Bool} (H:qG a0 a1=some r) (hflag:r.2.2=false):Fn prog 346 [.agg (gq a0),aL (a1.map eU8)] [.agg (qM [.o] (dH r.1)),.agg (qM [.z] (dq r.2.1)),.c (.d (.b r.2.2))]:=by
 refine fI func346 ntmps346 ?_
 refine aa H λr1 q1 H=>nA (ca (hF:=o5.h q1)) ?_
 refine zI [0,1,2,3,6,4,5,7] ?_
 obtain⟨h,H⟩:=rq H
 refine wA (Gt (enc:=eU8) (ys:=([]:List Int)) (zs:=a1) [5] h) ?_
 refine wA (spx 100544) ?_
 refine mU (ds:=[5]) (by kernel_rfl) (by kernel_rfl) rfl ?_
 refine wI ?_
 refine zI (f5 12) ?_
 obtain⟨h,H⟩:=rq H
 refine wA (Hh (enc:=eU8) (ys:=([]:List Int)) (zs:=a1) [8] h) ?_
 obtain⟨h,H⟩:=rq H
 refine vZ (ds:=[8]) (by kernel_rfl) (by kernel_rfl) rfl (by kernel_rfl) bC (fg rfl (apT (enc:=aM) (ys:=r1.aC) (zs:=[(⟨a0.bE,(([]:List Int)++a1)⟩:ae)]) h)) bC rfl ?_
 refine wI ?_
 refine wA (spx 100543) ?_
 refine aa H λr2 q2 H=>nA (ca (hF:=vz.h q2)) ?_
 refine cC H ?_ ?_<;>intro H
 .refine aa H λr3 q3 H=>nA (ca (hF:=o5.h q3)) ?_
  exact ao H
 refine zI (f5 5) ?_
 refine wA (spx 100542) ?_
 refine wA (spx 100541) ?_
 cases H
 cases hflag
def Bz (a0:aj) (a1:Int) (a2:Int):Option (aj×Int):=
 abJ (mR a0) λr1=>abJ (ia a0) λr2=>abJ (bif !r2 then(some true) else(bif ltB a1 0 then(some true) else(abJ (du a2 1 100000) λr4=>bif !r4 then(some true) else(bif eqB a0.bY 0 then(some true) else(bif leB 8 (a0.an.length:Int) then(abJ (qI a0 a1) λr5=>some (ltB r5 0)) else(some false)))))) λ(v3:Bool)=>bif v3 then(some (r1,0)) else(abJ (FD a2 a0.bY) λr6=>abJ (DJ a0.an a1 r6) λr7=>some ({r1 with bY:=WR (a0.bY-r6),an:=r7},r6))
instance sReserve_c {a0:aj} {a2:Int} {r:aj×Int}:FC prog (Bz a0 a1 a2=some r) 350 [.agg (cM a0),aI a1,aI a2] [.agg (qM [.o] (ct r.1)),.c (.d (.i .i64 r.2))]:=gF func350 ntmps350 (hb 14 39)
def gO (a0:aY) (a1:Int):(Int×List ae)->Option (cr (Int×List ae) (List ae))
 |(v2,v3)=>bif ltB v2 (a0.aC.length:Int) then(abJ (ix a0.aC v2) λx9=>abJ (bif leB a1 x9.cW then(abJ (ix a0.aC v2) λx11=>abJ (ix a0.aC v2) λx12=>bif da 1 (([]:List Int)++x12.a9).length then(bif da 32 (v3++[(⟨x11.cW,(([]:List Int)++x12.a9)⟩:ae)]).length then(some (v3++[(⟨x11.cW,(([]:List Int)++x12.a9)⟩:ae)])) else none) else none) else(some v3)) λ(v10:List ae)=>some (.next (WR (v2+1),v10))) else(some (.done v3))
def lf (a0:aY) (a1:Int):Option aY:=
 abJ (ny a0) λr1=>bif ltB a0.bE a1 then(some r1) else(abJ (iter (gO a0 a1) FU (0,([]:List ae))) λ(v8:List ae)=>some (⟨r1.bE,v8⟩:aY))
instance MG {a0:aY} {r:aY}:FC prog (lf a0 a1=some r) 381 [.agg (gq a0),aI a1] [.agg (qM [.o] (dH r))]:=⟨λH=>by
 refine fI func381 ntmps381 ?_
 refine aa H λr1 q1 H=>nA (ca (hF:=o5.h q1)) ?_
 refine cC H ?_ ?_<;>intro H
 .exact ao H
 refine aa H λv8 Hj H=>jB ⟨[(4,tP 1),(5,tP 3)],(oM [.w 4] 3 89 (dH (⟨r1.bE,v8⟩:aY))++[(1,.var 89 (kM [.z] (dH km)))]),5⟩ ?_ ?_
 .refine iT Hj (λq=>⟨[(1,tI a1),(2,tP 0),(4,tP 1),(5,tP 3),(6,tI q.1)],(oM [.w 4] 3 89 (dH (⟨r1.bE,q.2⟩:aY))++[(0,.var 89 (kM [.f] (dH a0))),(1,.var 89 (kM [.z] (dH km)))]),5⟩) ?_ (by refine am (wB 4 (([]:List ae).length)) ?_;exact wo)
  rintro⟨v2,v3⟩ o H
  refine ad ?_
  refine cC H ?_ ?_<;>intro H
  .refine aa H λx9 hx9 H=>nA (xdT (enc:=aM) hx9) ?_
   refine aa H λv10 Hj H=>jA ⟨[(1,tI a1),(2,tP 0),(4,tP 1),(5,tP 3),(6,tI v2)],(oM [.w 4] 3 89 (dH (⟨r1.bE,v10⟩:aY))++[(0,.var 89 (kM [.f] (dH a0))),(1,.var 89 (kM [.z] (dH km)))]),5⟩ ?_ ?_
   .refine cC Hj ?_ ?_<;>intro H
    .refine zI (f5 21) ?_
     refine aa H λx11 hx11 H=>zA (xdT (enc:=aM) hx11) ?_
     refine aa H λx12 hx12 H=>zA (xdT (enc:=aM) hx12) ?_
     obtain⟨h,H⟩:=rq H
     refine wA (Hh (enc:=eU8) (ys:=([]:List Int)) (zs:=x12.a9) [5] h) ?_
     obtain⟨h,H⟩:=rq H
     refine vZ (ds:=[5]) (by kernel_rfl) (by kernel_rfl) rfl (by kernel_rfl) bC (fg rfl (apT (enc:=aM) (ys:=v3) (zs:=[(⟨x11.cW,(([]:List Int)++x12.a9)⟩:ae)]) h)) bC rfl ?_
     refine wI ?_
     refine wA (spx 100606) ?_
     exact ai H
    exact ai H
   exact aN H
  exact aE H
 cases H
 exact dM⟩
def p6 (a0:cP) (a1:Int):Option (cP×Bool):=
 abJ (ik a0) λr1=>abJ (bif !r1 then(some true) else(abJ (du a1 0 (WR (a0.cV-a0.em))) λr3=>some (!r3))) λ(v2:Bool)=>bif v2 then(some (a0,false)) else(some ({a0 with em:=WR (a0.em+a1)},true))
instance Sw {a0:cP} {r:cP×Bool}:FC prog (p6 a0 a1=some r) 393 [.agg (mV a0),aI a1] [.agg (qM [] (yT r.1)),.c (.d (.b r.2))]:=gF func393 ntmps393 (hb 10 19)
def lh (a1:ae) (r1:aP):Int->Option (cr (Int) (Int))
 |v6=>abJ (bif ltB v6 (r1.aK.length:Int) then(abJ (ix r1.aK v6) λx11=>some (ltB x11.cW a1.cW)) else(some false)) λ(v10:Bool)=>bif v10 then(some (.next (WR (v6+1)))) else(some (.done v6))
def ui:aP->Option (cr (aP) (aP))
 |v15=>abJ (bif ltB 0 (v15.aK.length:Int) then(abJ (ix v15.aK 0) λx24=>bif eqB x24.cW v15.bE then(some (ltB (v15.be.length:Int) 24)) else(some false)) else(some false)) λ(v23:Bool)=>bif v23 then(abJ (ix v15.aK 0) λx25=>bif da 24 (v15.be++[(⟨x25.a9⟩:bJ)]).length then(bif eF v15.aK 1 v15.aK.length then(some (.next (⟨WR (v15.bE+1),v15.aK.drop ((1:Int)).toNat,(v15.be++[(⟨x25.a9⟩:bJ)])⟩:aP))) else none) else none) else(some (.done v15))
def oU (a0:aP) (a1:ae):Option aP:=
 abJ (yA a0) λr1=>abJ (jK a0) λr2=>abJ (bif !r2 then(some true) else(bif ltB 60 (a1.a9.length:Int) then(some true) else(abJ (du a1.cW a0.bE (WR ((WR (a0.bE+8))-1))) λr4=>bif !r4 then(some true) else(abJ (F3 a0.aK a1.cW) λr5=>bif leB 0 r5 then(some true) else(some (leB 24 (a0.be.length:Int))))))) λ(v3:Bool)=>bif v3 then(some r1) else(abJ (iter (lh a1 r1) FU 0) λ(v9:Int)=>bif da 1 (([]:List Int)++a1.a9).length then(bif eF r1.aK 0 v9 then(bif eF r1.aK v9 r1.aK.length then(bif da 32 (([]:List ae)++(r1.aK.take (v9).toNat)).length then(bif da 32 ((([]:List ae)++(r1.aK.take (v9).toNat))++[(⟨a1.cW,(([]:List Int)++a1.a9)⟩:ae)]).length then(bif da 32 (((([]:List ae)++(r1.aK.take (v9).toNat))++[(⟨a1.cW,(([]:List Int)++a1.a9)⟩:ae)])++(r1.aK.drop (v9).toNat)).length then(abJ (iter (ui) FU {r1 with aK:=(((([]:List ae)++(r1.aK.take (v9).toNat))++[(⟨a1.cW,(([]:List Int)++a1.a9)⟩:ae)])++(r1.aK.drop (v9).toNat))}) λ(v22:aP)=>abJ (bif eqB (v22.be.length:Int) 24 then(some ([]:List ae)) else(some v22.aK)) λ(v26:List ae)=>some {v22 with aK:=v26}) else none) else none) else none) else none) else none) else none)
instance RE {a0:aP} {a1:ae} {r:aP}:FC prog (oU a0 a1=some r) 374 [.agg (g8 a0),.agg (aM a1)] [.agg (qM [.d,.o] (b8 r))]:=⟨λH=>by
 refine fI func374 ntmps374 ?_
 refine aa H λr1 q1 H=>nA (ca (hF:=N3.h q1)) ?_
 refine aa H λr2 q2 H=>nA (ca (hF:=At.h q2)) ?_
 refine aa H λv3 Hj H=>jR ⟨[(3,tP 1),(4,tP 2),(5,tP 5),(44,tB v3)],(oM [.w 3,.w 4] 5 65 (b8 r1)++[(1,.var 100 (kM [.f] (dq a1))),(2,.var 65 (kM [.z,.z] (b8 c8)))]),6⟩ ?_ ?_
 .refine gC Hj ?_ ?_<;>intro H
  .exact ai H
  refine gC H ?_ ?_<;>intro H
  .exact ai H
  refine aa H λr4 q4 H=>nG (ca (hF:=rZ.h q4)) ?_
  refine gC H ?_ ?_<;>intro H
  .exact ai H
  refine aa H λr5 q5 H=>nG (ca (hF:=N2.h q5)) ?_
  exact az H
 refine cC H ?_ ?_<;>intro H
 .cases H
  refine vb (bv (o:=3)) ?_
  refine vb (de (o:=2)) ?_
  exact dM
 refine aa H λv9 Hj H=>jB ⟨[(3,tP 1),(4,tP 2),(5,tP 5),(6,tI v9)],(oM [.w 3,.w 4] 5 65 (b8 r1)++[(1,.var 100 (kM [.f] (dq a1))),(2,.var 65 (kM [.z,.z] (b8 c8)))]),6⟩ ?_ ?_
 .refine iT Hj (λq=>⟨[(3,tP 1),(4,tP 2),(5,tP 5),(6,tI q)],(oM [.w 3,.w 4] 5 65 (b8 r1)++[(1,.var 100 (kM [.f] (dq a1))),(2,.var 65 (kM [.z,.z] (b8 c8)))]),6⟩) ?_
  rintro v6 o H
  refine ad ?_
  refine dI ?_
  refine aa H λv10 Hj H=>pQ ⟨[(3,tP 1),(4,tP 2),(5,tP 5),(6,tI v6),(61,tB v10)],(oM [.w 3,.w 4] 5 65 (b8 r1)++[(1,.var 100 (kM [.f] (dq a1))),(2,.var 65 (kM [.z,.z] (b8 c8)))]),6⟩ ?_ ?_
  .have H:=Hj
   refine wI ?_
   refine dC H ?_ ?_<;>intro H
   .refine aa H λx11 hx11 H=>dG (xwT hx11) ?_
    refine dG (oe (he:=dF _ hx11)) ?_
    refine wI ?_
    exact ai H
   refine wI ?_
   exact ai H
  refine wI ?_
  refine cC H ?_ ?_<;>intro H
  .refine wI ?_
   exact aN H
  exact aE H
 refine zI [0,1,2,3,4,7,5,6,8] ?_
 obtain⟨h,H⟩:=rq H
 refine wA (Gt (enc:=eU8) (ys:=([]:List Int)) (zs:=a1.a9) [6] h) ?_
 refine wA (spx 100622) ?_
 refine mU (ds:=[6]) (by kernel_rfl) (by kernel_rfl) rfl ?_
 refine wI ?_
 refine nQ (bv (o:=8)) ?_
 refine nQ (bH (k:=69)) ?_
 refine nQ (bH (k:=70)) ?_
 refine nQ (de (o:=7)) ?_
 refine zI [0,1,2,3,4,6,7,9,10,11,12,5,8,13,14,15] ?_
 obtain⟨hs24,H⟩:=rq H
 refine zA (ZF (enc:=aM) hs24 (by first|rfl|simp) rfl rfl rfl rfl) ?_
 obtain⟨hs25,H⟩:=rq H
 refine zA (MW (enc:=aM) hs25 (by first|rfl|simp) rfl rfl rfl rfl) ?_
 obtain⟨h,H⟩:=rq H
 refine wA (apx (enc:=aM) (ys:=([]:List ae)) (zs:=r1.aK.take (v9).toNat) [9,3] h (hs:=VY (enc:=aM) hs24 rfl)) ?_
 obtain⟨h,H⟩:=rq H
 refine wA (apx (enc:=aM) (ys:=(([]:List ae)++(r1.aK.take (v9).toNat))) (zs:=[(⟨a1.cW,(([]:List Int)++a1.a9)⟩:ae)]) [11,10] h) ?_
 obtain⟨h,H⟩:=rq H
 refine wA (apx (enc:=aM) (ys:=((([]:List ae)++(r1.aK.take (v9).toNat))++[(⟨a1.cW,(([]:List Int)++a1.a9)⟩:ae)])) (zs:=r1.aK.drop (v9).toNat) [12,3] h (hs:=Mh (enc:=aM) hs25 (by first|rfl|simp) rfl)) ?_
 refine wA (spx 100621) ?_
 refine mU (ds:=[9,11,12]) (by kernel_rfl) (by kernel_rfl) rfl ?_
 refine wI ?_
 refine aa H λv22 Hj H=>jB ⟨[(4,tP 2),(5,tP 5)],(oM [.t,.w 4] 5 65 (b8 v22)++[(2,.var 65 (kM [.z,.z] (b8 c8)))]),14⟩ ?_ ?_
 .refine iT Hj (λq=>⟨[(4,tP 2),(5,tP 5)],(oM [.t,.w 4] 5 65 (b8 q)++[(2,.var 65 (kM [.z,.z] (b8 c8)))]),14⟩) ?_ (by refine am (bv (o:=13)) ?_;refine am (bH (k:=84)) ?_;refine am (de (o:=5)) ?_;exact wo)
  rintro v15 o H
  refine ad ?_
  refine dI ?_
  refine aa H λv23 Hj H=>pQ ⟨[(4,tP 2),(5,tP 5),(105,tB v23)],(oM [.t,.w 4] 5 65 (b8 v15)++[(2,.var 65 (kM [.z,.z] (b8 c8)))]),14⟩ ?_ ?_
  .have H:=Hj
   refine wI ?_
   refine dC H ?_ ?_<;>intro H
   .refine aa H λx24 hx24 H=>dG (xdT (enc:=aM) hx24) ?_
    refine dC H ?_ ?_<;>intro H
    .refine wI ?_
     exact ai H
    refine wI ?_
    exact ai H
   refine wI ?_
   exact ai H
  refine wI ?_
  refine cC H ?_ ?_<;>intro H
  .refine zI (f5 12) ?_
   refine aa H λx25 hx25 H=>zA (xdT (enc:=aM) hx25) ?_
   obtain⟨h,H⟩:=rq H
   refine zB bC (fg rfl (apT (enc:=dN) (ys:=v15.be) (zs:=[(⟨x25.a9⟩:bJ)]) h)) bC ?_
   refine wA (spx 100620) ?_
   obtain⟨h,H⟩:=rq H
   refine nA (Tl (enc:=aM) h (λ_=>rfl) rfl rfl rfl) ?_
   exact aN H
  exact aE H
 refine aa H λv26 Hj H=>jA ⟨[(4,tP 2),(5,tP 5)],(oM [.t,.w 4] 5 65 (b8 {v22 with aK:=v26})++[(2,.var 65 (kM [.z,.z] (b8 c8)))]),14⟩ ?_ ?_
 .refine cC Hj ?_ ?_<;>intro H
  .cases H
   refine am (bv (o:=14)) ?_
   refine am (bH (k:=129)) ?_
   refine am (de (o:=5)) ?_
   exact wo
  exact ai H
 cases H
 exact dM⟩
def BL (a0:ab) (a1:Int) (a2:Bool):Option (Bool×ab):=
 abJ (du a1 0 (WR ((a0.ev.bb.length:Int)-1))) λr1=>abJ (bif !r1 then(some true) else(abJ (vy a0 a1) λr3=>some (booB r3 a2))) λ(v2:Bool)=>bif v2 then(some (false,a0)) else(bif leB 0 a1 then(some (true,{a0 with dw:=Iy .i64 a0.dw (lX .i64 1 a1)})) else none)
instance N7 {a0:ab} {a2:Bool} {r:Bool×ab}:FCV prog (BL a0 a1 a2=some r) 160 (nS a0) [tP 200,tI a1,tB a2] (nS r.2) (.v (.c (.d false (.b r.1)))) []:=⟨λH=>by
 refine fV func160 ntmps160 ?_
 refine aa H λr1 q1 H=>nA (ca (hF:=rZ.h q1)) ?_
 refine aa H λv2 Hj H=>jR ⟨[(0,tP 200),(1,tI a1),(25,tB v2)],(nS a0),210⟩ ?_ ?_
 .refine gC Hj ?_ ?_<;>intro H
  .exact ai H
  refine aa H λr3 q3 H=>nG (ca (hF:=CZ.h q3)) ?_
  exact ai H
 refine cC H ?_ ?_<;>intro H
 .cases H
  exact bj
 refine zI (f5 11) ?_
 obtain⟨h,H⟩:=rq H
 refine zA (Lc h rfl rfl rfl rfl) ?_
 refine wA (spx 100646) ?_
 cases H
 exact bj⟩
def rV (a0:bK) (a1:Int) (a2:Bool):Option bK:=
 abJ (me a0) λr1=>abJ (bif !r1 then(some true) else(abJ (du a1 0 (WR (a0.fC-1))) λr3=>some (!r3))) λ(v2:Bool)=>bif v2 then(some a0) else(abJ (bif a2 then(bif leB 0 a1 then(some (bOr .i64 a0.fP (lX .i64 1 a1))) else none) else(bif leB 0 a1 then(some (vU .i64 a0.fP (lX .i64 1 a1))) else none)) λ(v4:Int)=>some (⟨a0.fC,v4⟩:bK))
instance FO {a0:bK} {a2:Bool} {r:bK}:FC prog (rV a0 a1 a2=some r) 264 [.agg (iO a0),aI a1,aB a2] [.agg (qM [] (eY r))]:=gF func264 ntmps264 (hb 11 18) (hC 21 (λ(v:Int) sl ob nx=>⟨sl,[(2,.var 32 (kM [] (eY (⟨a0.fC,v⟩:bK))))]++ob,nx⟩)) (hz 5) (hz 6)
def qD (a0:bK) (a1:Int):Option Bool:=
 abJ (me a0) λr1=>abJ (bif r1 then(abJ (du a1 0 (WR (a0.fC-1))) λr3=>bif r3 then(bif leB 0 a1 then(some (eqB (z6 .i64 (Eb .i64 a0.fP a1) 1) 1)) else none) else(some false)) else(some false)) λ(v2:Bool)=>some v2
instance GZ {a0:bK} :FC prog (qD a0 a1=some r) 265 [.agg (iO a0),aI a1] [.c (.d (.b r))]:=gF func265 ntmps265 (hb 7 4)
end Go.AM
