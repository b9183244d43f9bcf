/- A part. -/
import Derived.Test.YtcfhabdgiieejaaGreatI2
set_option linter.unusedVariables false
open Option renaming bind->abJ
open List renaming range->f5
namespace Go.AM
open Go.Proofs
open Tryz
attribute [local irreducible] AWN NS AWO AWR AWC DR DZ dQ f9 iter
set_option maxRecDepth 100000
set_option maxHeartbeats 40000000
variable {r:Bool}
def nZ (a0:aS) (v2:Int) (x3:fc):Int->Option (cr (Int) (cr (Int) (Bool)))
 |v7=>bif ltB v7 (x3.cQ.length:Int) then(abJ (ix x3.cQ v7) λx8=>abJ (bif eqB x8 v2 then(some true) else(abJ (kZ a0 x8) λr10=>bif !r10 then(some true) else(abJ (uP a0 x8 v2) λr11=>some (!r11)))) λ(v9:Bool)=>bif v9 then(dn (dn (some false))) else(some (.next (WR (v7+1))))) else(dn (some (.next (WR (v2+1)))))
def nY (a0:aS):Int->Option (cr (Int) (Bool))
 |v2=>bif ltB v2 (a0.bb.length:Int) then(abJ (ix a0.bb v2) λx3=>abJ (cf x3.fZ 0 2) λr4=>abJ (bif !r4 then(some true) else(abJ (oC x3.cQ) λr6=>some (!r6))) λ(v5:Bool)=>bif v5 then(dn (some false)) else(iter (nZ a0 v2 x3) FU 0)) else(dn (some true))
def tR (a0:aS):Option Bool:=
 abJ (cf (a0.bb.length:Int) 1 6) λr1=>bif !r1 then(some false) else(iter (nY a0) FU 0)
instance WC {a0:aS} :FC prog (tR a0=some r) 74 [.agg (ge a0)] [.c (.d (.b r))]:=gF func74 ntmps74 (hl 0 15) (hb 24 29) (hl 2 33) (hb 40 52)
def nX (a0:aG):Option Bool:=
 abJ (n8 a0.dr) λr1=>abJ (bif !r1 then(some true) else(abJ (cf a0.bp 0 3) λr3=>bif !r3 then(some true) else(abJ (cf a0.bh 0 5) λr4=>some (!r4)))) λ(v2:Bool)=>bif v2 then(some false) else(abJ (cf a0.ag 0 999999) λr5=>abJ (bif !r5 then(some true) else(abJ (cf a0.aV 0 999999) λr7=>bif !r7 then(some true) else(abJ (cf a0.aZ 0 2147483646) λr8=>some (!r8)))) λ(v6:Bool)=>bif v6 then(some false) else(abJ (bif eqB a0.bp 2 then(abJ (gI a0.aZ) λr10=>some (!r10)) else(bif eqB a0.bp 3 then(abJ (gI a0.aZ) λr11=>some (!r11)) else(some false))) λ(v9:Bool)=>bif v9 then(some false) else(abJ (cf a0.fo 0 3) λr12=>abJ (bif r12 then(abJ (jF a0.bW) λr14=>some r14) else(some false)) λ(v13:Bool)=>some v13)))
instance QO {a0:aG} :FC prog (nX a0=some r) 136 [.agg (cF a0)] [.c (.d (.b r))]:=gF func136 ntmps136 (hb 7 18) (hb 23 34) (hb 38 48) (hb 52 2)
def gh (a0:ah):Int->Option (cr (Int) (Bool))
 |v23=>bif ltB v23 (a0.ax.aC.length:Int) then(abJ (ix a0.ax.aC v23) λx24=>abJ (ix a0.aH (WR (x24.cW-1))) λx25=>abJ (qm x24.a9 x25.a9) λr26=>bif !r26 then(dn (some false)) else(some (.next (WR (v23+1))))) else(dn (abJ (iS a0) λr27=>abJ (kq a0.b9) λr28=>some (leB r27 r28)))
def iL (a0:ah):Option Bool:=
 abJ (fB a0.bF) λr1=>abJ (bif !r1 then(some true) else(abJ (iQ a0.gT) λr3=>bif !r3 then(some true) else(abJ (n0 a0.ga) λr4=>bif !r4 then(some true) else(abJ (lu a0.ax) λr5=>bif !r5 then(some true) else(abJ (jh a0.b9) λr6=>some (!r6)))))) λ(v2:Bool)=>bif v2 then(some false) else(abJ (bif !eqB a0.bp 0 then(some (!eqB a0.bp 1)) else(some false)) λ(v7:Bool)=>bif v7 then(some false) else(abJ (bif eqB a0.bp 1 then(abJ (gI a0.aZ) λr9=>bif !r9 then(some true) else(bif ltB 0 a0.bI then(abJ (gI a0.aK.eX) λr10=>some (!r10)) else(some false))) else(bif ltB 0 a0.bI then(abJ (gI a0.aK.eX) λr11=>some (!r11)) else(some false))) λ(v8:Bool)=>bif v8 then(some false) else(abJ (cf a0.bI 0 999999) λr12=>abJ (bif !r12 then(some true) else(abJ (cf a0.ag 0 999999) λr14=>bif !r14 then(some true) else(abJ (cf a0.aV 0 999999) λr15=>bif !r15 then(some true) else(abJ (cf a0.aZ 0 2147483646) λr16=>some (!r16))))) λ(v13:Bool)=>bif v13 then(some false) else(abJ (cf a0.bh 0 5) λr17=>abJ (bif !r17 then(some true) else(abJ (cf a0.dT 0 5) λr19=>bif !r19 then(some true) else(abJ (cf a0.dP 0 3) λr20=>some (!r20)))) λ(v18:Bool)=>bif v18 then(some false) else(abJ (bif ltB 24 (a0.aH.length:Int) then(some true) else(abJ (t0 a0.aH) λr22=>bif !r22 then(some true) else(some (ltB (WR ((a0.aH.length:Int)+1)) a0.ax.bE)))) λ(v21:Bool)=>bif v21 then(some false) else(iter (gh a0) FU 0))))))
instance tT {a0:ah} :FC prog (iL a0=some r) 137 [.agg (bS a0)] [.c (.d (.b r))]:=gF func137 ntmps137 (hb 9 32) (hb 36 40) (hb 44 61) (hb 66 83) (hb 88 99) (hb 104 119) (hl 0 124)
def jm (a0:ab) (a1:Int):Option Bool:=
 abJ (qv a0 a1) λr1=>bif !r1 then(some false) else(abJ (ix a0.aA a1) λx2=>abJ (pU a0 a1) λr3=>abJ (gH x2) λr4=>abJ (pT x2 r4) λr5=>some (eqB r3 r5))
instance Ki {a0:ab} {a1:Int} :FC prog (jm a0 a1=some r) 40 [.agg (fG a0),aI a1] [.c (.d (.b r))]:=gF func40 ntmps40
def lB (a0:aG):Option aG:=
 abJ (mI a0.bW) λr1=>some {a0 with bW:=r1}
instance GH {a0:aG} {r:aG}:FC prog (lB a0=some r) 91 [.agg (cF a0)] [.agg (qM [.o,.o] (gD r))]:=gF func91 ntmps91
def gz (a0:ah):Option ah:=
 abJ (kY a0.gT) λr1=>abJ (mH a0.aH) λr2=>abJ (lC a0.ax) λr3=>some {a0 with gT:=r1,aH:=r2,ax:=r3}
instance oA {a0:ah} {r:ah}:FC prog (gz a0=some r) 93 [.agg (bS a0)] [.agg (qM [.o,.o,.o] (c7 r))]:=gF func93 ntmps93
def qt (a0:bM):Option bM:=
 abJ (wg a0.co) λr1=>some {a0 with co:=r1}
instance zF {a0:bM} {r:bM}:FC prog (qt a0=some r) 97 [.agg (dB a0)] [.agg (qM [.o] (jE r))]:=gF func97 ntmps97
def mC (a1:List Int):(Int×Int)->Option (cr (Int×Int) (Int))
 |(v2,v3)=>bif ltB v3 (a1.length:Int) then(abJ (ix a1 v3) λx7=>abJ (md v2 x7) λr8=>some (.next (r8,WR (v3+1)))) else(some (.done v2))
def eT (a0:Int) (a1:List Int):Option Int:=
 abJ (md 11 a0) λr1=>abJ (iter (mC a1) FU (r1,0)) λ(v6:Int)=>abJ (md v6 a0) λr9=>some r9
instance jW {a0:Int} {a1:List Int} {r:Int}:FC prog (eT a0 a1=some r) 197 [aI a0,aL (a1.map eI)] [.c (.d (.i .i64 r))]:=gF func197 ntmps197 (hm 0 5 12) (he 0 5 12)
def ol (a0:aj) (a1:cP):Option (aj×cP):=
 abJ (fJ a0 a1) λr1=>bif !r1 then(abJ (eZ a0) λr2=>some (r2,a1)) else(abJ (IR a0 a1.aJ a1.em) λr3=>bif !r3.2 then(abJ (eZ a0) λr4=>some (r4,a1)) else(some (r3.1,(⟨a1.aJ,WR (a1.cV-a1.em),0⟩:cP))))
instance EN {a0:aj} {a1:cP} {r:aj×cP}:FC prog (ol a0 a1=some r) 219 [.agg (cM a0),.agg (mV a1)] [.agg (qM [.o] (ct r.1)),.agg (qM [] (yT r.2))]:=gF func219 ntmps219 (hz 2) (hz 5) (hz 8)
def xZ (r4:cG×List Int):(Int×List aF)->Option (cr (Int×List aF) (List aF))
 |(v5,v6)=>bif ltB v5 (r4.2.length:Int) then(abJ (ix r4.2 v5) λx9=>bif da 88 (v6++[{d9 with a8:=7,bh:=x9}]).length then(some (.next (WR (v5+1),(v6++[{d9 with a8:=7,bh:=x9}])))) else none) else(some (.done v6))
def t9 (a0:ah) (a1:aj) (a2:aS):Option bO:=
 abJ (kZ a2 a0.bh) λr1=>abJ (bif r1 then(abJ (DC a2 a0.bh) λr3=>some r3) else(some 0)) λ(v2:Int)=>abJ (tY {a0.ga with fZ:=v2} a2) λr4=>abJ (iter (xZ r4) FU (0,([]:List aF))) λ(v8:List aF)=>some (⟨{a0 with ga:=r4.1},a1,v8,[]⟩:bO)
instance GJ {a0:ah} {a1:aj} {a2:aS} {r:bO}:FCV prog (t9 a0 a1 a2=some r) 220 [] [.v (.agg (kM [.t,.t,.t] (c7 a0))),.v (.agg (kM [.t] (ct a1))),.v (.agg [.d false (.l (a2.bb.map eO))])] [] (.v (.agg (kM [.t,.t,.t,.t,.n 210,.z] (bB {r with co:=[]})))) [(210,n42 r.ju)]:=⟨λH=>by
 refine fV func220 ntmps220 ?_
 refine aa H λr1 q1 H=>nA (ca (hF:=yY.h q1)) ?_
 refine aa H λv2 Hj H=>jA ⟨[(3,tP 210),(4,tP 211),(5,tP 212),(6,tP 213)],[(210,.var 93 (kM [.t,.t,.t] (c7 {a0 with ga:={a0.ga with fZ:=v2}}))),(211,.var 107 (kM [.t] (ct a1))),(212,.var 26 [.d false (.l (a2.bb.map eO))]),(213,.var 174 (kM [.z,.z,.z,.z,.z,.z] (bB ci)))],214⟩ ?_ ?_
 .refine cC Hj ?_ ?_<;>intro H
  .refine aa H λr3 q3 H=>nA (ca (hF:=QM.h q3)) ?_
   exact ai H
  exact ai H
 refine aa H λr4 q4 H=>nA (ca (hF:=GE.h q4)) ?_
 refine aa H λv8 Hj H=>jB ⟨[(6,tP 213),(9,tP 216)],(oM [.t,.t,.t,.t,.n 217,.z] 216 174 (bB (⟨{a0 with ga:=r4.1},a1,v8,[]⟩:bO))++[(213,.var 174 (kM [.z,.z,.z,.z,.z,.z] (bB ci)))]),218⟩ ?_ ?_
 .refine iT Hj (λq=>⟨[(6,tP 213),(9,tP 216),(36,.v (.c (.w 214 r4.2.length))),(37,tI (r4.2.length:Int)),(38,tI q.1)],(oM [.t,.t,.t,.t,.n 217,.z] 216 174 (bB (⟨{a0 with ga:=r4.1},a1,q.2,[]⟩:bO))++[(213,.var 174 (kM [.z,.z,.z,.z,.z,.z] (bB ci))),(214,w3 r4.2)]),218⟩) ?_ (by refine am (dE (o:=216) (j:=34) 42 11 true) ?_;refine am (wB 217 (([]:List aF).length)) ?_;exact wo)
  rintro⟨v5,v6⟩ o H
  refine ad ?_
  refine cC H ?_ ?_<;>intro H
  .refine aa H λx9 hx9 H=>nA (xwT hx9) ?_
   refine nA (oe (he:=dF _ hx9)) ?_
   obtain⟨h,H⟩:=rq H
   refine sA (AJ (enc:=cU) (ys:=v6) (zs:=[{d9 with a8:=7,bh:=x9}]) h (by first|exact List.cons_ne_nil _ _|simp) rfl (λ_=>rfl) (by first|rfl|simp) (.w rfl (by first|rfl|exact lm _|simp)) rfl rfl rfl rfl rfl rfl rfl rfl rfl rfl) ?_
   cases H
   refine sV ?_
   refine am (d8 217) ?_
   exact wo
  exact aE H
 cases H
 refine bA (wS 217 210) ?_
 exact bj⟩
def pX (a0:aj) (a1:cP) (a2:Int):Option (aj×cP):=
 abJ (fJ a0 a1) λr1=>bif !r1 then(abJ (eZ a0) λr2=>some (r2,a1)) else(abJ (A8 a0 a1.aJ a2) λr3=>bif ltB 100000 (WR (a1.cV+r3.2)) then(abJ (eZ a0) λr4=>some (r4,a1)) else(some (r3.1,{a1 with cV:=WR (a1.cV+r3.2)})))
instance So {a0:aj} {a1:cP} {a2:Int} {r:aj×cP}:FC prog (pX a0 a1 a2=some r) 354 [.agg (cM a0),.agg (mV a1),aI a2] [.agg (qM [.o] (ct r.1)),.agg (qM [] (yT r.2))]:=gF func354 ntmps354 (hz 2) (hz 5) (hz 7)
def qs (a0:aY) (a1:List Int):Option (aY×ae×Bool):=
 abJ (lC a0) λr1=>abJ (eU a1) λr2=>bif da 32 (r1.aC++[(⟨a0.bE,r2⟩:ae)]).length then(abJ (lu (⟨WR (r1.bE+1),(r1.aC++[(⟨a0.bE,r2⟩:ae)])⟩:aY)) λr3=>bif !r3 then(abJ (lC a0) λr4=>some (r4,bT,false)) else(abJ (eU a1) λr5=>some ((⟨WR (r1.bE+1),(r1.aC++[(⟨a0.bE,r2⟩:ae)])⟩:aY),(⟨a0.bE,r5⟩:ae),true))) else none
theorem ES {a0:aY} {a1:List Int} {r:aY×ae×Bool} (H:qs a0 a1=some r) (hflag:r.2.2=true):Fn prog 306 [.agg (gq a0),aL (a1.map eU8)] [.agg (qM [.o] (dH r.1)),.agg (qM [.o] (dq r.2.1)),.c (.d (.b r.2.2))]:=by
 refine fI func306 ntmps306 ?_
 refine aa H λr1 q1 H=>nA (ca (hF:=mJ.h q1)) ?_
 refine zI (f5 11) ?_
 refine aa H λr2 q2 H=>zA (ca (hF:=(gx.h q2).frzs (by repeat (first|exact trivial|refine⟨?_,?_⟩|exact lm _|rfl)))) ?_
 obtain⟨h,H⟩:=rq H
 refine zB bC (fg rfl (apT (enc:=aM) (ys:=r1.aC) (zs:=[(⟨a0.bE,r2⟩:ae)]) h)) bC ?_
 refine wA (spx 100061) ?_
 refine aa H λr3 q3 H=>nA (ca (hF:=vj.h q3)) ?_
 refine cC H ?_ ?_<;>intro H
 .refine aa H λr4 q4 H=>nA (ca (hF:=mJ.h q4)) ?_
  cases H
  cases hflag
 refine zI (f5 9) ?_
 refine aa H λr5 q5 H=>zA (ca (hF:=gx.h q5)) ?_
 refine wA (spx 100060) ?_
 refine wA (spx 100059) ?_
 exact ao H
theorem ER {a0:aY} {a1:List Int} {r:aY×ae×Bool} (H:qs a0 a1=some r) (hflag:r.2.2=false):Fn prog 306 [.agg (gq a0),aL (a1.map eU8)] [.agg (qM [.o] (dH r.1)),.agg (qM [.z] (dq r.2.1)),.c (.d (.b r.2.2))]:=by
 refine fI func306 ntmps306 ?_
 refine aa H λr1 q1 H=>nA (ca (hF:=mJ.h q1)) ?_
 refine zI (f5 11) ?_
 refine aa H λr2 q2 H=>zA (ca (hF:=(gx.h q2).frzs (by repeat (first|exact trivial|refine⟨?_,?_⟩|exact lm _|rfl)))) ?_
 obtain⟨h,H⟩:=rq H
 refine zB bC (fg rfl (apT (enc:=aM) (ys:=r1.aC) (zs:=[(⟨a0.bE,r2⟩:ae)]) h)) bC ?_
 refine wA (spx 100064) ?_
 refine aa H λr3 q3 H=>nA (ca (hF:=vj.h q3)) ?_
 refine cC H ?_ ?_<;>intro H
 .refine aa H λr4 q4 H=>nA (ca (hF:=mJ.h q4)) ?_
  exact ao H
 refine zI (f5 9) ?_
 refine aa H λr5 q5 H=>zA (ca (hF:=gx.h q5)) ?_
 refine wA (spx 100063) ?_
 refine wA (spx 100062) ?_
 cases H
 cases hflag
def gG (a0:aY) (a1:Int):(Int×List ae)->Option (cr (Int×List ae) (List ae))
 |(v2,v3)=>bif ltB v2 (a0.aC.length:Int) then(abJ (ix a0.aC v2) λx7=>abJ (bif leB a1 x7.cW then(bif da 32 (v3++[x7]).length then(some (v3++[x7])) else none) else(some v3)) λ(v8:List ae)=>some (.next (WR (v2+1),v8))) else(some (.done v3))
def kR (a0:aY) (a1:Int):Option aY:=
 bif ltB a0.bE a1 then(abJ (lC a0) λr1=>some r1) else(abJ (iter (gG a0 a1) FU (0,([]:List ae))) λ(v6:List ae)=>abJ (kG v6) λr9=>some (⟨a0.bE,r9⟩:aY))
instance MA {a0:aY} {a1:Int} {r:aY}:FC prog (kR a0 a1=some r) 360 [.agg (gq a0),aI a1] [.agg (qM [.o] (dH r))]:=⟨λH=>by
 refine fI func360 ntmps360 ?_
 refine cC H ?_ ?_<;>intro H
 .refine aa H λr1 q1 H=>nA (ca (hF:=mJ.h q1)) ?_
  exact ao H
 refine aa H λv6 Hj H=>jB ⟨[(2,tP 0),(4,tP 1),(5,.v (.c (.w 2 v6.length)))],[(0,.var 89 (kM [.f] (dH a0))),(1,.var 89 (kM [.z] (dH km))),(2,J9 v6 false true)],3⟩ ?_ ?_
 .refine iT Hj (λq=>⟨[(1,tI a1),(2,tP 0),(4,tP 1),(5,.v (.c (.w 2 q.2.length))),(16,.v (.c (.d false (.l (a0.aC.map aM))))),(17,tI (a0.aC.length:Int)),(18,tI q.1)],[(0,.var 89 (kM [.f] (dH a0))),(1,.var 89 (kM [.z] (dH km))),(2,J9 q.2 false true)],3⟩) ?_ (by refine am (weak_g (o:=2)) ?_;exact wo)
  rintro⟨v2,v3⟩ o H
  refine ad ?_
  refine cC H ?_ ?_<;>intro H
  .refine aa H λx7 hx7 H=>nA (xdT (enc:=aM) hx7) ?_
   refine aa H λv8 Hj H=>jA ⟨[(1,tI a1),(2,tP 0),(4,tP 1),(5,.v (.c (.w 2 v8.length))),(16,.v (.c (.d false (.l (a0.aC.map aM))))),(17,tI (a0.aC.length:Int)),(18,tI v2)],[(0,.var 89 (kM [.f] (dH a0))),(1,.var 89 (kM [.z] (dH km))),(2,J9 v8 false true)],4⟩ ?_ ?_
   .refine cC Hj ?_ ?_<;>intro H
    .obtain⟨h,H⟩:=rq H
     refine sA (apT (enc:=aM) (ys:=v3) (zs:=[x7]) h) ?_
     exact ai H
    exact ai H
   exact aN H
  exact aE H
 refine zI (f5 6) ?_
 refine aa H λr9 q9 H=>zA (ca (hF:=Dl.h q9)) ?_
 refine wA (spx 100136) ?_
 cases H
 exact dM⟩
def kU (a1:ae) (r1:aP):Int->Option (cr (Int) (Int))
 |v6=>abJ (bif ltB v6 (r1.aK.length:Int) then(abJ (ix r1.aK v6) λx11=>some (ltB x11.cW a1.cW)) else(some false)) λ(v10:Bool)=>bif v10 then(some (.next (WR (v6+1)))) else(some (.done v6))
def kV:aP->Option (cr (aP) (aP))
 |v17=>abJ (bif ltB 0 (v17.aK.length:Int) then(abJ (ix v17.aK 0) λx26=>bif eqB x26.cW v17.bE then(some (ltB (v17.be.length:Int) 24)) else(some false)) else(some false)) λ(v25:Bool)=>bif v25 then(abJ (ix v17.aK 0) λx27=>bif da 24 (v17.be++[(⟨x27.a9⟩:bJ)]).length then(bif eF v17.aK 1 v17.aK.length then(some (.next (⟨WR (v17.bE+1),v17.aK.drop ((1:Int)).toNat,(v17.be++[(⟨x27.a9⟩:bJ)])⟩:aP))) else none) else none) else(some (.done v17))
def og (a0:aP) (a1:ae):Option aP:=
 abJ (mI a0) λr1=>abJ (jF a0) λr2=>abJ (bif !r2 then(some true) else(bif ltB 60 (a1.a9.length:Int) then(some true) else(abJ (cf a1.cW a0.bE (WR ((WR (a0.bE+8))-1))) λr4=>bif !r4 then(some true) else(abJ (Al a0 a1.cW) λr5=>bif r5 then(some true) else(some (leB 24 (a0.be.length:Int))))))) λ(v3:Bool)=>bif v3 then(some r1) else(abJ (iter (kU a1 r1) FU 0) λ(v9:Int)=>bif da 32 (r1.aK++[bT]).length then(bif eF (r1.aK++[bT]) (WR (v9+1)) (r1.aK++[bT]).length then(bif eF (r1.aK++[bT]) v9 (r1.aK++[bT]).length then(abJ (eU a1.a9) λr12=>abJ (ix (cpD (r1.aK++[bT]) (WR (v9+1)).toNat ((r1.aK++[bT]).drop (v9).toNat)) v9) λx13=>abJ (iter (kV) FU {r1 with aK:=((cpD (r1.aK++[bT]) (WR (v9+1)).toNat ((r1.aK++[bT]).drop (v9).toNat)).set (v9).toNat (⟨a1.cW,r12⟩:ae))}) λ(v24:aP)=>bif leB 24 (v24.be.length:Int) then(some {v24 with aK:=[]}) else(some v24)) else none) else none) else none)
instance Cf {a0:aP} {a1:ae} {r:aP}:FC prog (og a0 a1=some r) 313 [.agg (g8 a0),.agg (aM a1)] [.agg (qM [.d,.o] (b8 r))]:=⟨λH=>by
 refine fI func313 ntmps313 ?_
 refine aa H λr1 q1 H=>nA (ca (hF:=Dm.h q1)) ?_
 refine aa H λr2 q2 H=>nA (ca (hF:=Ah.h q2)) ?_
 refine aa H λv3 Hj H=>jR ⟨[(3,tP 1),(4,tP 2),(5,tP 5),(41,tB v3)],(oM [.w 3,.w 4] 5 65 (b8 r1)++[(1,.var 100 (kM [.f] (dq a1))),(2,.var 65 (kM [.z,.z] (b8 c8)))]),6⟩ ?_ ?_
 .refine gC Hj ?_ ?_<;>intro H
  .exact ai H
  refine gC H ?_ ?_<;>intro H
  .exact ai H
  refine aa H λr4 q4 H=>nG (ca (hF:=jg.h q4)) ?_
  refine gC H ?_ ?_<;>intro H
  .exact ai H
  refine aa H λr5 q5 H=>nG (ca (hF:=IY.h q5)) ?_
  exact az H
 refine cC H ?_ ?_<;>intro H
 .cases H
  refine vb (bv (o:=3)) ?_
  refine vb (de (o:=2)) ?_
  exact dM
 refine aa H λv9 Hj H=>jB ⟨[(3,tP 1),(4,tP 2),(5,tP 5),(6,tI v9)],(oM [.w 3,.w 4] 5 65 (b8 r1)++[(1,.var 100 (kM [.f] (dq a1))),(2,.var 65 (kM [.z,.z] (b8 c8)))]),6⟩ ?_ ?_
 .refine iT Hj (λq=>⟨[(3,tP 1),(4,tP 2),(5,tP 5),(6,tI q)],(oM [.w 3,.w 4] 5 65 (b8 r1)++[(1,.var 100 (kM [.f] (dq a1))),(2,.var 65 (kM [.z,.z] (b8 c8)))]),6⟩) ?_
  rintro v6 o H
  refine ad ?_
  refine dI ?_
  refine aa H λv10 Hj H=>pQ ⟨[(3,tP 1),(4,tP 2),(5,tP 5),(6,tI v6),(58,tB v10)],(oM [.w 3,.w 4] 5 65 (b8 r1)++[(1,.var 100 (kM [.f] (dq a1))),(2,.var 65 (kM [.z,.z] (b8 c8)))]),6⟩ ?_ ?_
  .have H:=Hj
   refine wI ?_
   refine dC H ?_ ?_<;>intro H
   .refine aa H λx11 hx11 H=>dG (xwT hx11) ?_
    refine dG (oe (he:=dF _ hx11)) ?_
    refine wI ?_
    exact ai H
   refine wI ?_
   exact ai H
  refine wI ?_
  refine cC H ?_ ?_<;>intro H
  .refine wI ?_
   exact aN H
  exact aE H
 obtain⟨h,H⟩:=rq H
 refine sA (apT (enc:=aM) (ys:=r1.aK) (zs:=[bT]) h) ?_
 refine zI (f5 10) ?_
 obtain⟨hs12,H⟩:=rq H
 refine zA (MW (enc:=aM) hs12 (by first|rfl|simp) rfl rfl rfl rfl) ?_
 obtain⟨hs13,H⟩:=rq H
 refine zA (MW (enc:=aM) hs13 (by first|rfl|simp) rfl rfl rfl rfl) ?_
 refine zB bC (fg rfl (cpsT (enc:=aM) (ys:=(r1.aK++[bT])) (zs:=(r1.aK++[bT]).drop (v9).toNat) (hs:=Mh (enc:=aM) hs13 (by first|rfl|simp) rfl) hs12)) bC ?_
 refine zI (f5 11) ?_
 refine aa H λr12 q12 H=>zA (ca (hF:=gx.h q12)) ?_
 refine aa H λx13 hx13 H=>zA (xwT hx13) ?_
 refine zB (am (bv (o:=7)) (bH (k:=85))) (fg rfl (soT (enc:=aM) (a':=(⟨a1.cW,r12⟩:ae)) hx13)) bC ?_
 refine aa H λv24 Hj H=>jB ⟨[(4,tP 2),(5,tP 5)],(oM [.t,.w 4] 5 65 (b8 v24)++[(2,.var 65 (kM [.z,.z] (b8 c8)))]),8⟩ ?_ ?_
 .refine iT Hj (λq=>⟨[(4,tP 2),(5,tP 5)],(oM [.t,.w 4] 5 65 (b8 q)++[(2,.var 65 (kM [.z,.z] (b8 c8)))]),8⟩) ?_ (by refine am (bv (o:=3)) ?_;refine am (bH (k:=65)) ?_;refine am (bH (k:=68)) ?_;refine am (bH (k:=73)) ?_;refine am (bH (k:=78)) ?_;refine am (de (o:=5)) ?_;exact wo)
  rintro v17 o H
  refine ad ?_
  refine dI ?_
  refine aa H λv25 Hj H=>pQ ⟨[(4,tP 2),(5,tP 5),(106,tB v25)],(oM [.t,.w 4] 5 65 (b8 v17)++[(2,.var 65 (kM [.z,.z] (b8 c8)))]),8⟩ ?_ ?_
  .have H:=Hj
   refine wI ?_
   refine dC H ?_ ?_<;>intro H
   .refine aa H λx26 hx26 H=>dG (xdT (enc:=aM) hx26) ?_
    refine dC H ?_ ?_<;>intro H
    .refine wI ?_
     exact ai H
    refine wI ?_
    exact ai H
   refine wI ?_
   exact ai H
  refine wI ?_
  refine cC H ?_ ?_<;>intro H
  .refine zI (f5 12) ?_
   refine aa H λx27 hx27 H=>zA (xdT (enc:=aM) hx27) ?_
   obtain⟨h,H⟩:=rq H
   refine zB bC (fg rfl (apT (enc:=dN) (ys:=v17.be) (zs:=[(⟨x27.a9⟩:bJ)]) h)) bC ?_
   refine wA (spx 100146) ?_
   obtain⟨h,H⟩:=rq H
   refine nA (Tl (enc:=aM) h (λ_=>rfl) rfl rfl rfl) ?_
   exact aN H
  exact aE H
 refine cC H ?_ ?_<;>intro H
 .cases H
  refine vb (Mu (o:=2)) ?_
  exact dM
 cases H
 exact dM⟩
def rH (a0:ab) (a1:cX):Option (Bool×ab):=
 abJ (kZ a0.ev a1.cB) λr1=>abJ (bif !r1 then(some true) else(abJ (vi a0 a1.cB) λr3=>some (booB r3 (eqB a1.a8 10)))) λ(v2:Bool)=>bif v2 then(some (false,a0)) else(bif leB 0 a1.cB then(some (true,{a0 with dw:=Iy .i64 a0.dw (lX .i64 1 a1.cB)})) else none)
instance EU {a0:ab} {a1:cX} {r:Bool×ab}:FCV prog (rH a0 a1=some r) 100 (nI a0) [tP 200,.v (.agg (kM [.t,.t] (dV a1)))] (nI r.2) (.v (.c (.d false (.b r.1)))) []:=⟨λH=>by
 refine fV func100 ntmps100 ?_
 refine dI ?_
 refine aa H λr1 q1 H=>dA (ca (hF:=yY.h q1)) ?_
 refine aa H λv2 Hj H=>pQ ⟨[(0,tP 200),(3,tP 210),(24,tB v2)],(nI a0++[(210,.var 50 (kM [.t,.t] (dV a1)))]),211⟩ ?_ ?_
 .have H:=Hj
  refine wI ?_
  refine dC H ?_ ?_<;>intro H
  .refine wI ?_
   exact ai H
  refine aa H λr3 q3 H=>dG (ca (hF:=CQ.h q3)) ?_
  refine wI ?_
  exact ai H
 refine wI ?_
 refine cC H ?_ ?_<;>intro H
 .refine wI ?_
  cases H
  exact bj
 refine zI (f5 11) ?_
 obtain⟨h,H⟩:=rq H
 refine zA (Lc h rfl rfl rfl rfl) ?_
 refine wA (spx 100666) ?_
 cases H
 exact bj⟩
def pZ (a0:bM) (a1:bM):Option Bool:=
 abJ (bif eqB a0.bm a1.bm then(bif booB a0.eG a1.eG then(bif booB a0.dZ a1.dZ then(bif eqB a0.bh a1.bh then(bif(eqB a0.bg.a8 a1.bg.a8&&(eqB a0.bg.bh a1.bg.bh&&(eqB a0.bg.ag a1.bg.ag&&(eqB a0.bg.aV a1.bg.aV&&(eqB a0.bg.bV a1.bg.bV&&(eqB a0.bg.cd.ew a1.bg.cd.ew&&(eqB a0.bg.cd.f4 a1.bg.cd.f4&&(eqB a0.bg.cd.iK a1.bg.cd.iK&&(eqB a0.bg.cd.w8 a1.bg.cd.w8&&(eqB a0.bg.cd.eX a1.bg.cd.eX&&(eqB a0.bg.iK a1.bg.iK&&true))))))))))) then(abJ (tN a0.co a1.co) λr2=>some r2) else(some false)) else(some false)) else(some false)) else(some false)) else(some false)) λ(v1:Bool)=>some v1
instance Dn {a0:bM} {a1:bM} :FC prog (pZ a0 a1=some r) 59 [.agg (dB a0),.agg (dB a1)] [.c (.d (.b r))]:=gF func59 ntmps59 (hb 10 4)
end Go.AM
