/- A part. -/
import Derived.Test.YtmginjngmidkbaaGreatI0
set_option linter.unusedVariables false
open Option renaming bind->abU
open List renaming replicate->aaf,range->f4
namespace Go.AM
open Go.Proofs
open Tryz
attribute [local irreducible] AWN NS AWO AWR AWC DR DZ dS gp iter
set_option maxRecDepth 100000
set_option maxHeartbeats 40000000
variable {a1:Int} {r:Bool}
def lr (a0:aS) (a1:Int):Option Bool:=
 abU (cf a1 0 (WR ((a0.a8.length:Int)-1))) λr1=>some r1
instance HU {a0:aS} :FC prog (lr a0 a1=some r) 47 [.agg (gu a0),aI a1] [.c (.d (.b r))]:=gF func47 ntmps47
def kn (a0:bH):Option Bool:=
 abU (cf a0.fx 1 6) λr1=>abU (bif r1 then(bif leB 0 a0.fx then(abU (cf a0.fB 0 (WR ((md .i64 1 a0.fx)-1))) λr3=>some r3) else none) else(some false)) λ(v2:Bool)=>some v2
instance ET {a0:bH} :FC prog (kn a0=some r) 45 [.agg (je a0)] [.c (.d (.b r))]:=gF func45 ntmps45 (hb 6 2)
def km (a0:am):Int->Option (ct (Int) (Bool))
 |v5=>bif ltB v5 (a0.aj.length:Int) then(abU (ix a0.aj v5) λx6=>abU (bif ltB x6.aC 0 then(some true) else(abU (cf x6.dW 1 100000) λr8=>some (!r8))) λ(v7:Bool)=>bif v7 then(dn (some false)) else(abU (bif ltB 0 v5 then(abU (ix a0.aj (WR (v5-1))) λx10=>some (leB x6.aC x10.aC)) else(some false)) λ(v9:Bool)=>bif v9 then(dn (some false)) else(some (.next (WR (v5+1)))))) else(dn (abU (oG a0) λr11=>some (eqB (WR ((WR (a0.bz+a0.eg))+r11)) a0.eE)))
def fM (a0:am):Option Bool:=
 abU (cf a0.eE 0 100000) λr1=>abU (bif !r1 then(some true) else(abU (cf a0.bz 0 a0.eE) λr3=>bif !r3 then(some true) else(abU (cf a0.eg 0 a0.eE) λr4=>some (!r4)))) λ(v2:Bool)=>bif v2 then(some false) else(bif ltB 8 (a0.aj.length:Int) then(some false) else(iter (km a0) FU 0))
instance tO {a0:am} :FC prog (fM a0=some r) 18 [.agg (cT a0)] [.c (.d (.b r))]:=gF func18 ntmps18 (hb 9 24) (hl 0 32) (hb 40 45) (hb 48 59)
def ml (a0:am) (a1:Int):Option Int:=
 abU (eU a0 a1) λr1=>bif ltB r1 0 then(some 0) else(abU (ix a0.aj r1) λx2=>some x2.dW)
instance E5 {a0:am} {r:Int}:FC prog (ml a0 a1=some r) 20 [.agg (cT a0),aI a1] [.c (.d (.i .i64 r))]:=gF func20 ntmps20
def gQ (a0:Int):Option Bool:=
 abU (cf a0 1 2147483646) λr1=>some r1
instance GK {a0:Int} :FC prog (gQ a0=some r) 165 [aI a0] [.c (.d (.b r))]:=gF func165 ntmps165
def gR (a0:dw):Option Bool:=
 abU (cf a0.dZ 0 3) λr1=>abU (bif r1 then(abU (cf a0.bW 0 99) λr3=>some r3) else(some false)) λ(v2:Bool)=>some v2
instance Jp {a0:dw} :FC prog (gR a0=some r) 241 [.agg (om a0)] [.c (.d (.b r))]:=gF func241 ntmps241 (hb 6 2)
def jF (a0:aP):Int->Option (ct (Int) (Bool))
 |v3=>bif ltB v3 (a0.aK.length:Int) then(abU (ix a0.aK v3) λx4=>abU (bif ltB 60 (x4.bb.length:Int) then(some true) else(abU (cf x4.c8 (WR (a0.bB+1)) (WR ((WR (a0.bB+8))-1))) λr6=>some (!r6))) λ(v5:Bool)=>bif v5 then(dn (some false)) else(abU (bif ltB 0 v3 then(abU (ix a0.aK (WR (v3-1))) λx8=>some (leB x4.c8 x8.c8)) else(some false)) λ(v7:Bool)=>bif v7 then(dn (some false)) else(some (.next (WR (v3+1)))))) else(dn (some true))
def jQ (a0:aP):Option Bool:=
 abU (bif !eqB a0.bB (WR ((a0.be.length:Int)+1)) then(some true) else(bif ltB 24 (a0.be.length:Int) then(some true) else(abU (tY a0.be) λr2=>bif !r2 then(some true) else(some (ltB 8 (a0.aK.length:Int)))))) λ(v1:Bool)=>bif v1 then(some false) else(iter (jF a0) FU 0)
instance Ac {a0:aP} :FC prog (jQ a0=some r) 166 [.agg (hU a0)] [.c (.d (.b r))]:=gF func166 ntmps166 (hb 12 29) (hl 0 33) (hb 42 54) (hb 57 68)
def kD (a0:cP):Option Int:=
 abU (jt a0) λr1=>bif !r1 then(some 0) else(some (WR (a0.cS-a0.er)))
instance Ph {a0:cP} {r:Int}:FC prog (kD a0=some r) 76 [.agg (mf a0)] [.c (.d (.i .i64 r))]:=gF func76 ntmps76
def gZ (a0:bP):Int->Option (ct (Int) (Bool))
 |v5=>bif ltB v5 (a0.bJ.length:Int) then(abU (ix a0.bJ v5) λx6=>abU (cf x6 0 3) λr7=>bif !r7 then(dn (some false)) else(some (.next (WR (v5+1))))) else(dn (abU (oJ a0.bJ) λr8=>some r8))
def jg (a0:bP):Option Bool:=
 abU (cf a0.jM 1 1000) λr1=>abU (bif !r1 then(some true) else(abU (cf a0.jJ 1 4) λr3=>bif !r3 then(some true) else(abU (cf a0.et 1 100000) λr4=>some (!r4)))) λ(v2:Bool)=>bif v2 then(some false) else(iter (gZ a0) FU 0)
instance Jq {a0:bP} :FC prog (jg a0=some r) 168 [.agg (lE a0)] [.c (.d (.b r))]:=gF func168 ntmps168 (hb 9 20) (hl 0 24)
def ox (a0:cN):Option Bool:=
 abU (cf a0.f6 0 2) λr1=>abU (bif r1 then(abU (cf a0.eX 0 4) λr3=>bif r3 then(abU (cf a0.fA 0 3) λr4=>some r4) else(some false)) else(some false)) λ(v2:Bool)=>some v2
instance Q3 {a0:cN} :FC prog (ox a0=some r) 169 [.agg (pY a0)] [.c (.d (.b r))]:=gF func169 ntmps169 (hb 6 2)
def lh (a0:a9):Int->Option (ct (Int) (Bool))
 |v3=>bif ltB v3 (a0.aA.length:Int) then(abU (ix a0.aA v3) λx4=>abU (bif !eqB x4.c8 (WR ((WR (a0.bB-(a0.aA.length:Int)))+v3)) then(some true) else(some (ltB 60 (x4.bb.length:Int)))) λ(v5:Bool)=>bif v5 then(dn (some false)) else(some (.next (WR (v3+1))))) else(dn (some true))
def lG (a0:a9):Option Bool:=
 abU (cf a0.bB 1 100000) λr1=>abU (bif !r1 then(some true) else(some (ltB 8 (a0.aA.length:Int)))) λ(v2:Bool)=>bif v2 then(some false) else(bif ltB (WR (a0.bB-(a0.aA.length:Int))) 1 then(some false) else(iter (lh a0) FU 0))
instance vh {a0:a9} :FC prog (lG a0=some r) 170 [.agg (gH a0)] [.c (.d (.b r))]:=⟨λH=>by
 refine fI func170 ntmps170 ?_
 refine aa H λr1 q1 H=>nA (ca (hF:=iK.h q1)) ?_
 refine aa H λv2 Hj H=>jR ⟨[(1,tP 0),(15,tB v2)],[(0,.var 71 (kM [.f] (dx a0)))],1⟩ ?_ ?_
 .exact az Hj
 refine cC H ?_ ?_<;>intro H
 .exact ao H
 refine cC H ?_ ?_<;>intro H
 .exact ao H
 refine iT H (λq=>⟨[(3,tI (WR (a0.bB-(a0.aA.length:Int)))),(25,.v (.c (.d false (.l (a0.aA.map aM))))),(26,tI (a0.aA.length:Int)),(27,tI q)],[],0⟩) ?_
 rintro v3 o H
 refine ad ?_
 refine cC H ?_ ?_<;>intro H
 .refine aa H λx4 hx4 H=>nA (xdT (enc:=aM) hx4) ?_
  refine aa H λv5 Hj H=>jR ⟨[(3,tI (WR (a0.bB-(a0.aA.length:Int)))),(25,.v (.c (.d false (.l (a0.aA.map aM))))),(26,tI (a0.aA.length:Int)),(27,tI v3),(43,tB v5)],[],0⟩ ?_ ?_
  .exact az Hj
  refine cC H ?_ ?_<;>intro H
  .exact aQ H
  exact aN H
 refine aR H λH=>?_
 cases H
 exact bX⟩
def jh (a0:ah):Option Int:=
 abU (oL a0.aw.aA) λr1=>some r1
instance MY {a0:ah} {r:Int}:FC prog (jh a0=some r) 173 [.agg (bZ a0)] [.c (.d (.i .i64 r))]:=gF func173 ntmps173
def eK (a0:am):Option am:=
 abU (f5 a0.aj) λr1=>some {a0 with aj:=r1}
instance lK {a0:am} {r:am}:FC prog (eK a0=some r) 50 [.agg (cT a0)] [.agg (qM [.o] (cq r))]:=gF func50 ntmps50
def xQ (a0:aS):(Int×List fy)->Option (ct (Int×List fy) (List fy))
 |(v1,v2)=>bif ltB v1 (a0.a8.length:Int) then(abU (ix a0.a8 v1) λx7=>abU (sb x7.cF) λr8=>abU (ix v2 v1) λx9=>some (.next (WR (v1+1),(v2.set (v1).toNat (⟨x7.f6,r8⟩:fy))))) else(some (.done v2))
def Bh (a0:aS):Option aS:=
 bif qB 32 (a0.a8.length:Int) (a0.a8.length:Int) then(abU (iter (xQ a0) FU (0,(aaf ((a0.a8.length:Int)).toNat OH))) λ(v6:List fy)=>some (⟨v6⟩:aS)) else none
instance NC {a0:aS} {r:aS}:FC prog (Bh a0=some r) 82 [.agg (gu a0)] [.agg [.own 147 2 (r.a8.map dK) r.a8.length]]:=⟨λH=>by
 refine fI func82 ntmps82 ?_
 obtain⟨h,H⟩:=rq H
 refine nA (mkT (enc:=dK) (za:=OH) h (by rfl)) ?_
 refine aa H λv6 Hj H=>jB ⟨[(2,tP 1),(3,.v (.c (.w 2 v6.length)))],[(1,.var 26 [.nil]),(2,w147 v6)],3⟩ ?_ ?_
 .refine iT Hj (λq=>⟨[(2,tP 1),(3,.v (.c (.w 2 q.2.length))),(11,.v (.c (.d false (.l (a0.a8.map dK))))),(12,tI (a0.a8.length:Int)),(13,tI q.1)],[(1,.var 26 [.nil]),(2,w147 q.2)],3⟩) ?_
  rintro⟨v1,v2⟩ o H
  refine ad ?_
  refine cC H ?_ ?_<;>intro H
  .refine aa H λx7 hx7 H=>nA (xdT (enc:=dK) hx7) ?_
   refine zI (f4 10) ?_
   refine aa H λr8 q8 H=>zA (ca (hF:=Lt.h q8)) ?_
   refine aa H λx9 hx9 H=>zA (xwT hx9) ?_
   refine zB (an (aV (o:=4)) (bN (k:=25))) (fQ rfl (soT (enc:=dK) (a':=(⟨x7.f6,r8⟩:fy)) hx9)) bK ?_
   exact aN H
  exact aE H
 cases H
 exact bX⟩
def pM (a0:List bV):(Int×List bV)->Option (ct (Int×List bV) (List bV))
 |(v1,v2)=>bif ltB v1 (a0.length:Int) then(abU (ix a0 v1) λx7=>abU (fj x7.bb) λr8=>abU (ix v2 v1) λx9=>some (.next (WR (v1+1),(v2.set (v1).toNat (⟨r8⟩:bV))))) else(some (.done v2))
def mT (a0:List bV):Option (List bV):=
 bif qB 24 (a0.length:Int) (a0.length:Int) then(abU (iter (pM a0) FU (0,(aaf ((a0.length:Int)).toNat (⟨[]⟩:bV)))) λ(v6:List bV)=>some v6) else none
instance SD {a0:List bV} {r:List bV}:FC prog (mT a0=some r) 140 [aL (a0.map ee)] [.c (.own 119 1 (r.map ee) r.length)]:=⟨λH=>by
 refine fI func140 ntmps140 ?_
 obtain⟨h,H⟩:=rq H
 refine nA (mkT (enc:=ee) (za:=(⟨[]⟩:bV)) h (by rfl)) ?_
 refine aa H λv6 Hj H=>jB ⟨[(3,.v (.c (.w 0 v6.length)))],[(0,Sq v6)],1⟩ ?_ ?_
 .refine iT Hj (λq=>⟨[(3,.v (.c (.w 0 q.2.length))),(9,.v (.c (.d false (.l (a0.map ee))))),(10,tI (a0.length:Int)),(11,tI q.1)],[(0,Sq q.2)],1⟩) ?_
  rintro⟨v1,v2⟩ o H
  refine ad ?_
  refine cC H ?_ ?_<;>intro H
  .refine aa H λx7 hx7 H=>nA (xdT (enc:=ee) hx7) ?_
   refine aa H λr8 q8 H=>nA (ca (hF:=gK.h q8)) ?_
   refine aa H λx9 hx9 H=>nA (xwT hx9) ?_
   refine bG (aV (o:=2)) ?_
   refine bG (bN (k:=21)) ?_
   refine sA (soT (enc:=ee) (a':=(⟨r8⟩:bV)) hx9) ?_
   exact aN H
  exact aE H
 cases H
 exact bX⟩
def pL (a0:List ae):(Int×List ae)->Option (ct (Int×List ae) (List ae))
 |(v1,v2)=>bif ltB v1 (a0.length:Int) then(abU (ix a0 v1) λx7=>abU (fj x7.bb) λr8=>abU (ix v2 v1) λx9=>some (.next (WR (v1+1),(v2.set (v1).toNat (⟨x7.c8,r8⟩:ae))))) else(some (.done v2))
def kU (a0:List ae):Option (List ae):=
 bif qB 32 (a0.length:Int) (a0.length:Int) then(abU (iter (pL a0) FU (0,(aaf ((a0.length:Int)).toNat bT))) λ(v6:List ae)=>some v6) else none
instance Du {a0:List ae} {r:List ae}:FC prog (kU a0=some r) 220 [aL (a0.map aM)] [.c (.own 131 2 (r.map aM) r.length)]:=⟨λH=>by
 refine fI func220 ntmps220 ?_
 obtain⟨h,H⟩:=rq H
 refine nA (mkT (enc:=aM) (za:=bT) h (by rfl)) ?_
 refine aa H λv6 Hj H=>jB ⟨[(3,.v (.c (.w 0 v6.length)))],[(0,Kw v6)],1⟩ ?_ ?_
 .refine iT Hj (λq=>⟨[(3,.v (.c (.w 0 q.2.length))),(9,.v (.c (.d false (.l (a0.map aM))))),(10,tI (a0.length:Int)),(11,tI q.1)],[(0,Kw q.2)],1⟩) ?_
  rintro⟨v1,v2⟩ o H
  refine ad ?_
  refine cC H ?_ ?_<;>intro H
  .refine aa H λx7 hx7 H=>nA (xdT (enc:=aM) hx7) ?_
   refine zI (f4 10) ?_
   refine aa H λr8 q8 H=>zA (ca (hF:=gK.h q8)) ?_
   refine aa H λx9 hx9 H=>zA (xwT hx9) ?_
   refine zB (an (aV (o:=2)) (bN (k:=23))) (fQ rfl (soT (enc:=aM) (a':=(⟨x7.c8,r8⟩:ae)) hx9)) bK ?_
   exact aN H
  exact aE H
 cases H
 exact bX⟩
def lq (a0:bP):Option bP:=
 abU (sb a0.bJ) λr1=>some {a0 with bJ:=r1}
instance M2 {a0:bP} {r:bP}:FC prog (lq a0=some r) 139 [.agg (lE a0)] [.agg (qM [.o] (eN r))]:=gF func139 ntmps139
def rF (a0:bv):Option bv:=
 abU (fj a0.bb) λr1=>some {a0 with bb:=r1}
instance Uo {a0:bv} {r:bv}:FC prog (rF a0=some r) 222 [.agg (eQ a0)] [.agg (qM [.o] (pI r))]:=gF func222 ntmps222
def lH (a0:aH):Option Bool:=
 abU (cf a0.bh 1 8) λr1=>abU (bif r1 then(abU (cf a0.bg 0 5) λr3=>bif r3 then(abU (cf a0.ag 0 999999) λr4=>bif r4 then(abU (cf a0.aX 0 999999) λr5=>bif r5 then(abU (cf a0.bW 0 1000000000000) λr6=>some r6) else(some false)) else(some false)) else(some false)) else(some false)) λ(v2:Bool)=>some v2
instance Cg {a0:aH} :FC prog (lH a0=some r) 223 [.agg (cZ a0)] [.c (.d (.b r))]:=gF func223 ntmps223 (hb 6 2)
def Q5 (a0:Int) (a1:Int):Option Int:=
 abU (cf a1 1 1000000000000) λr1=>bif !r1 then(some 0) else(bif !eqB a1 0 then(abU (bif ltB (Int.tmod a0 a1) 0 then(some (WR ((Int.tmod a0 a1)+a1))) else(some (Int.tmod a0 a1))) λ(v2:Int)=>some v2) else none)
instance iMod_c {a0:Int} {r:Int}:FC prog (Q5 a0 a1=some r) 277 [aI a0,aI a1] [.c (.d (.i .i64 r))]:=⟨λH=>by
 refine fI func277 ntmps277 ?_
 refine aa H λr1 q1 H=>nA (ca (hF:=iK.h q1)) ?_
 refine cC H ?_ ?_<;>intro H
 .exact ao H
 obtain⟨h,H⟩:=rq H
 refine nA (ir rfl rfl rfl (ne0 h)) ?_
 refine aa H λv2 Hj H=>jA ⟨[(5,tI v2)],[],0⟩ ?_ ?_
 .exact az Hj
 cases H
 exact bX⟩
def p5 (a0:cP) (a1:Int):Option (cP×Bool):=
 abU (jt a0) λr1=>abU (bif !r1 then(some true) else(abU (cf a1 0 (WR (a0.cS-a0.er))) λr3=>some (!r3))) λ(v2:Bool)=>bif v2 then(some (a0,false)) else(some ({a0 with er:=WR (a0.er+a1)},true))
instance Sw {a0:cP} {r:cP×Bool}:FC prog (p5 a0 a1=some r) 301 [.agg (mf a0),aI a1] [.agg (qM [] (yQ r.1)),.c (.d (.b r.2))]:=gF func301 ntmps301 (hb 9 18)
def nr (a0:bv):Option Bool:=
 abU (bif eqB a0.cY 0 then(abU (cf a0.fU 1 100000) λr2=>bif r2 then(bif leB (a0.bb.length:Int) 60 then(abU (cf a0.jE 0 2147483646) λr3=>some r3) else(some false)) else(some false)) else(bif eqB a0.cY 1 then(abU (cf a0.fU 1 100000) λr4=>bif r4 then(bif leB (a0.bb.length:Int) 60 then(abU (cf a0.jE 0 2147483646) λr5=>some r5) else(some false)) else(some false)) else(some false))) λ(v1:Bool)=>some v1
instance Pd {a0:bv} :FC prog (nr a0=some r) 197 [.agg (eQ a0)] [.c (.d (.b r))]:=gF func197 ntmps197 (hb 6 2)
def qU (a0:aS):(Int×List Int)->Option (ct (Int×List Int) (List Int))
 |(v3,v4)=>bif ltB v3 (((aaf ((a0.a8.length:Int)).toNat (0:Int)).length:Nat):Int) then(abU (ix v4 v3) λx7=>some (.next (WR (v3+1),(v4.set (v3).toNat v3)))) else(some (.done v4))
def qV (a0:aS):(Int×List Int)->Option (ct (Int×List Int) (List Int))
 |(v8,v9)=>bif ltB v8 (((aaf ((a0.a8.length:Int)).toNat (0:Int)).length:Nat):Int) then(abU (ix v9 v8) λx12=>some (.next (WR (v8+1),(v9.set (v8).toNat v8)))) else(some (.done v9))
def rx (a0:aS) (a1:Int) (a2:Int):Option (List Int):=
 abU (cf a2 1 4) λr1=>bif !r1 then(some ([]:List Int)) else(bif eqB a2 1 then(abU (wc a0 a1) λr2=>bif ltB 0 (r2.length:Int) then(some r2) else(bif qB 8 (a0.a8.length:Int) (a0.a8.length:Int) then(abU (iter (qU a0) FU (0,(aaf ((a0.a8.length:Int)).toNat (0:Int)))) λ(v6:List Int)=>some v6) else none)) else(bif qB 8 (a0.a8.length:Int) (a0.a8.length:Int) then(abU (iter (qV a0) FU (0,(aaf ((a0.a8.length:Int)).toNat (0:Int)))) λ(v11:List Int)=>some v11) else none))
instance EW {a0:aS} {a2:Int} {r:List Int}:FC prog (rx a0 a1 a2=some r) 339 [.agg (gu a0),aI a1,aI a2] [.c (.own 3 1 (r.map eI) r.length)]:=⟨λH=>by
 refine fI func339 ntmps339 ?_
 refine aa H λr1 q1 H=>nA (ca (hF:=iK.h q1)) ?_
 refine cC H ?_ ?_<;>intro H
 .exact ao H
 refine cC H ?_ ?_<;>intro H
 .refine aa H λr2 q2 H=>nA (ca (hF:=ER.h q2)) ?_
  refine cC H ?_ ?_<;>intro H
  .exact ao H
  obtain⟨h,H⟩:=rq H
  refine nA (mkT (enc:=eI) (za:=0) h (by rfl)) ?_
  refine aa H λv6 Hj H=>jB ⟨[(8,.v (.c (.w 2 v6.length)))],[(2,w3 v6)],3⟩ ?_ ?_
  .refine iT Hj (λq=>⟨[(8,.v (.c (.w 2 q.2.length))),(28,tI (((aaf ((a0.a8.length:Int)).toNat (0:Int)).length:Nat):Int)),(29,tI q.1)],[(2,w3 q.2)],3⟩) ?_
   rintro⟨v3,v4⟩ o H
   refine ad ?_
   refine cC H ?_ ?_<;>intro H
   .refine aa H λx7 hx7 H=>nA (xwT hx7) ?_
    refine sA (soT (enc:=eI) (a':=v3) hx7) ?_
    exact aN H
   exact aE H
  exact ao H
 obtain⟨h,H⟩:=rq H
 refine nA (mkT (enc:=eI) (za:=0) h (by rfl)) ?_
 refine aa H λv11 Hj H=>jB ⟨[(8,.v (.c (.w 1 v11.length)))],[(1,w3 v11)],2⟩ ?_ ?_
 .refine iT Hj (λq=>⟨[(8,.v (.c (.w 1 q.2.length))),(28,tI (((aaf ((a0.a8.length:Int)).toNat (0:Int)).length:Nat):Int)),(29,tI q.1)],[(1,w3 q.2)],2⟩) ?_
  rintro⟨v8,v9⟩ o H
  refine ad ?_
  refine cC H ?_ ?_<;>intro H
  .refine aa H λx12 hx12 H=>nA (xwT hx12) ?_
   refine sA (soT (enc:=eI) (a':=v8) hx12) ?_
   exact aN H
  exact aE H
 cases H
 exact bX⟩
def tZ (a0:ab) (a1:Int):Option Bool:=
 abU (cf a1 0 (WR ((a0.bk.length:Int)-1))) λr1=>abU (bif r1 then(abU (cf a1 0 (WR ((a0.aF.length:Int)-1))) λr3=>some r3) else(some false)) λ(v2:Bool)=>some v2
instance WA {a0:ab} :FC prog (tZ a0 a1=some r) 54 [.agg (gv a0),aI a1] [.c (.d (.b r))]:=gF func54 ntmps54 (hb 11 4)
def wk (a0:ab) (a1:Int):Option Bool:=
 abU (cf a1 0 (WR ((a0.av.length:Int)-1))) λr1=>abU (bif r1 then(abU (cf a1 0 (WR ((a0.aF.length:Int)-1))) λr3=>some r3) else(some false)) λ(v2:Bool)=>some v2
instance Xx {a0:ab} :FC prog (wk a0 a1=some r) 56 [.agg (gv a0),aI a1] [.c (.d (.b r))]:=gF func56 ntmps56 (hb 11 4)
end Go.AM
