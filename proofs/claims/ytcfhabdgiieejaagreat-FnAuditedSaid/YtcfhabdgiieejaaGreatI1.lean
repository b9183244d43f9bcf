/- A part. -/
import Derived.Test.YtcfhabdgiieejaaGreatI0
set_option linter.unusedVariables false
open Option renaming bind->abJ
open List renaming replicate->aac,range->f5
namespace Go.AM
open Go.Proofs
open Tryz
attribute [local irreducible] AWN NS AWO AWR AWC DR DZ dQ f9 iter
set_option maxRecDepth 100000
set_option maxHeartbeats 40000000
variable {r:Bool} {a1:Int}
def kq (a0:cP):Option Int:=
 abJ (jh a0) λr1=>bif !r1 then(some 0) else(some (WR (a0.cV-a0.em)))
instance O2 {a0:cP} {r:Int}:FC prog (kq a0=some r) 58 [.agg (mV a0)] [.c (.d (.i .i64 r))]:=gF func58 ntmps58
def gV (a0:bR):Int->Option (cr (Int) (Bool))
 |v5=>bif ltB v5 (a0.bU.length:Int) then(abJ (ix a0.bU v5) λx6=>abJ (cf x6 0 3) λr7=>bif !r7 then(dn (some false)) else(some (.next (WR (v5+1))))) else(dn (abJ (oC a0.bU) λr8=>some r8))
def iQ (a0:bR):Option Bool:=
 abJ (cf a0.lW 1 1000) λr1=>abJ (bif !r1 then(some true) else(abJ (cf a0.lV 1 4) λr3=>bif !r3 then(some true) else(abJ (cf a0.eD 1 100000) λr4=>some (!r4)))) λ(v2:Bool)=>bif v2 then(some false) else(iter (gV a0) FU 0)
instance IU {a0:bR} :FC prog (iQ a0=some r) 231 [.agg (lr a0)] [.c (.d (.b r))]:=gF func231 ntmps231 (hb 9 20) (hl 0 24)
def n0 (a0:cG):Option Bool:=
 abJ (cf a0.fZ 0 2) λr1=>abJ (bif r1 then(abJ (cf a0.fm 0 4) λr3=>bif r3 then(abJ (cf a0.fo 0 3) λr4=>some r4) else(some false)) else(some false)) λ(v2:Bool)=>some v2
instance QP {a0:cG} :FC prog (n0 a0=some r) 232 [.agg (pR a0)] [.c (.d (.b r))]:=gF func232 ntmps232 (hb 6 2)
def kT (a0:aY):Int->Option (cr (Int) (Bool))
 |v3=>bif ltB v3 (a0.aC.length:Int) then(abJ (ix a0.aC v3) λx4=>abJ (bif !eqB x4.cW (WR ((WR (a0.bE-(a0.aC.length:Int)))+v3)) then(some true) else(some (ltB 60 (x4.a9.length:Int)))) λ(v5:Bool)=>bif v5 then(dn (some false)) else(some (.next (WR (v3+1))))) else(dn (some true))
def lu (a0:aY):Option Bool:=
 abJ (cf a0.bE 1 100000) λr1=>abJ (bif !r1 then(some true) else(some (ltB 8 (a0.aC.length:Int)))) λ(v2:Bool)=>bif v2 then(some false) else(bif ltB (WR (a0.bE-(a0.aC.length:Int))) 1 then(some false) else(iter (kT a0) FU 0))
instance vj {a0:aY} :FC prog (lu a0=some r) 233 [.agg (gq a0)] [.c (.d (.b r))]:=gF func233 ntmps233 (hb 10 15) (hl 0 27) (hb 38 43)
def iS (a0:ah):Option Int:=
 abJ (oD a0.ax.aC) λr1=>some r1
instance MC {a0:ah} {r:Int}:FC prog (iS a0=some r) 235 [.agg (bS a0)] [.c (.d (.i .i64 r))]:=gF func235 ntmps235
def jU (a0:aj):Int->Option (cr (Int) (Bool))
 |v5=>bif ltB v5 (a0.an.length:Int) then(abJ (ix a0.an v5) λx6=>abJ (bif ltB x6.aJ 0 then(some true) else(abJ (cf x6.dW 1 100000) λr8=>some (!r8))) λ(v7:Bool)=>bif v7 then(dn (some false)) else(abJ (bif ltB 0 v5 then(abJ (ix a0.an (WR (v5-1))) λx10=>some (leB x6.aJ x10.aJ)) else(some false)) λ(v9:Bool)=>bif v9 then(dn (some false)) else(some (.next (WR (v5+1)))))) else(dn (abJ (ot a0) λr11=>some (eqB (WR ((WR (a0.bY+a0.ey))+r11)) a0.gU)))
def g9 (a0:aj):Option Bool:=
 abJ (cf a0.gU 0 100000) λr1=>abJ (bif !r1 then(some true) else(abJ (cf a0.bY 0 a0.gU) λr3=>bif !r3 then(some true) else(abJ (cf a0.ey 0 a0.gU) λr4=>some (!r4)))) λ(v2:Bool)=>bif v2 then(some false) else(bif ltB 8 (a0.an.length:Int) then(some false) else(iter (jU a0) FU 0))
instance tQ {a0:aj} :FC prog (g9 a0=some r) 138 [.agg (cM a0)] [.c (.d (.b r))]:=gF func138 ntmps138 (hb 9 24) (hl 0 32) (hb 40 45) (hb 48 59)
def om (a0:aj) (a1:Int):Option Int:=
 abJ (fU a0 a1) λr1=>bif ltB r1 0 then(some 0) else(abJ (ix a0.an r1) λx2=>some x2.dW)
instance EO {a0:aj} {r:Int}:FC prog (om a0 a1=some r) 237 [.agg (cM a0),aI a1] [.c (.d (.i .i64 r))]:=gF func237 ntmps237
def sU (a0:ab) (a1:Int):Option Bool:=
 abJ (cf a1 0 (WR ((a0.aw.length:Int)-1))) λr1=>abJ (bif r1 then(abJ (cf a1 0 (WR ((a0.aA.length:Int)-1))) λr3=>some r3) else(some false)) λ(v2:Bool)=>some v2
instance XC {a0:ab} :FC prog (sU a0 a1=some r) 49 [.agg (fG a0),aI a1] [.c (.d (.b r))]:=gF func49 ntmps49 (hb 11 4)
def nW (a0:List bJ) (a1:List bJ):Int->Option (cr (Int) (Bool))
 |v1=>bif ltB v1 (a0.length:Int) then(abJ (ix a0 v1) λx2=>abJ (ix a1 v1) λx3=>abJ (qm x2.a9 x3.a9) λr4=>bif !r4 then(dn (some false)) else(some (.next (WR (v1+1))))) else(dn (some true))
def tO (a0:List bJ) (a1:List bJ):Option Bool:=
 bif ltB (a1.length:Int) (a0.length:Int) then(some false) else(iter (nW a0 a1) FU 0)
instance WA {a0:List bJ} {a1:List bJ} :FC prog (tO a0 a1=some r) 103 [aL (a0.map dN),aL (a1.map dN)] [.c (.d (.b r))]:=gF func103 ntmps103 (hl 0 13)
def qv (a0:ab) (a1:Int):Option Bool:=
 abJ (cf a1 0 (WR ((a0.bG.length:Int)-1))) λr1=>abJ (bif r1 then(abJ (cf a1 0 (WR ((a0.aA.length:Int)-1))) λr3=>some r3) else(some false)) λ(v2:Bool)=>some v2
instance WF {a0:ab} :FC prog (qv a0 a1=some r) 55 [.agg (fG a0),aI a1] [.c (.d (.b r))]:=gF func55 ntmps55 (hb 11 4)
def pT (a0:ah) (a1:Int):Option Int:=
 abJ (Ue a1 0) λr1=>abJ (Nf r1 (a0.aH.length:Int)) λr2=>bif eF a0.aH 0 r2 then(abJ (uT (a0.aH.take (r2).toNat)) λr3=>some r3) else none
instance Si {a0:ah} {r:Int}:FC prog (pT a0 a1=some r) 104 [.agg (bS a0),aI a1] [.c (.d (.i .i64 r))]:=gF func104 ntmps104
def xT (a0:aS):(Int×List fc)->Option (cr (Int×List fc) (List fc))
 |(v1,v2)=>bif ltB v1 (a0.bb.length:Int) then(abJ (ix a0.bb v1) λx7=>abJ (sj x7.cQ) λr8=>abJ (ix v2 v1) λx9=>some (.next (WR (v1+1),(v2.set (v1).toNat (⟨x7.fZ,r8⟩:fc))))) else(some (.done v2))
def Bc (a0:aS):Option aS:=
 bif pA 32 (a0.bb.length:Int) (a0.bb.length:Int) then(abJ (iter (xT a0) FU (0,(aac ((a0.bb.length:Int)).toNat Kf))) λ(v6:List fc)=>some (⟨v6⟩:aS)) else none
instance ZY {a0:aS} {r:aS}:FC prog (Bc a0=some r) 89 [.agg (ge a0)] [.agg [.own 155 2 (r.bb.map eO) r.bb.length]]:=⟨λH=>by
 refine fI func89 ntmps89 ?_
 obtain⟨h,H⟩:=rq H
 refine nA (mkT (enc:=eO) (za:=Kf) h (by rfl)) ?_
 refine aa H λv6 Hj H=>jB ⟨[(2,tP 1),(3,.v (.c (.w 2 v6.length)))],[(1,.var 26 [.nil]),(2,w155 v6)],3⟩ ?_ ?_
 .refine iT Hj (λq=>⟨[(2,tP 1),(3,.v (.c (.w 2 q.2.length))),(11,.v (.c (.d false (.l (a0.bb.map eO))))),(12,tI (a0.bb.length:Int)),(13,tI q.1)],[(1,.var 26 [.nil]),(2,w155 q.2)],3⟩) ?_
  rintro⟨v1,v2⟩ o H
  refine ad ?_
  refine cC H ?_ ?_<;>intro H
  .refine aa H λx7 hx7 H=>nA (xdT (enc:=eO) hx7) ?_
   refine zI (f5 10) ?_
   refine aa H λr8 q8 H=>zA (ca (hF:=K5.h q8)) ?_
   refine aa H λx9 hx9 H=>zA (xwT hx9) ?_
   refine zB (am (bv (o:=4)) (bH (k:=25))) (fg rfl (soT (enc:=eO) (a':=(⟨x7.fZ,r8⟩:fc)) hx9)) bC ?_
   exact aN H
  exact aE H
 cases H
 exact dM⟩
def pw (a0:List bJ):(Int×List bJ)->Option (cr (Int×List bJ) (List bJ))
 |(v1,v2)=>bif ltB v1 (a0.length:Int) then(abJ (ix a0 v1) λx7=>abJ (eU x7.a9) λr8=>abJ (ix v2 v1) λx9=>some (.next (WR (v1+1),(v2.set (v1).toNat (⟨r8⟩:bJ))))) else(some (.done v2))
def mH (a0:List bJ):Option (List bJ):=
 bif pA 24 (a0.length:Int) (a0.length:Int) then(abJ (iter (pw a0) FU (0,(aac ((a0.length:Int)).toNat (⟨[]⟩:bJ)))) λ(v6:List bJ)=>some v6) else none
instance Ss {a0:List bJ} {r:List bJ}:FC prog (mH a0=some r) 172 [aL (a0.map dN)] [.c (.own 152 1 (r.map dN) r.length)]:=⟨λH=>by
 refine fI func172 ntmps172 ?_
 obtain⟨h,H⟩:=rq H
 refine nA (mkT (enc:=dN) (za:=(⟨[]⟩:bJ)) h (by rfl)) ?_
 refine aa H λv6 Hj H=>jB ⟨[(3,.v (.c (.w 0 v6.length)))],[(0,Sd v6)],1⟩ ?_ ?_
 .refine iT Hj (λq=>⟨[(3,.v (.c (.w 0 q.2.length))),(9,.v (.c (.d false (.l (a0.map dN))))),(10,tI (a0.length:Int)),(11,tI q.1)],[(0,Sd q.2)],1⟩) ?_
  rintro⟨v1,v2⟩ o H
  refine ad ?_
  refine cC H ?_ ?_<;>intro H
  .refine aa H λx7 hx7 H=>nA (xdT (enc:=dN) hx7) ?_
   refine aa H λr8 q8 H=>nA (ca (hF:=gx.h q8)) ?_
   refine aa H λx9 hx9 H=>nA (xwT hx9) ?_
   refine bL (bv (o:=2)) ?_
   refine bL (bH (k:=21)) ?_
   refine sA (soT (enc:=dN) (a':=(⟨r8⟩:bJ)) hx9) ?_
   exact aN H
  exact aE H
 cases H
 exact dM⟩
def pu (a0:List ae):(Int×List ae)->Option (cr (Int×List ae) (List ae))
 |(v1,v2)=>bif ltB v1 (a0.length:Int) then(abJ (ix a0 v1) λx7=>abJ (eU x7.a9) λr8=>abJ (ix v2 v1) λx9=>some (.next (WR (v1+1),(v2.set (v1).toNat (⟨x7.cW,r8⟩:ae))))) else(some (.done v2))
def kG (a0:List ae):Option (List ae):=
 bif pA 32 (a0.length:Int) (a0.length:Int) then(abJ (iter (pu a0) FU (0,(aac ((a0.length:Int)).toNat bT))) λ(v6:List ae)=>some v6) else none
instance Dl {a0:List ae} {r:List ae}:FC prog (kG a0=some r) 275 [aL (a0.map aM)] [.c (.own 100 2 (r.map aM) r.length)]:=⟨λH=>by
 refine fI func275 ntmps275 ?_
 obtain⟨h,H⟩:=rq H
 refine nA (mkT (enc:=aM) (za:=bT) h (by rfl)) ?_
 refine aa H λv6 Hj H=>jB ⟨[(3,.v (.c (.w 0 v6.length)))],[(0,J9 v6)],1⟩ ?_ ?_
 .refine iT Hj (λq=>⟨[(3,.v (.c (.w 0 q.2.length))),(9,.v (.c (.d false (.l (a0.map aM))))),(10,tI (a0.length:Int)),(11,tI q.1)],[(0,J9 q.2)],1⟩) ?_
  rintro⟨v1,v2⟩ o H
  refine ad ?_
  refine cC H ?_ ?_<;>intro H
  .refine aa H λx7 hx7 H=>nA (xdT (enc:=aM) hx7) ?_
   refine zI (f5 10) ?_
   refine aa H λr8 q8 H=>zA (ca (hF:=gx.h q8)) ?_
   refine aa H λx9 hx9 H=>zA (xwT hx9) ?_
   refine zB (am (bv (o:=2)) (bH (k:=23))) (fg rfl (soT (enc:=aM) (a':=(⟨x7.cW,r8⟩:ae)) hx9)) bC ?_
   exact aN H
  exact aE H
 cases H
 exact dM⟩
def kY (a0:bR):Option bR:=
 abJ (sj a0.bU) λr1=>some {a0 with bU:=r1}
instance MF {a0:bR} {r:bR}:FC prog (kY a0=some r) 171 [.agg (lr a0)] [.agg (qM [.o] (eH r))]:=gF func171 ntmps171
def eZ (a0:aj):Option aj:=
 abJ (fN a0.an) λr1=>some {a0 with an:=r1}
instance lA {a0:aj} {r:aj}:FC prog (eZ a0=some r) 95 [.agg (cM a0)] [.agg (qM [.o] (ct r))]:=gF func95 ntmps95
def rI (a0:bi):Option bi:=
 abJ (eU a0.a9) λr1=>some {a0 with a9:=r1}
instance Ug {a0:bi} {r:bi}:FC prog (rI a0=some r) 277 [.agg (ee a0)] [.agg (qM [.o] (pm r))]:=gF func277 ntmps277
def QR (a0:Int) (a1:Int):Option Int:=
 abJ (cf a1 1 1000000000000) λr1=>bif !r1 then(some 0) else(bif !eqB a1 0 then(abJ (bif ltB (Int.tmod a0 a1) 0 then(some (WR ((Int.tmod a0 a1)+a1))) else(some (Int.tmod a0 a1))) λ(v2:Int)=>some v2) else none)
instance iMod_c {a0:Int} {r:Int}:FC prog (QR a0 a1=some r) 285 [aI a0,aI a1] [.c (.d (.i .i64 r))]:=⟨λH=>by
 refine fI func285 ntmps285 ?_
 refine aa H λr1 q1 H=>nA (ca (hF:=jg.h q1)) ?_
 refine cC H ?_ ?_<;>intro H
 .exact ao H
 obtain⟨h,H⟩:=rq H
 refine nA (ir rfl rfl rfl (ne0 h)) ?_
 refine aa H λv2 Hj H=>jA ⟨[(5,tI v2)],[],0⟩ ?_ ?_
 .exact az Hj
 cases H
 exact dM⟩
def qT (a0:aS):(Int×List Int)->Option (cr (Int×List Int) (List Int))
 |(v3,v4)=>bif ltB v3 (((aac ((a0.bb.length:Int)).toNat (0:Int)).length:Nat):Int) then(abJ (ix v4 v3) λx7=>some (.next (WR (v3+1),(v4.set (v3).toNat v3)))) else(some (.done v4))
def qU (a0:aS):(Int×List Int)->Option (cr (Int×List Int) (List Int))
 |(v8,v9)=>bif ltB v8 (((aac ((a0.bb.length:Int)).toNat (0:Int)).length:Nat):Int) then(abJ (ix v9 v8) λx12=>some (.next (WR (v8+1),(v9.set (v8).toNat v8)))) else(some (.done v9))
def rC (a0:aS) (a1:Int) (a2:Int):Option (List Int):=
 abJ (cf a2 1 4) λr1=>bif !r1 then(some ([]:List Int)) else(bif eqB a2 1 then(abJ (wb a0 a1) λr2=>bif ltB 0 (r2.length:Int) then(some r2) else(bif pA 8 (a0.bb.length:Int) (a0.bb.length:Int) then(abJ (iter (qT a0) FU (0,(aac ((a0.bb.length:Int)).toNat (0:Int)))) λ(v6:List Int)=>some v6) else none)) else(bif pA 8 (a0.bb.length:Int) (a0.bb.length:Int) then(abJ (iter (qU a0) FU (0,(aac ((a0.bb.length:Int)).toNat (0:Int)))) λ(v11:List Int)=>some v11) else none))
instance Uf {a0:aS} {a2:Int} {r:List Int}:FC prog (rC a0 a1 a2=some r) 352 [.agg (ge a0),aI a1,aI a2] [.c (.own 3 1 (r.map eI) r.length)]:=⟨λH=>by
 refine fI func352 ntmps352 ?_
 refine aa H λr1 q1 H=>nA (ca (hF:=jg.h q1)) ?_
 refine cC H ?_ ?_<;>intro H
 .exact ao H
 refine cC H ?_ ?_<;>intro H
 .refine aa H λr2 q2 H=>nA (ca (hF:=EH.h q2)) ?_
  refine cC H ?_ ?_<;>intro H
  .exact ao H
  obtain⟨h,H⟩:=rq H
  refine nA (mkT (enc:=eI) (za:=0) h (by rfl)) ?_
  refine aa H λv6 Hj H=>jB ⟨[(8,.v (.c (.w 2 v6.length)))],[(2,w3 v6)],3⟩ ?_ ?_
  .refine iT Hj (λq=>⟨[(8,.v (.c (.w 2 q.2.length))),(28,tI (((aac ((a0.bb.length:Int)).toNat (0:Int)).length:Nat):Int)),(29,tI q.1)],[(2,w3 q.2)],3⟩) ?_
   rintro⟨v3,v4⟩ o H
   refine ad ?_
   refine cC H ?_ ?_<;>intro H
   .refine aa H λx7 hx7 H=>nA (xwT hx7) ?_
    refine sA (soT (enc:=eI) (a':=v3) hx7) ?_
    exact aN H
   exact aE H
  exact ao H
 obtain⟨h,H⟩:=rq H
 refine nA (mkT (enc:=eI) (za:=0) h (by rfl)) ?_
 refine aa H λv11 Hj H=>jB ⟨[(8,.v (.c (.w 1 v11.length)))],[(1,w3 v11)],2⟩ ?_ ?_
 .refine iT Hj (λq=>⟨[(8,.v (.c (.w 1 q.2.length))),(28,tI (((aac ((a0.bb.length:Int)).toNat (0:Int)).length:Nat):Int)),(29,tI q.1)],[(1,w3 q.2)],2⟩) ?_
  rintro⟨v8,v9⟩ o H
  refine ad ?_
  refine cC H ?_ ?_<;>intro H
  .refine aa H λx12 hx12 H=>nA (xwT hx12) ?_
   refine sA (soT (enc:=eI) (a':=v8) hx12) ?_
   exact aN H
  exact aE H
 cases H
 exact dM⟩
def lv (a0:aF):Option Bool:=
 abJ (cf a0.a8 1 8) λr1=>abJ (bif r1 then(abJ (cf a0.bh 0 5) λr3=>bif r3 then(abJ (cf a0.ag 0 999999) λr4=>bif r4 then(abJ (cf a0.aV 0 999999) λr5=>bif r5 then(abJ (cf a0.bV 0 1000000000000) λr6=>some r6) else(some false)) else(some false)) else(some false)) else(some false)) λ(v2:Bool)=>some v2
instance QQ {a0:aF} :FC prog (lv a0=some r) 307 [.agg (cU a0)] [.c (.d (.b r))]:=gF func307 ntmps307 (hb 6 2)
def pV (a0:cP) (a1:Int):Option (cP×Bool):=
 abJ (jh a0) λr1=>abJ (bif !r1 then(some true) else(abJ (cf a1 0 (WR (a0.cV-a0.em))) λr3=>some (!r3))) λ(v2:Bool)=>bif v2 then(some (a0,false)) else(some ({a0 with em:=WR (a0.em+a1)},true))
instance Sk {a0:cP} {r:cP×Bool}:FC prog (pV a0 a1=some r) 359 [.agg (mV a0),aI a1] [.agg (qM [] (yT r.1)),.c (.d (.b r.2))]:=gF func359 ntmps359 (hb 9 18)
def mX (a0:bi):Option Bool:=
 abJ (bif eqB a0.cZ 0 then(abJ (cf a0.fQ 1 100000) λr2=>bif r2 then(bif leB (a0.a9.length:Int) 60 then(abJ (cf a0.iK 0 2147483646) λr3=>some r3) else(some false)) else(some false)) else(bif eqB a0.cZ 1 then(abJ (cf a0.fQ 1 100000) λr4=>bif r4 then(bif leB (a0.a9.length:Int) 60 then(abJ (cf a0.iK 0 2147483646) λr5=>some r5) else(some false)) else(some false)) else(some false))) λ(v1:Bool)=>some v1
instance OY {a0:bi} :FC prog (mX a0=some r) 189 [.agg (ee a0)] [.c (.d (.b r))]:=gF func189 ntmps189 (hb 6 2)
def uR (a0:bi) (a1:bi):Option Bool:=
 abJ (bif eqB a0.cZ a1.cZ then(bif eqB a0.fQ a1.fQ then(bif eqB a0.iK a1.iK then(abJ (qm a0.a9 a1.a9) λr2=>some r2) else(some false)) else(some false)) else(some false)) λ(v1:Bool)=>some v1
instance Sl {a0:bi} {a1:bi} :FC prog (uR a0 a1=some r) 194 [.agg (ee a0),.agg (ee a1)] [.c (.d (.b r))]:=gF func194 ntmps194 (hb 10 4)
end Go.AM
