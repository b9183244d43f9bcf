/- A part. -/
import Derived.Test.YtcfhabdgiieejaaGreatI3
set_option linter.unusedVariables false
open Option renaming bind->abJ
open Int renaming tmod->abK
namespace Go.AM
open Go.Proofs
open Tryz
attribute [local irreducible] AWN NS AWO AWR AWC DR DZ dQ f9 iter
set_option maxRecDepth 100000
set_option maxHeartbeats 40000000
variable {a0 a1 r:Int}
def ka (a0:ab) (a1:Int):Option Bool:=
 abJ (ix a0.aw a1) λx1=>abJ (ix a0.aA a1) λx2=>abJ (nX x1) λr3=>abJ (bif r3 then(abJ (iL x2) λr5=>bif r5 then(abJ (ix a0.bG a1) λx6=>abJ (g9 x6) λr7=>bif r7 then(bif(eqB x1.dr.ID.eb x2.bF.ID.eb&&(eqB x1.dr.ID.bV x2.bF.ID.bV&&true)) then(bif eqB x1.dr.eX x2.bF.eX then(abJ (kZ a0.ev x1.bh) λr8=>bif r8 then(abJ (kZ a0.ev x2.bh) λr9=>bif r9 then(bif eqB x2.b9.aJ a1 then(abJ (ix a0.bG a1) λx10=>abJ (fJ x10 x2.b9) λr11=>some r11) else(some false)) else(some false)) else(some false)) else(some false)) else(some false)) else(some false)) else(some false)) else(some false)) λ(v4:Bool)=>some v4
instance K7 {a0:ab} {r:Bool}:FC prog (ka a0 a1=some r) 76 [.agg (fG a0),aI a1] [.c (.d (.b r))]:=gF func76 ntmps76 (hb 19 4)
def gW (a0:List aG):(Int×List aG)->Option (cr (Int×List aG) (List aG))
 |(v1,v2)=>bif ltB v1 (a0.length:Int) then(abJ (ix a0 v1) λx7=>abJ (lB x7) λr8=>abJ (ix v2 v1) λx9=>some (.next (WR (v1+1),(v2.set (v1).toNat r8)))) else(some (.done v2))
def fD (a0:List aG):Option (List aG):=
 bif pA 144 (a0.length:Int) (a0.length:Int) then(abJ (iter (gW a0) FU (0,(List.replicate ((a0.length:Int)).toNat yJ))) λ(v6:List aG)=>some v6) else none
instance zp {a0:List aG} {r:List aG}:FCV prog (fD a0=some r) 90 [] [.v (.c (.d false (.l (a0.map cF)))),.v (.c (.fn 91))] [] (.v (.c (.w 210 r.length))) [(210,w67 r)]:=⟨λH=>by
 refine fV func90 ntmps90 ?_
 obtain⟨h,H⟩:=rq H
 refine nA (mkT (enc:=cF) (za:=yJ) h (by rfl)) ?_
 refine aa H λv6 Hj H=>jB ⟨[(5,.v (.c (.w 210 v6.length)))],[(210,w67 v6)],211⟩ ?_ ?_
 .refine iT Hj (λq=>⟨[(1,.v (.c (.fn 91))),(5,.v (.c (.w 210 q.2.length))),(11,.v (.c (.d false (.l (a0.map cF))))),(12,tI (a0.length:Int)),(13,tI q.1)],[(210,w67 q.2)],211⟩) ?_
  rintro⟨v1,v2⟩ o H
  refine ad ?_
  refine cC H ?_ ?_<;>intro H
  .refine aa H λx7 hx7 H=>nA (xdT (enc:=cF) hx7) ?_
   refine aa H λr8 q8 H=>nA (Pr rfl (ca (hF:=GH.h q8))) ?_
   refine aa H λx9 hx9 H=>nA (xwT hx9) ?_
   refine bL (bv (o:=212)) ?_
   refine bL (bv (o:=213)) ?_
   refine bL (bH (k:=22)) ?_
   refine sA (soT (enc:=cF) (a':=r8) hx9) ?_
   exact aN H
  exact aE H
 cases H
 exact bj⟩
def gm (a0:List ah):(Int×List ah)->Option (cr (Int×List ah) (List ah))
 |(v1,v2)=>bif ltB v1 (a0.length:Int) then(abJ (ix a0 v1) λx7=>abJ (gz x7) λr8=>abJ (ix v2 v1) λx9=>some (.next (WR (v1+1),(v2.set (v1).toNat r8)))) else(some (.done v2))
def fk (a0:List ah):Option (List ah):=
 bif pA 288 (a0.length:Int) (a0.length:Int) then(abJ (iter (gm a0) FU (0,(List.replicate ((a0.length:Int)).toNat pP))) λ(v6:List ah)=>some v6) else none
instance xR {a0:List ah} {r:List ah}:FCV prog (fk a0=some r) 92 [] [.v (.c (.d false (.l (a0.map bS)))),.v (.c (.fn 93))] [] (.v (.c (.w 210 r.length))) [(210,w93 r)]:=⟨λH=>by
 refine fV func92 ntmps92 ?_
 obtain⟨h,H⟩:=rq H
 refine nA (mkT (enc:=bS) (za:=pP) h (by rfl)) ?_
 refine aa H λv6 Hj H=>jB ⟨[(5,.v (.c (.w 210 v6.length)))],[(210,w93 v6)],211⟩ ?_ ?_
 .refine iT Hj (λq=>⟨[(1,.v (.c (.fn 93))),(5,.v (.c (.w 210 q.2.length))),(11,.v (.c (.d false (.l (a0.map bS))))),(12,tI (a0.length:Int)),(13,tI q.1)],[(210,w93 q.2)],211⟩) ?_
  rintro⟨v1,v2⟩ o H
  refine ad ?_
  refine cC H ?_ ?_<;>intro H
  .refine aa H λx7 hx7 H=>nA (xdT (enc:=bS) hx7) ?_
   refine aa H λr8 q8 H=>nA (Pr rfl (ca (hF:=oA.h q8))) ?_
   refine aa H λx9 hx9 H=>nA (xwT hx9) ?_
   refine bL (bv (o:=212)) ?_
   refine bL (bv (o:=213)) ?_
   refine bL (bv (o:=214)) ?_
   refine bL (bH (k:=22)) ?_
   refine sA (soT (enc:=bS) (a':=r8) hx9) ?_
   exact aN H
  exact aE H
 cases H
 exact bj⟩
def gX (a0:List bM):(Int×List bM)->Option (cr (Int×List bM) (List bM))
 |(v1,v2)=>bif ltB v1 (a0.length:Int) then(abJ (ix a0 v1) λx7=>abJ (qt x7) λr8=>abJ (ix v2 v1) λx9=>some (.next (WR (v1+1),(v2.set (v1).toNat r8)))) else(some (.done v2))
def fE (a0:List bM):Option (List bM):=
 bif pA 176 (a0.length:Int) (a0.length:Int) then(abJ (iter (gX a0) FU (0,(List.replicate ((a0.length:Int)).toNat fM))) λ(v6:List bM)=>some v6) else none
instance zr {a0:List bM} {r:List bM}:FCV prog (fE a0=some r) 96 [] [.v (.c (.d false (.l (a0.map dB)))),.v (.c (.fn 97))] [] (.v (.c (.w 210 r.length))) [(210,w48 r)]:=⟨λH=>by
 refine fV func96 ntmps96 ?_
 obtain⟨h,H⟩:=rq H
 refine nA (mkT (enc:=dB) (za:=fM) h (by rfl)) ?_
 refine aa H λv6 Hj H=>jB ⟨[(5,.v (.c (.w 210 v6.length)))],[(210,w48 v6)],211⟩ ?_ ?_
 .refine iT Hj (λq=>⟨[(1,.v (.c (.fn 97))),(5,.v (.c (.w 210 q.2.length))),(11,.v (.c (.d false (.l (a0.map dB))))),(12,tI (a0.length:Int)),(13,tI q.1)],[(210,w48 q.2)],211⟩) ?_
  rintro⟨v1,v2⟩ o H
  refine ad ?_
  refine cC H ?_ ?_<;>intro H
  .refine aa H λx7 hx7 H=>nA (xdT (enc:=dB) hx7) ?_
   refine aa H λr8 q8 H=>nA (Pr rfl (ca (hF:=zF.h q8))) ?_
   refine aa H λx9 hx9 H=>nA (xwT hx9) ?_
   refine bL (bv (o:=212)) ?_
   refine bL (bH (k:=22)) ?_
   refine sA (soT (enc:=dB) (a':=r8) hx9) ?_
   exact aN H
  exact aE H
 cases H
 exact bj⟩
def rj (a0:ab) (a1:bM):Option ab:=
 bif leB 200 (a0.aT.length:Int) then(some {a0 with jT:=WR (a0.jT+1)}) else(abJ (qt a1) λr1=>bif da 176 (a0.aT++[r1]).length then(some {a0 with aT:=(a0.aT++[r1])}) else none)
instance Bf {a0:ab} {a1:bM} {r:ab}:FCV prog (rj a0 a1=some r) 132 (nI a0) [tP 200,.v (.agg (kM [.t] (jE a1)))] (nI r) (.tup []) []:=⟨λH=>by
 refine fV func132 ntmps132 ?_
 refine cC H ?_ ?_<;>intro H
 .cases H
  exact bj
 refine OB 0 17 0 [1,2,3,4,5,6,7,8,9,10,11] Try.follows (by kernel_rfl) (by kernel_rfl) rfl (by kernel_rfl) rfl rfl ?_
 refine wI ?_
 refine aa H λr1 q1 H=>zA (ca (hF:=(zF.h q1).frzs (by repeat (first|exact trivial|refine⟨?_,?_⟩|exact lm _|rfl)))) ?_
 obtain⟨h,H⟩:=rq H
 refine zB bC (fg rfl (apT (enc:=dB) (ys:=a0.aT) (zs:=[r1]) h)) bC ?_
 refine wA (spx 100008) ?_
 cases H
 exact nT⟩
def cO (a0:aG) (a1:List aF):Option aX:=
 abJ (lB a0) λr1=>abJ (fT a1) λr2=>some (⟨r1,r2⟩:aX)
instance qV {a0:aG} {a1:List aF} {r:aX}:FC prog (cO a0 a1=some r) 216 [.agg (cF a0),aL (a1.map cU)] [.agg (qM [.o,.o,.o] (dm r))]:=gF func216 ntmps216
def pp (a0:Int) (a1:Int):Option Int:=
 abJ (eT a0 [9,a1]) λr1=>bif eqB r1 0 then(some 1) else(some r1)
instance Xx:FC prog (pp a0 a1=some r) 192 [aI a0,aI a1] [.c (.d (.i .i64 r))]:=gF func192 ntmps192
def nD (a0:Int) (a1:Int) (a2:Int) (a3:List Int):Option Int:=
 abJ (rz a3) λr1=>bif da 8 ([a1,a2]++r1).length then(abJ (eT a0 ([a1,a2]++r1)) λr2=>some r2) else none
instance WH {a2:Int} {a3:List Int} :FC prog (nD a0 a1 a2 a3=some r) 282 [aI a0,aI a1,aI a2,aL (a3.map eU8)] [.c (.d (.i .i64 r))]:=⟨λH=>by
 refine fI func282 ntmps282 ?_
 refine aa H λr1 q1 H=>nA (ca (hF:=EG.h q1)) ?_
 obtain⟨h,H⟩:=rq H
 refine sA (apT (enc:=eI) (ys:=[a1,a2]) (zs:=r1) h) ?_
 refine aa H λr2 q2 H=>nA (ca (hF:=jW.h q2)) ?_
 cases H
 exact dM⟩
def xL (a0:Int) (r1:List Int):(Int×List Int)->Option (cr (Int×List Int) (List Int))
 |(v2,v3)=>bif ltB v2 (r1.length:Int) then(abJ (ix v3 v2) λx8=>abJ (eT a0 [v2]) λr9=>abJ (ix v3 v2) λx10=>some (.next (WR (v2+1),(v3.set (v2).toNat (IntKind.u8.wrap (x8+(IntKind.u8.wrap (abK r9 256)))))))) else(some (.done v3))
def A5 (a0:Int) (a1:List Int):Option (List Int):=
 abJ (eU a1) λr1=>abJ (iter (xL a0 r1) FU (0,r1)) λ(v7:List Int)=>some v7
instance ZV {a1:List Int} {r:List Int}:FC prog (A5 a0 a1=some r) 385 [aI a0,aL (a1.map eU8)] [.c (.own 5 1 (r.map eU8) r.length)]:=⟨λH=>by
 refine fI func385 ntmps385 ?_
 refine aa H λr1 q1 H=>nA (ca (hF:=gx.h q1)) ?_
 refine aa H λv7 Hj H=>jB ⟨[(5,.v (.c (.w 0 v7.length)))],[(0,w5 v7)],1⟩ ?_ ?_
 .refine iT Hj (λq=>⟨[(0,tI a0),(5,.v (.c (.w 0 q.2.length))),(10,tI (r1.length:Int)),(11,tI q.1)],[(0,w5 q.2)],1⟩) ?_
  rintro⟨v2,v3⟩ o H
  refine ad ?_
  refine cC H ?_ ?_<;>intro H
  .refine qR [0,1,2,3,4,5,6,7,8,9,10,11,12] (h:=?_)
   refine wkb ?_
   refine aa H λx8 hx8 H=>jD rfl (xwT hx8) ?_
   refine wkb ?_
   refine jD rfl (oe (he:=dF _ hx8)) ?_
   refine wkb ?_
   refine B9 rfl (bsx (bs rfl rfl rfl rfl rfl rfl rfl rfl) rfl) ?_
   refine wkb ?_
   refine aa H λr9 q9 H=>jD rfl (ca (hF:=jW.h q9)) ?_
   refine wkb ?_
   refine jD rfl (ir rfl rfl rfl (by decide)) ?_
   refine wkb ?_
   refine aa H λx10 hx10 H=>jD rfl (xwT hx10) ?_
   refine wkb ?_
   refine B8 (by kernel_rfl) rfl (by kernel_rfl) bC (fg rfl (soT (enc:=eU8) (a':=IntKind.u8.wrap (x8+(IntKind.u8.wrap (abK r9 256)))) hx10)) bC rfl ?_
   refine wkb ?_
   refine wI ?_
   exact aN H
  exact aE H
 cases H
 exact dM⟩
def rA (a0:ah) (a1:aj) (a2:Int):Option (ah×aj):=
 abJ (gz a0) λr1=>abJ (n9 r1 a2) λr2=>bif leB r2 0 then(abJ (eZ a1) λr3=>some (r1,r3)) else(abJ (Ue r2 r1.gT.eD) λr4=>abJ (pX a1 r1.b9 r4) λr5=>some ({r1 with b9:=r5.2},r5.1))
instance EI {a0:ah} {a1:aj} {a2:Int} {r:ah×aj}:FC prog (rA a0 a1 a2=some r) 304 [.agg (bS a0),.agg (cM a1),aI a2] [.agg (qM [.o,.o,.o] (c7 r.1)),.agg (qM [.o] (ct r.2))]:=gF func304 ntmps304 (hz 4) (hz 7) (hz 5)
def dK (a0:ah) (a1:List aF):Option bN:=
 abJ (gz a0) λr1=>abJ (fT a1) λr2=>some (⟨r1,r2⟩:bN)
instance QY {a0:ah} {a1:List aF} {r:bN}:FC prog (dK a0 a1=some r) 312 [.agg (bS a0),aL (a1.map cU)] [.agg (qM [.o,.o,.o,.o] (ef r))]:=gF func312 ntmps312
def mE (a0:Int) (a1:Int):Option Int:=
 abJ (eT a0 [1,a1]) λr1=>some (abK r1 1000000)
instance Di:FC prog (mE a0 a1=some r) 286 [aI a0,aI a1] [.c (.d (.i .i64 r))]:=gF func286 ntmps286
def nU (a0:dv) (a1:Int):Option Int:=
 abJ (eT 29 [a0.eb,a0.bV,a1]) λr1=>some r1
instance QN {a0:dv} :FC prog (nU a0 a1=some r) 356 [.agg (nR a0),aI a1] [.c (.d (.i .i64 r))]:=gF func356 ntmps356
def xK (a0:Int) (r1:List Int):(Int×List Int)->Option (cr (Int×List Int) (List Int))
 |(v2,v3)=>bif ltB v2 (r1.length:Int) then(abJ (ix v3 v2) λx8=>abJ (eT a0 [v2]) λr9=>abJ (ix v3 v2) λx10=>some (.next (WR (v2+1),(v3.set (v2).toNat (IntKind.u8.wrap (x8-(IntKind.u8.wrap (abK r9 256)))))))) else(some (.done v3))
def A4 (a0:Int) (a1:List Int):Option (List Int):=
 abJ (eU a1) λr1=>abJ (iter (xK a0 r1) FU (0,r1)) λ(v7:List Int)=>some v7
instance ZU {a1:List Int} {r:List Int}:FC prog (A4 a0 a1=some r) 191 [aI a0,aL (a1.map eU8)] [.c (.own 5 1 (r.map eU8) r.length)]:=⟨λH=>by
 refine fI func191 ntmps191 ?_
 refine aa H λr1 q1 H=>nA (ca (hF:=gx.h q1)) ?_
 refine aa H λv7 Hj H=>jB ⟨[(5,.v (.c (.w 0 v7.length)))],[(0,w5 v7)],1⟩ ?_ ?_
 .refine iT Hj (λq=>⟨[(0,tI a0),(5,.v (.c (.w 0 q.2.length))),(10,tI (r1.length:Int)),(11,tI q.1)],[(0,w5 q.2)],1⟩) ?_
  rintro⟨v2,v3⟩ o H
  refine ad ?_
  refine cC H ?_ ?_<;>intro H
  .refine qR [0,1,2,3,4,5,6,7,8,9,10,11,12] (h:=?_)
   refine wkb ?_
   refine aa H λx8 hx8 H=>jD rfl (xwT hx8) ?_
   refine wkb ?_
   refine jD rfl (oe (he:=dF _ hx8)) ?_
   refine wkb ?_
   refine B9 rfl (bsx (bs rfl rfl rfl rfl rfl rfl rfl rfl) rfl) ?_
   refine wkb ?_
   refine aa H λr9 q9 H=>jD rfl (ca (hF:=jW.h q9)) ?_
   refine wkb ?_
   refine jD rfl (ir rfl rfl rfl (by decide)) ?_
   refine wkb ?_
   refine aa H λx10 hx10 H=>jD rfl (xwT hx10) ?_
   refine wkb ?_
   refine B8 (by kernel_rfl) rfl (by kernel_rfl) bC (fg rfl (soT (enc:=eU8) (a':=IntKind.u8.wrap (x8-(IntKind.u8.wrap (abK r9 256)))) hx10)) bC rfl ?_
   refine wkb ?_
   refine wI ?_
   exact aN H
  exact aE H
 cases H
 exact dM⟩
def rE (a0:Int) (a1:Int) (a2:Int):Option Int:=
 abJ (cf a2 0 999999) λr1=>bif !r1 then(some (-1)) else(abJ (eT a0 [5,a1,a2]) λr2=>some (WR ((WR (1000000*(abK r2 1000)))+a2)))
instance EQ {a2:Int} :FC prog (rE a0 a1 a2=some r) 388 [aI a0,aI a1,aI a2] [.c (.d (.i .i64 r))]:=gF func388 ntmps388
def wc (a0:aG):Option aG:=
 abJ (bif eqB a0.bp 2 then(some 3) else(some a0.bp)) λ(v1:Int)=>abJ (lB {a0 with bp:=v1}) λr2=>some r2
instance IS {a0:aG} {r:aG}:FC prog (wc a0=some r) 179 [.agg (cF a0)] [.agg (qM [.o,.o] (gD r))]:=gF func179 ntmps179 (hC 5 (λ(v:Int) sl ob nx=>⟨sl,[(0,.var 67 (kM [.f,.f] (gD {a0 with bp:=v})))]++ob,nx⟩))
def pY (a0:ah) (a1:List Int):Option (ah×Bool):=
 abJ (gz a0) λr1=>abJ (bif leB 24 (a0.aH.length:Int) then(some true) else(some (ltB 60 (a1.length:Int)))) λ(v2:Bool)=>bif v2 then(some (r1,false)) else(abJ (eU a1) λr3=>bif da 24 (r1.aH++[(⟨r3⟩:bJ)]).length then(some ({r1 with aH:=(r1.aH++[(⟨r3⟩:bJ)])},true)) else none)
instance Dj {a0:ah} {a1:List Int} {r:ah×Bool}:FC prog (pY a0 a1=some r) 180 [.agg (bS a0),aL (a1.map eU8)] [.agg (qM [.o,.o,.o] (c7 r.1)),.c (.d (.b r.2))]:=⟨λH=>by
 refine fI func180 ntmps180 ?_
 refine aa H λr1 q1 H=>nA (ca (hF:=oA.h q1)) ?_
 refine aa H λv2 Hj H=>jR ⟨[(1,.v (.c (.d false (.l (a1.map eU8))))),(4,tP 1),(6,tP 5),(17,tB v2)],(oM [.w 2,.w 3,.w 4] 5 93 (c7 r1)++[(1,.var 93 (kM [.z,.z,.z] (c7 pP)))]),6⟩ ?_ ?_
 .exact az Hj
 refine cC H ?_ ?_<;>intro H
 .exact ao H
 refine zI (List.range 9) ?_
 refine aa H λr3 q3 H=>zA (ca (hF:=(gx.h q3).frzs (by repeat (first|exact trivial|refine⟨?_,?_⟩|exact lm _|rfl)))) ?_
 obtain⟨h,H⟩:=rq H
 refine zB bC (fg rfl (apT (enc:=dN) (ys:=r1.aH) (zs:=[(⟨r3⟩:bJ)]) h)) bC ?_
 refine wA (spx 100662) ?_
 cases H
 exact dM⟩
def kW (a0:Int) (a1:Int):Option Int:=
 abJ (eT 17 [a0,a1]) λr1=>some (abK (WR (r1*r1)) 2147483647)
instance MD:FC prog (kW a0 a1=some r) 279 [aI a0,aI a1] [.c (.d (.i .i64 r))]:=gF func279 ntmps279
def yX (a0:ah):Option ah:=
 abJ (gz a0) λr1=>some {r1 with aK:=cp,bI:=0,dT:=0,ga:=et,dP:=0}
instance K3 {a0:ah} {r:ah}:FC prog (yX a0=some r) 184 [.agg (bS a0)] [.agg (qM [.o,.o,.o] (c7 r))]:=gF func184 ntmps184
end Go.AM
