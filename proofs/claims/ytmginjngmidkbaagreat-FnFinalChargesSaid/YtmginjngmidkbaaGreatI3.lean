/- A part. -/
import Derived.Test.YtmginjngmidkbaaGreatI2
set_option linter.unusedVariables false
open Option renaming bind->abU
open List renaming range->f4
namespace Go.AM
open Go.Proofs
open Tryz
attribute [local irreducible] AWN NS AWO AWR AWC DR DZ dS gp iter
set_option maxRecDepth 100000
set_option maxHeartbeats 40000000
def ow (a0:aS) (v2:Int) (x3:fy):Int->Option (ct (Int) (ct (Int) (Bool)))
 |v7=>bif ltB v7 (x3.cF.length:Int) then(abU (ix x3.cF v7) λx8=>abU (bif eqB x8 v2 then(some true) else(abU (lr a0 x8) λr10=>bif !r10 then(some true) else(abU (uO a0 x8 v2) λr11=>some (!r11)))) λ(v9:Bool)=>bif v9 then(dn (dn (some false))) else(some (.next (WR (v7+1))))) else(dn (some (.next (WR (v2+1)))))
def ov (a0:aS):Int->Option (ct (Int) (Bool))
 |v2=>bif ltB v2 (a0.a8.length:Int) then(abU (ix a0.a8 v2) λx3=>abU (cf x3.f6 0 2) λr4=>abU (bif !r4 then(some true) else(abU (oJ x3.cF) λr6=>some (!r6))) λ(v5:Bool)=>bif v5 then(dn (some false)) else(iter (ow a0 v2 x3) FU 0)) else(dn (some true))
def tQ (a0:aS):Option Bool:=
 abU (cf (a0.a8.length:Int) 1 6) λr1=>bif !r1 then(some false) else(iter (ov a0) FU 0)
instance Ww {a0:aS} {r:Bool}:FC prog (tQ a0=some r) 44 [.agg (gu a0)] [.c (.d (.b r))]:=⟨λH=>by
 refine fI func44 ntmps44 ?_
 refine aa H λr1 q1 H=>nA (ca (hF:=iK.h q1)) ?_
 refine cC H ?_ ?_<;>intro H
 .exact ao H
 refine iT H (λq=>⟨[(1,tP 0),(13,.v (.c (.d false (.l (a0.a8.map dK))))),(14,tI (a0.a8.length:Int)),(15,tI q)],[(0,.var 26 [.d false (.l (a0.a8.map dK))])],1⟩) ?_
 rintro v2 o H
 refine ad ?_
 refine cC H ?_ ?_<;>intro H
 .refine aa H λx3 hx3 H=>nA (xdT (enc:=dK) hx3) ?_
  refine aa H λr4 q4 H=>nA (ca (hF:=iK.h q4)) ?_
  refine aa H λv5 Hj H=>jR ⟨[(1,tP 0),(3,tI v2),(4,tP 1),(13,.v (.c (.d false (.l (a0.a8.map dK))))),(14,tI (a0.a8.length:Int)),(15,tI v2),(29,tB v5)],[(0,.var 26 [.d false (.l (a0.a8.map dK))]),(1,.var 147 (kM [.f] (ZC x3)))],2⟩ ?_ ?_
  .refine gC Hj ?_ ?_<;>intro H
   .exact ai H
   refine aa H λr6 q6 H=>nG (ca (hF:=Fd.h q6)) ?_
   exact ai H
  refine cC H ?_ ?_<;>intro H
  .exact aQ H
  refine iT H (λq=>⟨[(1,tP 0),(3,tI v2),(13,.v (.c (.d false (.l (a0.a8.map dK))))),(14,tI (a0.a8.length:Int)),(15,tI v2),(31,.v (.c (.d false (.l (x3.cF.map eI))))),(32,tI (x3.cF.length:Int)),(33,tI q)],[(0,.var 26 [.d false (.l (a0.a8.map dK))])],1⟩) ?_
  rintro v7 o H
  refine ad ?_
  refine cC H ?_ ?_<;>intro H
  .refine aa H λx8 hx8 H=>nA (xdT (enc:=eI) hx8) ?_
   refine aa H λv9 Hj H=>jR ⟨[(1,tP 0),(3,tI v2),(13,.v (.c (.d false (.l (a0.a8.map dK))))),(14,tI (a0.a8.length:Int)),(15,tI v2),(31,.v (.c (.d false (.l (x3.cF.map eI))))),(32,tI (x3.cF.length:Int)),(33,tI v7),(52,tB v9)],[(0,.var 26 [.d false (.l (a0.a8.map dK))])],1⟩ ?_ ?_
   .refine gC Hj ?_ ?_<;>intro H
    .exact ai H
    refine aa H λr10 q10 H=>nG (ca (hF:=HU.h q10)) ?_
    refine gC H ?_ ?_<;>intro H
    .exact ai H
    refine aa H λr11 q11 H=>nG (ca (hF:=Dn.h q11)) ?_
    exact ai H
   refine cC H ?_ ?_<;>intro H
   .refine aR H λH=>?_
    exact aQ H
   exact aN H
  refine aR H λH=>?_
  exact aN H
 refine aR H λH=>?_
 cases H
 exact bX⟩
def ou (a0:aJ):Option Bool:=
 abU (oy a0.dq) λr1=>abU (bif !r1 then(some true) else(abU (cf a0.bi 0 3) λr3=>bif !r3 then(some true) else(abU (cf a0.bg 0 5) λr4=>some (!r4)))) λ(v2:Bool)=>bif v2 then(some false) else(abU (cf a0.ag 0 999999) λr5=>abU (bif !r5 then(some true) else(abU (cf a0.aX 0 999999) λr7=>bif !r7 then(some true) else(abU (cf a0.aZ 0 2147483646) λr8=>some (!r8)))) λ(v6:Bool)=>bif v6 then(some false) else(abU (bif eqB a0.bi 2 then(abU (gQ a0.aZ) λr10=>some (!r10)) else(bif eqB a0.bi 3 then(abU (gQ a0.aZ) λr11=>some (!r11)) else(some false))) λ(v9:Bool)=>bif v9 then(some false) else(abU (cf a0.fA 0 3) λr12=>abU (bif r12 then(abU (jQ a0.bY) λr14=>some r14) else(some false)) λ(v13:Bool)=>some v13)))
instance Q2 {a0:aJ} {r:Bool}:FC prog (ou a0=some r) 105 [.agg (c9 a0)] [.c (.d (.b r))]:=gF func105 ntmps105 (hb 7 18) (hb 23 34) (hb 38 48) (hb 52 2)
def gx (a0:ah):Int->Option (ct (Int) (Bool))
 |v23=>bif ltB v23 (a0.aw.aA.length:Int) then(abU (ix a0.aw.aA v23) λx24=>abU (ix a0.aG (WR (x24.c8-1))) λx25=>abU (xL x24.bb x25.bb) λr26=>bif !r26 then(dn (some false)) else(some (.next (WR (v23+1))))) else(dn (abU (jh a0) λr27=>abU (kD a0.bU) λr28=>some (leB r27 r28)))
def i7 (a0:ah):Option Bool:=
 abU (fK a0.bE) λr1=>abU (bif !r1 then(some true) else(abU (jg a0.gG) λr3=>bif !r3 then(some true) else(abU (ox a0.gr) λr4=>bif !r4 then(some true) else(abU (lG a0.aw) λr5=>bif !r5 then(some true) else(abU (jt a0.bU) λr6=>some (!r6)))))) λ(v2:Bool)=>bif v2 then(some false) else(abU (bif !eqB a0.bi 0 then(some (!eqB a0.bi 1)) else(some false)) λ(v7:Bool)=>bif v7 then(some false) else(abU (bif eqB a0.bi 1 then(abU (gQ a0.aZ) λr9=>bif !r9 then(some true) else(bif ltB 0 a0.bL then(abU (gQ a0.aK.fo) λr10=>some (!r10)) else(some false))) else(bif ltB 0 a0.bL then(abU (gQ a0.aK.fo) λr11=>some (!r11)) else(some false))) λ(v8:Bool)=>bif v8 then(some false) else(abU (cf a0.bL 0 999999) λr12=>abU (bif !r12 then(some true) else(abU (cf a0.ag 0 999999) λr14=>bif !r14 then(some true) else(abU (cf a0.aX 0 999999) λr15=>bif !r15 then(some true) else(abU (cf a0.aZ 0 2147483646) λr16=>some (!r16))))) λ(v13:Bool)=>bif v13 then(some false) else(abU (cf a0.bg 0 5) λr17=>abU (bif !r17 then(some true) else(abU (cf a0.dX 0 5) λr19=>bif !r19 then(some true) else(abU (cf a0.dP 0 3) λr20=>some (!r20)))) λ(v18:Bool)=>bif v18 then(some false) else(abU (bif ltB 24 (a0.aG.length:Int) then(some true) else(abU (tY a0.aG) λr22=>bif !r22 then(some true) else(some (ltB (WR ((a0.aG.length:Int)+1)) a0.aw.bB)))) λ(v21:Bool)=>bif v21 then(some false) else(iter (gx a0) FU 0))))))
instance tR {a0:ah} {r:Bool}:FC prog (i7 a0=some r) 106 [.agg (bZ a0)] [.c (.d (.b r))]:=gF func106 ntmps106 (hb 9 32) (hb 36 40) (hb 44 61) (hb 66 83) (hb 88 99) (hb 104 119) (hl 0 124)
def lL (a0:aJ):Option aJ:=
 abU (mU a0.bY) λr1=>some {a0 with bY:=r1}
instance zx {a0:aJ} {r:aJ}:FC prog (lL a0=some r) 84 [.agg (c9 a0)] [.agg (qM [.o,.o] (dF r))]:=gF func84 ntmps84
def gL (a0:ah):Option ah:=
 abU (lq a0.gG) λr1=>abU (mT a0.aG) λr2=>abU (lO a0.aw) λr3=>some {a0 with gG:=r1,aG:=r2,aw:=r3}
instance oI {a0:ah} {r:ah}:FC prog (gL a0=some r) 86 [.agg (bZ a0)] [.agg (qM [.o,.o,.o] (c7 r))]:=gF func86 ntmps86
def qv (a0:bS):Option bS:=
 abU (wi a0.cA) λr1=>some {a0 with cA:=r1}
instance zy {a0:bS} {r:bS}:FC prog (qv a0=some r) 89 [.agg (eb a0)] [.agg (qM [.o] (mN r))]:=gF func89 ntmps89
def mP (a1:List Int):(Int×Int)->Option (ct (Int×Int) (Int))
 |(v2,v3)=>bif ltB v3 (a1.length:Int) then(abU (ix a1 v3) λx7=>abU (mq v2 x7) λr8=>some (.next (r8,WR (v3+1)))) else(some (.done v2))
def fc (a0:Int) (a1:List Int):Option Int:=
 abU (mq 11 a0) λr1=>abU (iter (mP a1) FU (r1,0)) λ(v6:Int)=>abU (mq v6 a0) λr9=>some r9
instance ko {a0:Int} {a1:List Int} {r:Int}:FC prog (fc a0 a1=some r) 201 [aI a0,aL (a1.map eI)] [.c (.d (.i .i64 r))]:=gF func201 ntmps201 (hm 0 5 12) (he 0 5 12)
def gP (a0:a9) (a1:Int):(Int×List ae)->Option (ct (Int×List ae) (List ae))
 |(v2,v3)=>bif ltB v2 (a0.aA.length:Int) then(abU (ix a0.aA v2) λx7=>abU (bif leB a1 x7.c8 then(bif da 32 (v3++[x7]).length then(some (v3++[x7])) else none) else(some v3)) λ(v8:List ae)=>some (.next (WR (v2+1),v8))) else(some (.done v3))
def lg (a0:a9) (a1:Int):Option a9:=
 bif ltB a0.bB a1 then(abU (lO a0) λr1=>some r1) else(abU (iter (gP a0 a1) FU (0,([]:List ae))) λ(v6:List ae)=>abU (kU v6) λr9=>some (⟨a0.bB,r9⟩:a9))
instance MX {a0:a9} {a1:Int} {r:a9}:FC prog (lg a0 a1=some r) 302 [.agg (gH a0),aI a1] [.agg (qM [.o] (dx r))]:=⟨λH=>by
 refine fI func302 ntmps302 ?_
 refine cC H ?_ ?_<;>intro H
 .refine aa H λr1 q1 H=>nA (ca (hF:=mV.h q1)) ?_
  exact ao H
 refine aa H λv6 Hj H=>jB ⟨[(2,tP 0),(4,tP 1),(5,.v (.c (.w 2 v6.length)))],[(0,.var 71 (kM [.f] (dx a0))),(1,.var 71 (kM [.z] (dx kA))),(2,Kw v6 false true)],3⟩ ?_ ?_
 .refine iT Hj (λq=>⟨[(1,tI a1),(2,tP 0),(4,tP 1),(5,.v (.c (.w 2 q.2.length))),(16,.v (.c (.d false (.l (a0.aA.map aM))))),(17,tI (a0.aA.length:Int)),(18,tI q.1)],[(0,.var 71 (kM [.f] (dx a0))),(1,.var 71 (kM [.z] (dx kA))),(2,Kw q.2 false true)],3⟩) ?_ (by refine an (weak_g (o:=2)) ?_;exact wo)
  rintro⟨v2,v3⟩ o H
  refine ad ?_
  refine cC H ?_ ?_<;>intro H
  .refine aa H λx7 hx7 H=>nA (xdT (enc:=aM) hx7) ?_
   refine aa H λv8 Hj H=>jA ⟨[(1,tI a1),(2,tP 0),(4,tP 1),(5,.v (.c (.w 2 v8.length))),(16,.v (.c (.d false (.l (a0.aA.map aM))))),(17,tI (a0.aA.length:Int)),(18,tI v2)],[(0,.var 71 (kM [.f] (dx a0))),(1,.var 71 (kM [.z] (dx kA))),(2,Kw v8 false true)],3⟩ ?_ ?_
   .refine cC Hj ?_ ?_<;>intro H
    .obtain⟨h,H⟩:=rq H
     refine sA (apT (enc:=aM) (ys:=v3) (zs:=[x7]) h) ?_
     exact ai H
    exact ai H
   exact aN H
  exact aE H
 refine zI (f4 6) ?_
 refine aa H λr9 q9 H=>zA (ca (hF:=Du.h q9)) ?_
 refine wA (spx 100506) ?_
 cases H
 exact bX⟩
def li (a1:ae) (r1:aP):Int->Option (ct (Int) (Int))
 |v6=>abU (bif ltB v6 (r1.aK.length:Int) then(abU (ix r1.aK v6) λx11=>some (ltB x11.c8 a1.c8)) else(some false)) λ(v10:Bool)=>bif v10 then(some (.next (WR (v6+1)))) else(some (.done v6))
def lj:aP->Option (ct (aP) (aP))
 |v17=>abU (bif ltB 0 (v17.aK.length:Int) then(abU (ix v17.aK 0) λx26=>bif eqB x26.c8 v17.bB then(some (ltB (v17.be.length:Int) 24)) else(some false)) else(some false)) λ(v25:Bool)=>bif v25 then(abU (ix v17.aK 0) λx27=>bif da 24 (v17.be++[(⟨x27.bb⟩:bV)]).length then(bif eS v17.aK 1 v17.aK.length then(some (.next (⟨WR (v17.bB+1),v17.aK.drop ((1:Int)).toNat,(v17.be++[(⟨x27.bb⟩:bV)])⟩:aP))) else none) else none) else(some (.done v17))
def oC (a0:aP) (a1:ae):Option aP:=
 abU (mU a0) λr1=>abU (jQ a0) λr2=>abU (bif !r2 then(some true) else(bif ltB 60 (a1.bb.length:Int) then(some true) else(abU (cf a1.c8 a0.bB (WR ((WR (a0.bB+8))-1))) λr4=>bif !r4 then(some true) else(abU (Ag a0 a1.c8) λr5=>bif r5 then(some true) else(some (leB 24 (a0.be.length:Int))))))) λ(v3:Bool)=>bif v3 then(some r1) else(abU (iter (li a1 r1) FU 0) λ(v9:Int)=>bif da 32 (r1.aK++[bT]).length then(bif eS (r1.aK++[bT]) (WR (v9+1)) (r1.aK++[bT]).length then(bif eS (r1.aK++[bT]) v9 (r1.aK++[bT]).length then(abU (fj a1.bb) λr12=>abU (ix (cpD (r1.aK++[bT]) (WR (v9+1)).toNat ((r1.aK++[bT]).drop (v9).toNat)) v9) λx13=>abU (iter (lj) FU {r1 with aK:=((cpD (r1.aK++[bT]) (WR (v9+1)).toNat ((r1.aK++[bT]).drop (v9).toNat)).set (v9).toNat (⟨a1.c8,r12⟩:ae))}) λ(v24:aP)=>bif leB 24 (v24.be.length:Int) then(some {v24 with aK:=[]}) else(some v24)) else none) else none) else none)
instance Ci {a0:aP} {a1:ae} {r:aP}:FC prog (oC a0 a1=some r) 230 [.agg (hU a0),.agg (aM a1)] [.agg (qM [.d,.o] (b9 r))]:=⟨λH=>by
 refine fI func230 ntmps230 ?_
 refine aa H λr1 q1 H=>nA (ca (hF:=Dv.h q1)) ?_
 refine aa H λr2 q2 H=>nA (ca (hF:=Ac.h q2)) ?_
 refine aa H λv3 Hj H=>jR ⟨[(3,tP 1),(4,tP 2),(5,tP 5),(41,tB v3)],(oM [.w 3,.w 4] 5 91 (b9 r1)++[(1,.var 131 (kM [.f] (dh a1))),(2,.var 91 (kM [.z,.z] (b9 de)))]),6⟩ ?_ ?_
 .refine gC Hj ?_ ?_<;>intro H
  .exact ai H
  refine gC H ?_ ?_<;>intro H
  .exact ai H
  refine aa H λr4 q4 H=>nG (ca (hF:=iK.h q4)) ?_
  refine gC H ?_ ?_<;>intro H
  .exact ai H
  refine aa H λr5 q5 H=>nG (ca (hF:=Ju.h q5)) ?_
  exact az H
 refine cC H ?_ ?_<;>intro H
 .cases H
  refine dR (aV (o:=3)) ?_
  refine dR (cz (o:=2)) ?_
  exact bX
 refine aa H λv9 Hj H=>jB ⟨[(3,tP 1),(4,tP 2),(5,tP 5),(6,tI v9)],(oM [.w 3,.w 4] 5 91 (b9 r1)++[(1,.var 131 (kM [.f] (dh a1))),(2,.var 91 (kM [.z,.z] (b9 de)))]),6⟩ ?_ ?_
 .refine iT Hj (λq=>⟨[(3,tP 1),(4,tP 2),(5,tP 5),(6,tI q)],(oM [.w 3,.w 4] 5 91 (b9 r1)++[(1,.var 131 (kM [.f] (dh a1))),(2,.var 91 (kM [.z,.z] (b9 de)))]),6⟩) ?_
  rintro v6 o H
  refine ad ?_
  refine dI ?_
  refine aa H λv10 Hj H=>yO ⟨[(3,tP 1),(4,tP 2),(5,tP 5),(6,tI v6),(58,tB v10)],(oM [.w 3,.w 4] 5 91 (b9 r1)++[(1,.var 131 (kM [.f] (dh a1))),(2,.var 91 (kM [.z,.z] (b9 de)))]),6⟩ ?_ ?_
  .have H:=Hj
   refine wI ?_
   refine dC H ?_ ?_<;>intro H
   .refine aa H λx11 hx11 H=>dG (xwT hx11) ?_
    refine dG (oe (he:=ez _ hx11)) ?_
    refine wI ?_
    exact ai H
   refine wI ?_
   exact ai H
  refine wI ?_
  refine cC H ?_ ?_<;>intro H
  .refine wI ?_
   exact aN H
  exact aE H
 obtain⟨h,H⟩:=rq H
 refine sA (apT (enc:=aM) (ys:=r1.aK) (zs:=[bT]) h) ?_
 refine zI (f4 10) ?_
 obtain⟨hs20,H⟩:=rq H
 refine zA (Nh (enc:=aM) hs20 (by first|rfl|simp) rfl rfl rfl rfl) ?_
 obtain⟨hs21,H⟩:=rq H
 refine zA (Nh (enc:=aM) hs21 (by first|rfl|simp) rfl rfl rfl rfl) ?_
 refine zB bK (fQ rfl (cpsT (enc:=aM) (ys:=(r1.aK++[bT])) (zs:=(r1.aK++[bT]).drop (v9).toNat) (hs:=MC (enc:=aM) hs21 (by first|rfl|simp) rfl) hs20)) bK ?_
 refine zI (f4 11) ?_
 refine aa H λr12 q12 H=>zA (ca (hF:=gK.h q12)) ?_
 refine aa H λx13 hx13 H=>zA (xwT hx13) ?_
 refine zB (an (aV (o:=7)) (bN (k:=85))) (fQ rfl (soT (enc:=aM) (a':=(⟨a1.c8,r12⟩:ae)) hx13)) bK ?_
 refine aa H λv24 Hj H=>jB ⟨[(4,tP 2),(5,tP 5)],(oM [.t,.w 4] 5 91 (b9 v24)++[(2,.var 91 (kM [.z,.z] (b9 de)))]),6⟩ ?_ ?_
 .refine iT Hj (λq=>⟨[(4,tP 2),(5,tP 5)],(oM [.t,.w 4] 5 91 (b9 q)++[(2,.var 91 (kM [.z,.z] (b9 de)))]),6⟩) ?_ (by refine an (aV (o:=3)) ?_;refine an (bN (k:=65)) ?_;refine an (bN (k:=68)) ?_;refine an (bN (k:=73)) ?_;refine an (bN (k:=78)) ?_;refine an (cz (o:=5)) ?_;exact wo)
  rintro v17 o H
  refine ad ?_
  refine dI ?_
  refine aa H λv25 Hj H=>yO ⟨[(4,tP 2),(5,tP 5),(106,tB v25)],(oM [.t,.w 4] 5 91 (b9 v17)++[(2,.var 91 (kM [.z,.z] (b9 de)))]),6⟩ ?_ ?_
  .have H:=Hj
   refine wI ?_
   refine dC H ?_ ?_<;>intro H
   .refine aa H λx26 hx26 H=>dG (xdT (enc:=aM) hx26) ?_
    refine dC H ?_ ?_<;>intro H
    .refine wI ?_
     exact ai H
    refine wI ?_
    exact ai H
   refine wI ?_
   exact ai H
  refine wI ?_
  refine cC H ?_ ?_<;>intro H
  .refine zI (f4 12) ?_
   refine aa H λx27 hx27 H=>zA (xdT (enc:=aM) hx27) ?_
   obtain⟨h,H⟩:=rq H
   refine zB bK (fQ rfl (apT (enc:=ee) (ys:=v17.be) (zs:=[(⟨x27.bb⟩:bV)]) h)) bK ?_
   refine wA (spx 100520) ?_
   obtain⟨h,H⟩:=rq H
   refine nA (QM (enc:=aM) h (λ_=>rfl) rfl rfl rfl) ?_
   exact aN H
  exact aE H
 refine cC H ?_ ?_<;>intro H
 .cases H
  refine dR (MR (o:=2)) ?_
  exact bX
 cases H
 exact bX⟩
def mj (a0:am) (a1:cP):Option (am×cP):=
 abU (fg a0 a1) λr1=>bif !r1 then(abU (eK a0) λr2=>some (r2,a1)) else(abU (Jo a0 a1.aC a1.er) λr3=>bif !r3.2 then(abU (eK a0) λr4=>some (r4,a1)) else(some (r3.1,(⟨a1.aC,WR (a1.cS-a1.er),0⟩:cP))))
instance E4 {a0:am} {a1:cP} {r:am×cP}:FC prog (mj a0 a1=some r) 51 [.agg (cT a0),.agg (mf a1)] [.agg (qM [.o] (cq r.1)),.agg (qM [] (yQ r.2))]:=gF func51 ntmps51 (hz 2) (hz 5) (hz 8)
def xV (r4:cN×List Int):(Int×List aH)->Option (ct (Int×List aH) (List aH))
 |(v5,v6)=>bif ltB v5 (r4.2.length:Int) then(abU (ix r4.2 v5) λx9=>bif da 88 (v6++[{dQ with bh:=7,bg:=x9}]).length then(some (.next (WR (v5+1),(v6++[{dQ with bh:=7,bg:=x9}])))) else none) else(some (.done v6))
def t0 (a0:ah) (a1:am) (a2:aS):Option bM:=
 abU (lr a2 a0.bg) λr1=>abU (bif r1 then(abU (DM a2 a0.bg) λr3=>some r3) else(some 0)) λ(v2:Int)=>abU (tX {a0.gr with f6:=v2} a2) λr4=>abU (iter (xV r4) FU (0,([]:List aH))) λ(v8:List aH)=>some (⟨{a0 with gr:=r4.1},a1,v8,[]⟩:bM)
theorem GT {a0:ah} {a1:am} {a2:aS} {r:bM} (H:t0 a0 a1 a2=some r):FnV prog 236 [] [.v (.agg (kM [.t,.t,.t] (c7 a0))),.v (.agg (kM [.t] (cq a1))),.v (.agg [.d false (.l (a2.a8.map dK))])] [] (.v (.agg (kM [.t,.t,.t,.t,.n 210,.z] (bD {r with cA:=[]})))) [(210,n43 r.ja)]:=by
 refine fV func236 ntmps236 ?_
 refine aa H λr1 q1 H=>nA (ca (hF:=HU.h q1)) ?_
 refine aa H λv2 Hj H=>jA ⟨[(3,tP 210),(4,tP 211),(5,tP 212),(6,tP 213)],[(210,.var 75 (kM [.t,.t,.t] (c7 {a0 with gr:={a0.gr with f6:=v2}}))),(211,.var 57 (kM [.t] (cq a1))),(212,.var 26 [.d false (.l (a2.a8.map dK))]),(213,.var 195 (kM [.z,.z,.z,.z,.z,.z] (bD cj)))],214⟩ ?_ ?_
 .refine cC Hj ?_ ?_<;>intro H
  .refine aa H λr3 q3 H=>nA (ca (hF:=Q0.h q3)) ?_
   exact ai H
  exact ai H
 refine aa H λr4 q4 H=>nA (ca (hF:=GQ.h q4)) ?_
 refine aa H λv8 Hj H=>jB ⟨[(6,tP 213),(9,tP 216)],(oM [.t,.t,.t,.t,.n 217,.z] 216 195 (bD (⟨{a0 with gr:=r4.1},a1,v8,[]⟩:bM))++[(213,.var 195 (kM [.z,.z,.z,.z,.z,.z] (bD cj)))]),218⟩ ?_ ?_
 .refine iT Hj (λq=>⟨[(6,tP 213),(9,tP 216),(36,.v (.c (.w 214 r4.2.length))),(37,tI (r4.2.length:Int)),(38,tI q.1)],(oM [.t,.t,.t,.t,.n 217,.z] 216 195 (bD (⟨{a0 with gr:=r4.1},a1,q.2,[]⟩:bM))++[(213,.var 195 (kM [.z,.z,.z,.z,.z,.z] (bD cj))),(214,w3 r4.2)]),218⟩) ?_ (by refine an (dH (o:=216) (j:=34) 43 11 true) ?_;refine an (wB 217 (([]:List aH).length)) ?_;exact wo)
  rintro⟨v5,v6⟩ o H
  refine ad ?_
  refine cC H ?_ ?_<;>intro H
  .refine aa H λx9 hx9 H=>nA (xwT hx9) ?_
   refine nA (oe (he:=ez _ hx9)) ?_
   obtain⟨h,H⟩:=rq H
   refine sA (AJ (enc:=cZ) (ys:=v6) (zs:=[{dQ with bh:=7,bg:=x9}]) h (by first|exact List.cons_ne_nil _ _|simp) rfl (λ_=>rfl) (by first|rfl|simp) (.w rfl (by first|rfl|exact lm _|simp)) rfl rfl rfl rfl rfl rfl rfl rfl rfl rfl) ?_
   cases H
   refine tD ?_
   refine an (ec 217) ?_
   exact wo
  exact aE H
 cases H
 refine bF (wS 217 210) ?_
 exact cg
def p7 (a0:am) (a1:cP) (a2:Int):Option (am×cP):=
 abU (fg a0 a1) λr1=>bif !r1 then(abU (eK a0) λr2=>some (r2,a1)) else(abU (Bc a0 a1.aC a2) λr3=>bif ltB 100000 (WR (a1.cS+r3.2)) then(abU (eK a0) λr4=>some (r4,a1)) else(some (r3.1,{a1 with cS:=WR (a1.cS+r3.2)})))
instance Sz {a0:am} {a1:cP} {a2:Int} {r:am×cP}:FC prog (p7 a0 a1 a2=some r) 341 [.agg (cT a0),.agg (mf a1),aI a2] [.agg (qM [.o] (cq r.1)),.agg (qM [] (yQ r.2))]:=gF func341 ntmps341 (hz 2) (hz 5) (hz 7)
def qt (a0:a9) (a1:List Int):Option (a9×ae×Bool):=
 abU (lO a0) λr1=>abU (fj a1) λr2=>bif da 32 (r1.aA++[(⟨a0.bB,r2⟩:ae)]).length then(abU (lG (⟨WR (r1.bB+1),(r1.aA++[(⟨a0.bB,r2⟩:ae)])⟩:a9)) λr3=>bif !r3 then(abU (lO a0) λr4=>some (r4,bT,false)) else(abU (fj a1) λr5=>some ((⟨WR (r1.bB+1),(r1.aA++[(⟨a0.bB,r2⟩:ae)])⟩:a9),(⟨a0.bB,r5⟩:ae),true))) else none
theorem E8 {a0:a9} {a1:List Int} {r:a9×ae×Bool} (H:qt a0 a1=some r) (hflag:r.2.2=true):Fn prog 311 [.agg (gH a0),aL (a1.map eU8)] [.agg (qM [.o] (dx r.1)),.agg (qM [.o] (dh r.2.1)),.c (.d (.b r.2.2))]:=by
 refine fI func311 ntmps311 ?_
 refine aa H λr1 q1 H=>nA (ca (hF:=mV.h q1)) ?_
 refine zI (f4 11) ?_
 refine aa H λr2 q2 H=>zA (ca (hF:=(gK.h q2).frzs (by repeat (first|exact trivial|refine⟨?_,?_⟩|exact lm _|rfl)))) ?_
 obtain⟨h,H⟩:=rq H
 refine zB bK (fQ rfl (apT (enc:=aM) (ys:=r1.aA) (zs:=[(⟨a0.bB,r2⟩:ae)]) h)) bK ?_
 refine wA (spx 100597) ?_
 refine aa H λr3 q3 H=>nA (ca (hF:=vh.h q3)) ?_
 refine cC H ?_ ?_<;>intro H
 .refine aa H λr4 q4 H=>nA (ca (hF:=mV.h q4)) ?_
  cases H
  cases hflag
 refine zI (f4 9) ?_
 refine aa H λr5 q5 H=>zA (ca (hF:=gK.h q5)) ?_
 refine wA (spx 100596) ?_
 refine wA (spx 100595) ?_
 exact ao H
theorem E7 {a0:a9} {a1:List Int} {r:a9×ae×Bool} (H:qt a0 a1=some r) (hflag:r.2.2=false):Fn prog 311 [.agg (gH a0),aL (a1.map eU8)] [.agg (qM [.o] (dx r.1)),.agg (qM [.z] (dh r.2.1)),.c (.d (.b r.2.2))]:=by
 refine fI func311 ntmps311 ?_
 refine aa H λr1 q1 H=>nA (ca (hF:=mV.h q1)) ?_
 refine zI (f4 11) ?_
 refine aa H λr2 q2 H=>zA (ca (hF:=(gK.h q2).frzs (by repeat (first|exact trivial|refine⟨?_,?_⟩|exact lm _|rfl)))) ?_
 obtain⟨h,H⟩:=rq H
 refine zB bK (fQ rfl (apT (enc:=aM) (ys:=r1.aA) (zs:=[(⟨a0.bB,r2⟩:ae)]) h)) bK ?_
 refine wA (spx 100600) ?_
 refine aa H λr3 q3 H=>nA (ca (hF:=vh.h q3)) ?_
 refine cC H ?_ ?_<;>intro H
 .refine aa H λr4 q4 H=>nA (ca (hF:=mV.h q4)) ?_
  exact ao H
 refine zI (f4 9) ?_
 refine aa H λr5 q5 H=>zA (ca (hF:=gK.h q5)) ?_
 refine wA (spx 100599) ?_
 refine wA (spx 100598) ?_
 cases H
 cases hflag
end Go.AM
