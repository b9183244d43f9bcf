/- A part. -/
import Derived.Test.YtbfpkbncbebapaaGreatI1
set_option linter.unusedVariables false
open Option renaming bind->YL
namespace Go.AM
open Go.Proofs
open Tryz
attribute [local irreducible] AWN NS AWO AWR AWC DR dQ gQ
set_option maxRecDepth 100000
set_option maxHeartbeats 40000000
def ml (a0:aM) (v2:Int) (x3:eH):Int->Option (cf (Int) (cf (Int) (Bool)))
 |v7=>bif ltB v7 (x3.bX.length:Int) then(YL (ix x3.bX v7) λx8=>YL (bif eqB x8 v2 then(some true) else(YL (rG a0 x8) λr10=>bif !r10 then(some true) else(YL (sX a0 x8 v2) λr11=>some (!r11)))) λ(v9:Bool)=>bif v9 then(dn (dn (some false))) else(some (.next (WR (v7+1))))) else(dn (some (.next (WR (v2+1)))))
def mj (a0:aM):Int->Option (cf (Int) (Bool))
 |v2=>bif ltB v2 (a0.aR.length:Int) then(YL (ix a0.aR v2) λx3=>YL (ct x3.fB 0 2) λr4=>YL (bif !r4 then(some true) else(YL (mE x3.bX) λr6=>some (!r6))) λ(v5:Bool)=>bif v5 then(dn (some false)) else(iter (ml a0 v2 x3) FU 0)) else(dn (some true))
def rz (a0:aM):Option Bool:=
 YL (ct (a0.aR.length:Int) 1 6) λr1=>bif !r1 then(some false) else(iter (mj a0) FU 0)
theorem EY {a0:aM} {r:Bool} (H:rz a0=some r):Fn prog 63 [.agg (gI a0)] [.c (.d (.b r))]:=by
 refine fI func63 ntmps63 ?_
 refine aa H λr1 q1 H=>nA (ca (hF:=bZ q1)) ?_
 refine cC H ?_ ?_<;>intro H
 .exact ao H
 refine iT H (λq=>⟨[(1,tP 0),(13,.v (.c (.d false (.l (a0.aR.map cQ))))),(14,tI (a0.aR.length:Int)),(15,tI q)],[(0,.var 26 [.d false (.l (a0.aR.map cQ))])],1⟩) ?_
 rintro v2 o H
 try dsimp only
 refine wI ?_
 refine cC H ?_ ?_<;>intro H
 .refine aa H λx3 hx3 H=>nA (xdT (enc:=cQ) hx3) ?_
  refine aa H λr4 q4 H=>nA (ca (hF:=bZ q4)) ?_
  refine aa H λv5 Hj H=>jR ⟨[(1,tP 0),(3,tI v2),(4,tP 1),(13,.v (.c (.d false (.l (a0.aR.map cQ))))),(14,tI (a0.aR.length:Int)),(15,tI v2),(29,tB v5)],[(0,.var 26 [.d false (.l (a0.aR.map cQ))]),(1,.var 158 (kM [.f] (K9 x3)))],2⟩ ?_ ?_
  .refine gC Hj ?_ ?_<;>intro H
   .exact ai H
   refine aa H λr6 q6 H=>nG (ca (hF:=vP q6)) ?_
   exact ai H
  refine cC H ?_ ?_<;>intro H
  .obtain⟨r0,Hd,rfl⟩:=dnE H
   refine f6 (λhq=>?_)
   have H:=Hd.trans (congrArg some hq)
   refine wI ?_
   exact ao H
  refine iT H (λq=>⟨[(1,tP 0),(3,tI v2),(13,.v (.c (.d false (.l (a0.aR.map cQ))))),(14,tI (a0.aR.length:Int)),(15,tI v2),(31,.v (.c (.d false (.l (x3.bX.map eI))))),(32,tI (x3.bX.length:Int)),(33,tI q)],[(0,.var 26 [.d false (.l (a0.aR.map cQ))])],1⟩) ?_
  rintro v7 o H
  try dsimp only
  refine wI ?_
  refine cC H ?_ ?_<;>intro H
  .refine aa H λx8 hx8 H=>nA (xdT (enc:=eI) hx8) ?_
   refine aa H λv9 Hj H=>jR ⟨[(1,tP 0),(3,tI v2),(13,.v (.c (.d false (.l (a0.aR.map cQ))))),(14,tI (a0.aR.length:Int)),(15,tI v2),(31,.v (.c (.d false (.l (x3.bX.map eI))))),(32,tI (x3.bX.length:Int)),(33,tI v7),(52,tB v9)],[(0,.var 26 [.d false (.l (a0.aR.map cQ))])],1⟩ ?_ ?_
   .refine gC Hj ?_ ?_<;>intro H
    .exact ai H
    refine aa H λr10 q10 H=>nG (ca (hF:=tu q10)) ?_
    refine gC H ?_ ?_<;>intro H
    .exact ai H
    refine aa H λr11 q11 H=>nG (ca (hF:=B6 q11)) ?_
    exact ai H
   refine cC H ?_ ?_<;>intro H
   .obtain⟨r0,Hd,rfl⟩:=dnE H
    refine f6 (λhq=>?_)
    have H:=Hd.trans (congrArg some hq)
    refine wI ?_
    obtain⟨r0,Hd,rfl⟩:=dnE H
    refine f6 (λhq=>?_)
    have H:=Hd.trans (congrArg some hq)
    refine wI ?_
    exact ao H
   cases H
   refine dy ?_
   exact wo
  obtain⟨r0,Hd,rfl⟩:=dnE H
  refine dF (λhq=>?_)
  have H:=Hd.trans (congrArg some hq)
  refine wI ?_
  cases H
  refine dy ?_
  exact wo
 obtain⟨r0,Hd,rfl⟩:=dnE H
 refine dF (λhq=>?_)
 have H:=Hd.trans (congrArg some hq)
 refine wI ?_
 exact ao H
def mh (a0:aD):Option Bool:=
 YL (pJ a0.c9) λr1=>YL (bif !r1 then(some true) else(YL (ct a0.bu 0 3) λr3=>bif !r3 then(some true) else(YL (ct a0.bg 0 5) λr4=>some (!r4)))) λ(v2:Bool)=>bif v2 then(some false) else(YL (ct a0.ag 0 999999) λr5=>YL (bif !r5 then(some true) else(YL (ct a0.a9 0 999999) λr7=>bif !r7 then(some true) else(YL (ct a0.aO 0 2147483646) λr8=>some (!r8)))) λ(v6:Bool)=>bif v6 then(some false) else(YL (bif eqB a0.bu 2 then(YL (gA a0.aO) λr10=>some (!r10)) else(bif eqB a0.bu 3 then(YL (gA a0.aO) λr11=>some (!r11)) else(some false))) λ(v9:Bool)=>bif v9 then(some false) else(YL (ct a0.f5 0 3) λr12=>YL (bif r12 then(YL (kz a0.bI) λr14=>some r14) else(some false)) λ(v13:Bool)=>some v13)))
theorem AX {a0:aD} {r:Bool} (H:mh a0=some r):Fn prog 128 [.agg (cI a0)] [.c (.d (.b r))]:=by
 refine fI func128 ntmps128 ?_
 refine aa H λr1 q1 H=>nA (ca (hF:=Dq q1)) ?_
 refine aa H λv2 Hj H=>jR ⟨[(1,tP 0),(18,tB v2)],[(0,.var 86 (kM [.f,.f] (db a0)))],1⟩ ?_ ?_
 .refine gC Hj ?_ ?_<;>intro H
  .exact ai H
  refine aa H λr3 q3 H=>nG (ca (hF:=bZ q3)) ?_
  refine gC H ?_ ?_<;>intro H
  .exact ai H
  refine aa H λr4 q4 H=>nG (ca (hF:=bZ q4)) ?_
  exact ai H
 refine cC H ?_ ?_<;>intro H
 .exact ao H
 refine aa H λr5 q5 H=>nA (ca (hF:=bZ q5)) ?_
 refine aa H λv6 Hj H=>jR ⟨[(1,tP 0),(34,tB v6)],[(0,.var 86 (kM [.f,.f] (db a0)))],1⟩ ?_ ?_
 .refine gC Hj ?_ ?_<;>intro H
  .exact ai H
  refine aa H λr7 q7 H=>nG (ca (hF:=bZ q7)) ?_
  refine gC H ?_ ?_<;>intro H
  .exact ai H
  refine aa H λr8 q8 H=>nG (ca (hF:=bZ q8)) ?_
  exact ai H
 refine cC H ?_ ?_<;>intro H
 .exact ao H
 refine aa H λv9 Hj H=>jR ⟨[(1,tP 0),(48,tB v9)],[(0,.var 86 (kM [.f,.f] (db a0)))],1⟩ ?_ ?_
 .refine gC Hj ?_ ?_<;>intro H
  .refine aa H λr10 q10 H=>nG (ca (hF:=iv q10)) ?_
   exact ai H
  refine gC H ?_ ?_<;>intro H
  .refine aa H λr11 q11 H=>nG (ca (hF:=iv q11)) ?_
   exact ai H
  exact ai H
 refine cC H ?_ ?_<;>intro H
 .exact ao H
 refine aa H λr12 q12 H=>nA (ca (hF:=bZ q12)) ?_
 refine aa H λv13 Hj H=>jR ⟨[(2,tB v13)],[],0⟩ ?_ ?_
 .refine gC Hj ?_ ?_<;>intro H
  .refine aa H λr14 q14 H=>nG (ca (hF:=yA q14)) ?_
   exact ai H
  exact ai H
 exact ao H
def fD (a0:ah):Int->Option (cf (Int) (Bool))
 |v23=>bif ltB v23 (a0.aw.az.length:Int) then(YL (ix a0.aw.az v23) λx24=>YL (ix a0.aA (WR (x24.cV-1))) λx25=>YL (vK x24.aS x25.aS) λr26=>bif !r26 then(dn (some false)) else(some (.next (WR (v23+1))))) else(dn (YL (mu a0) λr27=>YL (lG a0.bM) λr28=>some (leB r27 r28)))
def lF (a0:ah):Option Bool:=
 YL (fN a0.bC) λr1=>YL (bif !r1 then(some true) else(YL (ie a0.g7) λr3=>bif !r3 then(some true) else(YL (mn a0.gZ) λr4=>bif !r4 then(some true) else(YL (mr a0.aw) λr5=>bif !r5 then(some true) else(YL (jC a0.bM) λr6=>some (!r6)))))) λ(v2:Bool)=>bif v2 then(some false) else(YL (bif !eqB a0.bu 0 then(some (!eqB a0.bu 1)) else(some false)) λ(v7:Bool)=>bif v7 then(some false) else(YL (bif eqB a0.bu 1 then(YL (gA a0.aO) λr9=>bif !r9 then(some true) else(bif ltB 0 a0.bF then(YL (gA a0.aF.eP) λr10=>some (!r10)) else(some false))) else(bif ltB 0 a0.bF then(YL (gA a0.aF.eP) λr11=>some (!r11)) else(some false))) λ(v8:Bool)=>bif v8 then(some false) else(YL (ct a0.bF 0 999999) λr12=>YL (bif !r12 then(some true) else(YL (ct a0.ag 0 999999) λr14=>bif !r14 then(some true) else(YL (ct a0.a9 0 999999) λr15=>bif !r15 then(some true) else(YL (ct a0.aO 0 2147483646) λr16=>some (!r16))))) λ(v13:Bool)=>bif v13 then(some false) else(YL (ct a0.bg 0 5) λr17=>YL (bif !r17 then(some true) else(YL (ct a0.d9 0 5) λr19=>bif !r19 then(some true) else(YL (ct a0.d7 0 3) λr20=>some (!r20)))) λ(v18:Bool)=>bif v18 then(some false) else(YL (bif ltB 24 (a0.aA.length:Int) then(some true) else(YL (rF a0.aA) λr22=>bif !r22 then(some true) else(some (ltB (WR ((a0.aA.length:Int)+1)) a0.aw.bz)))) λ(v21:Bool)=>bif v21 then(some false) else(iter (fD a0) FU 0))))))
theorem zD {a0:ah} {r:Bool} (H:lF a0=some r):Fn prog 129 [.agg (bB a0)] [.c (.d (.b r))]:=by
 refine fI func129 ntmps129 ?_
 refine aa H λr1 q1 H=>nA (ca (hF:=qz q1)) ?_
 refine aa H λv2 Hj H=>jR ⟨[(1,tP 0),(32,tB v2)],[(0,.var 69 (kM [.f,.f,.f] (b8 a0)))],1⟩ ?_ ?_
 .refine gC Hj ?_ ?_<;>intro H
  .exact ai H
  refine aa H λr3 q3 H=>nG (ca (hF:=uh q3)) ?_
  refine gC H ?_ ?_<;>intro H
  .exact ai H
  refine aa H λr4 q4 H=>nG (ca (hF:=AY q4)) ?_
  refine gC H ?_ ?_<;>intro H
  .exact ai H
  refine aa H λr5 q5 H=>nG (ca (hF:=AZ q5)) ?_
  refine gC H ?_ ?_<;>intro H
  .exact ai H
  refine aa H λr6 q6 H=>nG (ca (hF:=o6 q6)) ?_
  exact ai H
 refine cC H ?_ ?_<;>intro H
 .exact ao H
 refine aa H λv7 Hj H=>jR ⟨[(1,tP 0),(40,tB v7)],[(0,.var 69 (kM [.f,.f,.f] (b8 a0)))],1⟩ ?_ ?_
 .refine gC Hj ?_ ?_<;>intro H
  .exact ai H
  exact ai H
 refine cC H ?_ ?_<;>intro H
 .exact ao H
 refine aa H λv8 Hj H=>jR ⟨[(1,tP 0),(61,tB v8)],[(0,.var 69 (kM [.f,.f,.f] (b8 a0)))],1⟩ ?_ ?_
 .refine gC Hj ?_ ?_<;>intro H
  .refine aa H λr9 q9 H=>nG (ca (hF:=iv q9)) ?_
   refine gC H ?_ ?_<;>intro H
   .exact ai H
   refine gC H ?_ ?_<;>intro H
   .refine aa H λr10 q10 H=>nG (ca (hF:=iv q10)) ?_
    exact ai H
   exact ai H
  refine gC H ?_ ?_<;>intro H
  .refine aa H λr11 q11 H=>nG (ca (hF:=iv q11)) ?_
   exact ai H
  exact ai H
 refine cC H ?_ ?_<;>intro H
 .exact ao H
 refine aa H λr12 q12 H=>nA (ca (hF:=bZ q12)) ?_
 refine aa H λv13 Hj H=>jR ⟨[(1,tP 0),(83,tB v13)],[(0,.var 69 (kM [.f,.f,.f] (b8 a0)))],1⟩ ?_ ?_
 .refine gC Hj ?_ ?_<;>intro H
  .exact ai H
  refine aa H λr14 q14 H=>nG (ca (hF:=bZ q14)) ?_
  refine gC H ?_ ?_<;>intro H
  .exact ai H
  refine aa H λr15 q15 H=>nG (ca (hF:=bZ q15)) ?_
  refine gC H ?_ ?_<;>intro H
  .exact ai H
  refine aa H λr16 q16 H=>nG (ca (hF:=bZ q16)) ?_
  exact ai H
 refine cC H ?_ ?_<;>intro H
 .exact ao H
 refine aa H λr17 q17 H=>nA (ca (hF:=bZ q17)) ?_
 refine aa H λv18 Hj H=>jR ⟨[(1,tP 0),(99,tB v18)],[(0,.var 69 (kM [.f,.f,.f] (b8 a0)))],1⟩ ?_ ?_
 .refine gC Hj ?_ ?_<;>intro H
  .exact ai H
  refine aa H λr19 q19 H=>nG (ca (hF:=bZ q19)) ?_
  refine gC H ?_ ?_<;>intro H
  .exact ai H
  refine aa H λr20 q20 H=>nG (ca (hF:=bZ q20)) ?_
  exact ai H
 refine cC H ?_ ?_<;>intro H
 .exact ao H
 refine aa H λv21 Hj H=>jR ⟨[(1,tP 0),(119,tB v21)],[(0,.var 69 (kM [.f,.f,.f] (b8 a0)))],1⟩ ?_ ?_
 .refine gC Hj ?_ ?_<;>intro H
  .exact ai H
  refine aa H λr22 q22 H=>nG (ca (hF:=xY q22)) ?_
  refine gC H ?_ ?_<;>intro H
  .exact ai H
  exact ai H
 refine cC H ?_ ?_<;>intro H
 .exact ao H
 refine iT H (λq=>⟨[(1,tP 0),(122,.v (.c (.d false (.l (a0.aw.az.map av))))),(123,tI (a0.aw.az.length:Int)),(124,tI q)],[(0,.var 69 (kM [.f,.f,.f] (b8 a0)))],1⟩) ?_
 rintro v23 o H
 try dsimp only
 refine wI ?_
 refine cC H ?_ ?_<;>intro H
 .refine aa H λx24 hx24 H=>nA (xdT (enc:=av) hx24) ?_
  refine dI ?_
  refine aa H λx25 hx25 H=>dA (xdT (enc:=cd) hx25) ?_
  refine aa H λr26 q26 H=>dA (ca (hF:=EX q26)) ?_
  refine wI ?_
  refine cC H ?_ ?_<;>intro H
  .obtain⟨r0,Hd,rfl⟩:=dnE H
   refine f6 (λhq=>?_)
   have H:=Hd.trans (congrArg some hq)
   refine wI ?_
   exact ao H
  cases H
  refine dy ?_
  exact wo
 obtain⟨r0,Hd,rfl⟩:=dnE H
 refine dF (λhq=>?_)
 have H:=Hd.trans (congrArg some hq)
 refine wI ?_
 refine dI ?_
 refine aa H λr27 q27 H=>dA (ca (hF:=xI q27)) ?_
 refine aa H λr28 q28 H=>dA (ca (hF:=zE q28)) ?_
 refine wI ?_
 exact ao H
def rE (a0:aX):Option aX:=
 YL (lj a0.az) λr1=>some (⟨a0.bz,r1⟩:aX)
theorem E7 {a0:aX} {r:aX} (H:rE a0=some r):Fn prog 124 [.agg (gz a0)] [.agg (qM [.o] (dY r))]:=by
 refine fI func124 ntmps124 ?_
 refine zI (List.range 7) ?_
 refine aa H λr1 q1 H=>zA (ca (hF:=uX q1)) ?_
 refine wA (spx 100490) ?_
 exact ao H
def ot (a0:aK):Option aK:=
 YL (lj a0.aF) λr1=>YL (lk a0.aQ) λr2=>some (⟨a0.bz,r1,r2⟩:aK)
theorem B7 {a0:aK} {r:aK} (H:ot a0=some r):Fn prog 177 [.agg (gj a0)] [.agg (qM [.o,.o] (b7 r))]:=by
 refine fI func177 ntmps177 ?_
 refine zI (List.range 10) ?_
 refine aa H λr1 q1 H=>zA (ca (hF:=uX q1)) ?_
 refine aa H λr2 q2 H=>zA (ca (hF:=uY q2)) ?_
 refine wA (spx 100492) ?_
 exact ao H
def um (a0:aC):Option aC:=
 YL (pM a0.bp) λr1=>some {a0 with bp:=r1}
theorem Hk {a0:aC} {r:aC} (H:um a0=some r):Fn prog 178 [.agg (dR a0)] [.agg (qM [.o] (lh r))]:=by
 refine fI func178 ntmps178 ?_
 refine aa H λr1 q1 H=>nA (ca (hF:=Dv q1)) ?_
 exact ao H
def fH (a0:List am):(Int×List am)->Option (cf (Int×List am) (List am))
 |(v1,v2)=>bif ltB v1 (a0.length:Int) then(YL (ix a0 v1) λx7=>YL (pL x7) λr8=>YL (ix v2 v1) λx9=>some (.next (WR (v1+1),(v2.set (v1).toNat r8)))) else(some (.done v2))
def eK (a0:List am):Option (List am):=
 bif zQ 48 (a0.length:Int) (a0.length:Int) then(YL (iter (fH a0) FU (0,(List.replicate ((a0.length:Int)).toNat kP))) λ(v6:List am)=>some v6) else none
theorem kf {a0:List am} {r:List am} (H:eK a0=some r):FnV prog 110 [] [.v (.c (.d false (.l (a0.map cp)))),.v (.c (.fn 84))] [] (.v (.c (.w 210 r.length))) [(210,w89 r)]:=by
 refine fV func110 ntmps110 ?_
 obtain⟨h,H⟩:=rq H
 refine nA (mkT (enc:=cp) (za:=kP) h (by rfl)) ?_
 refine aa H λv6 Hj H=>jB ⟨[(5,.v (.c (.w 210 v6.length)))],[(210,w89 v6)],211⟩ ?_ ?_
 .refine iT Hj (λq=>⟨[(1,.v (.c (.fn 84))),(5,.v (.c (.w 210 q.2.length))),(11,.v (.c (.d false (.l (a0.map cp))))),(12,tI (a0.length:Int)),(13,tI q.1)],[(210,w89 q.2)],211⟩) ?_
  rintro⟨v1,v2⟩ o H
  try dsimp only
  refine wI ?_
  refine cC H ?_ ?_<;>intro H
  .refine aa H λx7 hx7 H=>nA (xdT (enc:=cp) hx7) ?_
   refine aa H λr8 q8 H=>nA (Nd rfl (ca (hF:=Du q8))) ?_
   refine aa H λx9 hx9 H=>nA (xwT hx9) ?_
   refine bH (aU (o:=212)) ?_
   refine bH (cj (k:=22)) ?_
   refine sA (soT (enc:=cp) (a':=r8) hx9) ?_
   cases H
   refine dy ?_
   exact wo
  cases H
  refine dF (λhq=>?_)
  cases hq
  refine wI ?_
  exact wo
 cases H
 exact bO
def kA (a0:Int) (a1:Int):Option Int:=
 YL (TS a1 2147483647) λr1=>some (Int.tmod (WR ((WR ((WR (a0*1000003))+r1))+13)) 2147483647)
theorem vO {a0:Int} {a1:Int} {r:Int} (H:kA a0 a1=some r):Fn prog 259 [aI a0,aI a1] [.c (.d (.i .i64 r))]:=by
 refine fI func259 ntmps259 ?_
 refine aa H λr1 q1 H=>nA (ca (hF:=VG q1)) ?_
 refine nA (ir rfl rfl rfl (by decide)) ?_
 exact ao H
def mw:aK->Option (cf (aK) (aK))
 |v17=>YL (bif ltB 0 (v17.aF.length:Int) then(YL (ix v17.aF 0) λx26=>bif eqB x26.cV v17.bz then(some (ltB (v17.aQ.length:Int) 24)) else(some false)) else(some false)) λ(v25:Bool)=>bif v25 then(YL (ix v17.aF 0) λx27=>bif dh 24 (v17.aQ++[(⟨x27.aS⟩:bm)]).length then(bif gK v17.aF 1 v17.aF.length then(some (.next (⟨WR (v17.bz+1),v17.aF.drop ((1:Int)).toNat,(v17.aQ++[(⟨x27.aS⟩:bm)])⟩:aK))) else none) else none) else(some (.done v17))
def kc (a0:a8) (a1:Int):Option Bool:=
 YL (jb a0) λr1=>YL (bif r1 then(YL (ct a1 0 (WR (a0.dP-1))) λr3=>bif r3 then(bif leB 0 a1 then(some (eqB (vi .i64 (yq .i64 a0.dm a1) 1) 1)) else none) else(some false)) else(some false)) λ(v2:Bool)=>some v2
theorem sY {a0:a8} {a1:Int} {r:Bool} (H:kc a0 a1=some r):Fn prog 16 [.agg (ic a0),aI a1] [.c (.d (.b r))]:=by
 refine fI func16 ntmps16 ?_
 refine aa H λr1 q1 H=>nA (ca (hF:=mq q1)) ?_
 refine aa H λv2 Hj H=>jR ⟨[(4,tB v2)],[],0⟩ ?_ ?_
 .refine gC Hj ?_ ?_<;>intro H
  .refine aa H λr3 q3 H=>nG (ca (hF:=bZ q3)) ?_
   refine gC H ?_ ?_<;>intro H
   .obtain⟨h,H⟩:=rq H
    refine nG (B8 h rfl rfl rfl rfl) ?_
    exact ai H
   exact ai H
  exact ai H
 exact ao H
def mx (a0:a8) (a1:Int) (a2:Bool):Option a8:=
 YL (jb a0) λr1=>YL (bif !r1 then(some true) else(YL (ct a1 0 (WR (a0.dP-1))) λr3=>some (!r3))) λ(v2:Bool)=>bif v2 then(some a0) else(YL (bif a2 then(bif leB 0 a1 then(some (bOr .i64 a0.dm (jY .i64 1 a1))) else none) else(bif leB 0 a1 then(some (pD .i64 a0.dm (jY .i64 1 a1))) else none)) λ(v4:Int)=>some (⟨a0.dP,v4⟩:a8))
theorem Ds {a0:a8} {a1:Int} {a2:Bool} {r:a8} (H:mx a0 a1 a2=some r):Fn prog 184 [.agg (ic a0),aI a1,aB a2] [.agg (qM [] (cM r))]:=by
 refine fI func184 ntmps184 ?_
 refine aa H λr1 q1 H=>nA (ca (hF:=mq q1)) ?_
 refine aa H λv2 Hj H=>jR ⟨[(1,tI a1),(2,tB a2),(3,tP 0),(6,tP 1),(17,tB v2)],[(0,.var 32 (kM [] (cM a0))),(1,.var 32 (kM [] (cM nH)))],2⟩ ?_ ?_
 .refine gC Hj ?_ ?_<;>intro H
  .exact ai H
  refine aa H λr3 q3 H=>nG (ca (hF:=bZ q3)) ?_
  exact ai H
 refine cC H ?_ ?_<;>intro H
 .exact ao H
 refine aa H λv4 Hj H=>jA ⟨[(3,tP 0),(6,tP 1)],[(0,.var 32 (kM [] (cM (⟨a0.dP,v4⟩:a8)))),(1,.var 32 (kM [] (cM nH)))],2⟩ ?_ ?_
 .refine cC Hj ?_ ?_<;>intro H
  .refine zI (List.range 7) ?_
   obtain⟨h,H⟩:=rq H
   refine zA (B8 h rfl rfl rfl rfl) ?_
   refine wA (spx 100673) ?_
   exact ai H
  refine zI (List.range 7) ?_
  obtain⟨h,H⟩:=rq H
  refine zA (B8 h rfl rfl rfl rfl) ?_
  refine wA (spx 100674) ?_
  exact ai H
 exact ao H
end Go.AM
