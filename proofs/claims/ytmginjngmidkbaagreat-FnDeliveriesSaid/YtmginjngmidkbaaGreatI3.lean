/- A part. -/
import Derived.Test.YtmginjngmidkbaaGreatI2
set_option linter.unusedVariables false
open Option renaming bind->abU
namespace Go.AM
open Go.Proofs
open Tryz
attribute [local irreducible] AWN NS AWO AWR AWC DR ea gL
set_option maxRecDepth 100000
set_option maxHeartbeats 40000000
def jP (a0:ab) (a1:Int):Option Bool:=
 abU (ix a0.av a1) λx1=>abU (ix a0.aF a1) λx2=>abU (nW x1) λr3=>abU (bif r3 then(abU (iP x2) λr5=>bif r5 then(abU (ix a0.bG a1) λx6=>abU (gX x6) λr7=>bif r7 then(bif(eqB x1.df.ID.dN x2.bA.ID.dN&&(eqB x1.df.ID.bL x2.bA.ID.bL&&true)) then(bif eqB x1.df.eP x2.bA.eP then(abU (kP a0.eo x1.be) λr8=>bif r8 then(abU (kP a0.eo x2.be) λr9=>bif r9 then(bif eqB x2.bT.aG a1 then(abU (ix a0.bG a1) λx10=>abU (fR x10 x2.bT) λr11=>some r11) else(some false)) else(some false)) else(some false)) else(some false)) else(some false)) else(some false)) else(some false)) else(some false)) λ(v4:Bool)=>some v4
theorem yA {a0:ab} {a1:Int} {r:Bool} (H:jP a0 a1=some r):Fn prog 46 [.agg (iy a0),aI a1] [.c (.d (.b r))]:=by
 refine fI func46 ntmps46 ?_
 refine aa H λx1 hx1 H=>nA (xdT (enc:=cS) hx1) ?_
 refine aa H λx2 hx2 H=>nA (xdT (enc:=bU) hx2) ?_
 refine dI ?_
 refine aa H λr3 q3 H=>dA (ca (hF:=Dl q3)) ?_
 refine aa H λv4 Hj H=>fA ⟨[(4,tB v4)],[],0⟩ ?_ ?_
 .have H:=Hj
  refine wI ?_
  refine dC H ?_ ?_<;>intro H
  .refine aa H λr5 q5 H=>dG (ca (hF:=B0 q5)) ?_
   refine dC H ?_ ?_<;>intro H
   .refine aa H λx6 hx6 H=>dG (xdT (enc:=cN) hx6) ?_
    refine aa H λr7 q7 H=>dG (ca (hF:=tz q7)) ?_
    refine dC H ?_ ?_<;>intro H
    .refine dC H ?_ ?_<;>intro H
     .refine dC H ?_ ?_<;>intro H
      .refine aa H λr8 q8 H=>dG (ca (hF:=rT q8)) ?_
       refine dC H ?_ ?_<;>intro H
       .refine aa H λr9 q9 H=>dG (ca (hF:=rT q9)) ?_
        refine dC H ?_ ?_<;>intro H
        .refine dC H ?_ ?_<;>intro H
         .refine aa H λx10 hx10 H=>dG (xdT (enc:=cN) hx10) ?_
          refine aa H λr11 q11 H=>dG (ca (hF:=wq q11)) ?_
          refine wI ?_
          exact ai H
         refine wI ?_
         exact ai H
        refine wI ?_
        exact ai H
       refine wI ?_
       exact ai H
      refine wI ?_
      exact ai H
     refine wI ?_
     exact ai H
    refine wI ?_
    exact ai H
   refine wI ?_
   exact ai H
  refine wI ?_
  exact ai H
 refine wI ?_
 exact ao H
def lk (a0:aJ):Option aJ:=
 abU (mw a0.bV) λr1=>some {a0 with bV:=r1}
theorem Av {a0:aJ} {r:aJ} (H:lk a0=some r):Fn prog 84 [.agg (cS a0)] [.agg (qM [.o,.o] (dt r))]:=by
 refine fI func84 ntmps84 ?_
 refine aa H λr1 q1 H=>nA (ca (hF:=xA q1)) ?_
 exact ao H
def gD (a0:ah):Option ah:=
 abU (kO a0.gF) λr1=>abU (mu a0.aM) λr2=>abU (lr a0.ax) λr3=>some {a0 with gF:=r1,aM:=r2,ax:=r3}
theorem yx {a0:ah} {r:ah} (H:gD a0=some r):Fn prog 86 [.agg (bU a0)] [.agg (qM [.o,.o,.o] (ct r))]:=by
 refine fI func86 ntmps86 ?_
 refine aa H λr1 q1 H=>nA (ca (hF:=Ak q1)) ?_
 refine aa H λr2 q2 H=>nA (ca (hF:=xz q2)) ?_
 refine aa H λr3 q3 H=>nA (ca (hF:=Ax q3)) ?_
 exact ao H
def p9 (a0:bF):Option bF:=
 abU (wz a0.cz) λr1=>some {a0 with cz:=r1}
theorem Aw {a0:bF} {r:bF} (H:p9 a0=some r):Fn prog 89 [.agg (dr a0)] [.agg (qM [.o] (jt r))]:=by
 refine fI func89 ntmps89 ?_
 refine aa H λr1 q1 H=>nA (ca (hF:=Kl q1)) ?_
 exact ao H
def gT (a0:List aJ):(Int×List aJ)->Option (cq (Int×List aJ) (List aJ))
 |(v1,v2)=>bif ltB v1 (a0.length:Int) then(abU (ix a0 v1) λx7=>abU (lk x7) λr8=>abU (ix v2 v1) λx9=>some (.next (WR (v1+1),(v2.set (v1).toNat r8)))) else(some (.done v2))
def fN (a0:List aJ):Option (List aJ):=
 bif qk 144 (a0.length:Int) (a0.length:Int) then(abU (iter (gT a0) FU (0,(List.replicate ((a0.length:Int)).toNat zE))) λ(v6:List aJ)=>some v6) else none
theorem me {a0:List aJ} {r:List aJ} (H:fN a0=some r):FnV prog 83 [] [.v (.c (.d false (.l (a0.map cS)))),.v (.c (.fn 84))] [] (.v (.c (.w 210 r.length))) [(210,w93 r)]:=by
 refine fV func83 ntmps83 ?_
 obtain⟨h,H⟩:=rq H
 refine nA (mkT (enc:=cS) (za:=zE) h (by rfl)) ?_
 refine aa H λv6 Hj H=>jB ⟨[(5,.v (.c (.w 210 v6.length)))],[(210,w93 v6)],211⟩ ?_ ?_
 .refine iT Hj (λq=>⟨[(1,.v (.c (.fn 84))),(5,.v (.c (.w 210 q.2.length))),(11,.v (.c (.d false (.l (a0.map cS))))),(12,tI (a0.length:Int)),(13,tI q.1)],[(210,w93 q.2)],211⟩) ?_
  rintro⟨v1,v2⟩ o H
  refine ad ?_
  refine cC H ?_ ?_<;>intro H
  .refine aa H λx7 hx7 H=>nA (xdT (enc:=cS) hx7) ?_
   refine aa H λr8 q8 H=>nA (Qn rfl (ca (hF:=Av q8))) ?_
   refine aa H λx9 hx9 H=>nA (xwT hx9) ?_
   refine bQ (bb (o:=212)) ?_
   refine bQ (bb (o:=213)) ?_
   refine bQ (b7 (k:=22)) ?_
   refine sA (soT (enc:=cS) (a':=r8) hx9) ?_
   exact aN H
  exact aE H
 cases H
 exact cd
def mq (a1:List Int):(Int×Int)->Option (cq (Int×Int) (Int))
 |(v2,v3)=>bif ltB v3 (a1.length:Int) then(abU (ix a1 v3) λx7=>abU (lO v2 x7) λr8=>some (.next (r8,WR (v3+1)))) else(some (.done v2))
def eY (a0:Int) (a1:List Int):Option Int:=
 abU (lO 11 a0) λr1=>abU (iter (mq a1) FU (r1,0)) λ(v6:Int)=>abU (lO v6 a0) λr9=>some r9
theorem fL {a0:Int} {a1:List Int} {r:Int} (H:eY a0 a1=some r):Fn prog 201 [aI a0,aL (a1.map eI)] [.c (.d (.i .i64 r))]:=by
 refine fI func201 ntmps201 ?_
 refine aa H λr1 q1 H=>nA (ca (hF:=yy q1)) ?_
 refine aa H λv6 Hj H=>jB ⟨[(0,tI a0),(5,tI v6)],[],0⟩ ?_ ?_
 .refine iT Hj (λq=>⟨[(0,tI a0),(5,tI q.1),(10,.v (.c (.d false (.l (a1.map eI))))),(11,tI (a1.length:Int)),(12,tI q.2)],[],0⟩) ?_
  rintro⟨v2,v3⟩ o H
  refine ad ?_
  refine cC H ?_ ?_<;>intro H
  .refine aa H λx7 hx7 H=>nA (xdT (enc:=eI) hx7) ?_
   refine aa H λr8 q8 H=>nA (ca (hF:=yy q8)) ?_
   exact aN H
  exact aE H
 refine aa H λr9 q9 H=>nA (ca (hF:=yy q9)) ?_
 exact ao H
def gI (a0:aY) (a1:Int):(Int×List ae)->Option (cq (Int×List ae) (List ae))
 |(v2,v3)=>bif ltB v2 (a0.aw.length:Int) then(abU (ix a0.aw v2) λx7=>abU (bif leB a1 x7.cV then(bif c8 32 (v3++[x7]).length then(some (v3++[x7])) else none) else(some v3)) λ(v8:List ae)=>some (.next (WR (v2+1),v8))) else(some (.done v3))
def kG (a0:aY) (a1:Int):Option aY:=
 bif ltB a0.bB a1 then(abU (lr a0) λr1=>some r1) else(abU (iter (gI a0 a1) FU (0,([]:List ae))) λ(v6:List ae)=>abU (kx v6) λr9=>some (⟨a0.bB,r9⟩:aY))
theorem Ah {a0:aY} {a1:Int} {r:aY} (H:kG a0 a1=some r):Fn prog 302 [.agg (gz a0),aI a1] [.agg (qM [.o] (dE r))]:=by
 refine fI func302 ntmps302 ?_
 refine cC H ?_ ?_<;>intro H
 .refine aa H λr1 q1 H=>nA (ca (hF:=Ax q1)) ?_
  exact ao H
 refine aa H λv6 Hj H=>jB ⟨[(2,tP 0),(4,tP 1),(5,.v (.c (.w 2 v6.length)))],[(0,.var 71 (kM [.f] (dE a0))),(1,.var 71 (kM [.z] (dE jY))),(2,NH v6 false true)],3⟩ ?_ ?_
 .refine iT Hj (λq=>⟨[(1,tI a1),(2,tP 0),(4,tP 1),(5,.v (.c (.w 2 q.2.length))),(16,.v (.c (.d false (.l (a0.aw.map an))))),(17,tI (a0.aw.length:Int)),(18,tI q.1)],[(0,.var 71 (kM [.f] (dE a0))),(1,.var 71 (kM [.z] (dE jY))),(2,NH q.2 false true)],3⟩) ?_ (by refine aq (weak_g (o:=2)) ?_;exact wo)
  rintro⟨v2,v3⟩ o H
  refine ad ?_
  refine cC H ?_ ?_<;>intro H
  .refine aa H λx7 hx7 H=>nA (xdT (enc:=an) hx7) ?_
   refine aa H λv8 Hj H=>jA ⟨[(1,tI a1),(2,tP 0),(4,tP 1),(5,.v (.c (.w 2 v8.length))),(16,.v (.c (.d false (.l (a0.aw.map an))))),(17,tI (a0.aw.length:Int)),(18,tI v2)],[(0,.var 71 (kM [.f] (dE a0))),(1,.var 71 (kM [.z] (dE jY))),(2,NH v8 false true)],3⟩ ?_ ?_
   .refine cC Hj ?_ ?_<;>intro H
    .obtain⟨h,H⟩:=rq H
     refine sA (apT (enc:=an) (ys:=v3) (zs:=[x7]) h) ?_
     exact ai H
    exact ai H
   exact aN H
  exact aE H
 refine zI (List.range 6) ?_
 refine aa H λr9 q9 H=>zA (ca (hF:=qH q9)) ?_
 refine wA (spx 100506) ?_
 exact ao H
def kK (a1:ae) (r1:aO):Int->Option (cq (Int) (Int))
 |v6=>abU (bif ltB v6 (r1.aC.length:Int) then(abU (ix r1.aC v6) λx11=>some (ltB x11.cV a1.cV)) else(some false)) λ(v10:Bool)=>bif v10 then(some (.next (WR (v6+1)))) else(some (.done v6))
def kL:aO->Option (cq (aO) (aO))
 |v17=>abU (bif ltB 0 (v17.aC.length:Int) then(abU (ix v17.aC 0) λx26=>bif eqB x26.cV v17.bB then(some (ltB (v17.bi.length:Int) 24)) else(some false)) else(some false)) λ(v25:Bool)=>bif v25 then(abU (ix v17.aC 0) λx27=>bif c8 24 (v17.bi++[(⟨x27.bg⟩:bM)]).length then(bif eT v17.aC 1 v17.aC.length then(some (.next (⟨WR (v17.bB+1),v17.aC.drop ((1:Int)).toNat,(v17.bi++[(⟨x27.bg⟩:bM)])⟩:aO))) else none) else none) else(some (.done v17))
def og (a0:aO) (a1:ae):Option aO:=
 abU (mw a0) λr1=>abU (ju a0) λr2=>abU (bif !r2 then(some true) else(bif ltB 60 (a1.bg.length:Int) then(some true) else(abU (b9 a1.cV a0.bB (WR ((WR (a0.bB+8))-1))) λr4=>bif !r4 then(some true) else(abU (A6 a0 a1.cV) λr5=>bif r5 then(some true) else(some (leB 24 (a0.bi.length:Int))))))) λ(v3:Bool)=>bif v3 then(some r1) else(abU (iter (kK a1 r1) FU 0) λ(v9:Int)=>bif c8 32 (r1.aC++[bP]).length then(bif eT (r1.aC++[bP]) (WR (v9+1)) (r1.aC++[bP]).length then(bif eT (r1.aC++[bP]) v9 (r1.aC++[bP]).length then(abU (eZ a1.bg) λr12=>abU (ix (cpD (r1.aC++[bP]) (WR (v9+1)).toNat ((r1.aC++[bP]).drop (v9).toNat)) v9) λx13=>abU (iter (kL) FU {r1 with aC:=((cpD (r1.aC++[bP]) (WR (v9+1)).toNat ((r1.aC++[bP]).drop (v9).toNat)).set (v9).toNat (⟨a1.cV,r12⟩:ae))}) λ(v24:aO)=>bif leB 24 (v24.bi.length:Int) then(some {v24 with aC:=[]}) else(some v24)) else none) else none) else none)
theorem Dp {a0:aO} {a1:ae} {r:aO} (H:og a0 a1=some r):Fn prog 230 [.agg (fK a0),.agg (an a1)] [.agg (qM [.d,.o] (bH r))]:=by
 refine fI func230 ntmps230 ?_
 refine aa H λr1 q1 H=>nA (ca (hF:=xA q1)) ?_
 refine aa H λr2 q2 H=>nA (ca (hF:=sF q2)) ?_
 refine aa H λv3 Hj H=>jR ⟨[(3,tP 1),(4,tP 2),(5,tP 5),(41,tB v3)],(oM [.w 3,.w 4] 5 91 (bH r1)++[(1,.var 131 (kM [.f] (di a1))),(2,.var 91 (kM [.z,.z] (bH c7)))]),6⟩ ?_ ?_
 .refine gC Hj ?_ ?_<;>intro H
  .exact ai H
  refine gC H ?_ ?_<;>intro H
  .exact ai H
  refine aa H λr4 q4 H=>nG (ca (hF:=bX q4)) ?_
  refine gC H ?_ ?_<;>intro H
  .exact ai H
  refine aa H λr5 q5 H=>nG (ca (hF:=Kn q5)) ?_
  exact az H
 refine cC H ?_ ?_<;>intro H
 .cases H
  refine du (bb (o:=3)) ?_
  refine du (cL (o:=2)) ?_
  exact dW
 refine aa H λv9 Hj H=>jB ⟨[(3,tP 1),(4,tP 2),(5,tP 5),(6,tI v9)],(oM [.w 3,.w 4] 5 91 (bH r1)++[(1,.var 131 (kM [.f] (di a1))),(2,.var 91 (kM [.z,.z] (bH c7)))]),6⟩ ?_ ?_
 .refine iT Hj (λq=>⟨[(3,tP 1),(4,tP 2),(5,tP 5),(6,tI q)],(oM [.w 3,.w 4] 5 91 (bH r1)++[(1,.var 131 (kM [.f] (di a1))),(2,.var 91 (kM [.z,.z] (bH c7)))]),6⟩) ?_
  rintro v6 o H
  refine ad ?_
  refine dI ?_
  refine aa H λv10 Hj H=>fA ⟨[(3,tP 1),(4,tP 2),(5,tP 5),(6,tI v6),(58,tB v10)],(oM [.w 3,.w 4] 5 91 (bH r1)++[(1,.var 131 (kM [.f] (di a1))),(2,.var 91 (kM [.z,.z] (bH c7)))]),6⟩ ?_ ?_
  .have H:=Hj
   refine wI ?_
   refine dC H ?_ ?_<;>intro H
   .refine aa H λx11 hx11 H=>dG (xwT hx11) ?_
    refine dG (oe (he:=f7 _ hx11)) ?_
    refine wI ?_
    exact ai H
   refine wI ?_
   exact ai H
  refine wI ?_
  refine cC H ?_ ?_<;>intro H
  .refine wI ?_
   exact aN H
  exact aE H
 obtain⟨h,H⟩:=rq H
 refine sA (apT (enc:=an) (ys:=r1.aC) (zs:=[bP]) h) ?_
 refine zI (List.range 10) ?_
 obtain⟨hs20,H⟩:=rq H
 refine zA (Tx (enc:=an) hs20 (by first|rfl|simp) rfl rfl rfl rfl) ?_
 obtain⟨hs21,H⟩:=rq H
 refine zA (Tx (enc:=an) hs21 (by first|rfl|simp) rfl rfl rfl rfl) ?_
 refine zB b8 (gG rfl (cpsT (enc:=an) (ys:=(r1.aC++[bP])) (zs:=(r1.aC++[bP]).drop (v9).toNat) (hs:=QQ (enc:=an) hs21 (by first|rfl|simp) rfl) hs20)) b8 ?_
 refine zI (List.range 11) ?_
 refine aa H λr12 q12 H=>zA (ca (hF:=ow q12)) ?_
 refine aa H λx13 hx13 H=>zA (xwT hx13) ?_
 refine zB (aq (bb (o:=7)) (b7 (k:=85))) (gG rfl (soT (enc:=an) (a':=(⟨a1.cV,r12⟩:ae)) hx13)) b8 ?_
 refine aa H λv24 Hj H=>jB ⟨[(4,tP 2),(5,tP 5)],(oM [.t,.w 4] 5 91 (bH v24)++[(2,.var 91 (kM [.z,.z] (bH c7)))]),6⟩ ?_ ?_
 .refine iT Hj (λq=>⟨[(4,tP 2),(5,tP 5)],(oM [.t,.w 4] 5 91 (bH q)++[(2,.var 91 (kM [.z,.z] (bH c7)))]),6⟩) ?_ (by refine aq (bb (o:=3)) ?_;refine aq (b7 (k:=65)) ?_;refine aq (b7 (k:=68)) ?_;refine aq (b7 (k:=73)) ?_;refine aq (b7 (k:=78)) ?_;refine aq (cL (o:=5)) ?_;exact wo)
  rintro v17 o H
  refine ad ?_
  refine dI ?_
  refine aa H λv25 Hj H=>fA ⟨[(4,tP 2),(5,tP 5),(106,tB v25)],(oM [.t,.w 4] 5 91 (bH v17)++[(2,.var 91 (kM [.z,.z] (bH c7)))]),6⟩ ?_ ?_
  .have H:=Hj
   refine wI ?_
   refine dC H ?_ ?_<;>intro H
   .refine aa H λx26 hx26 H=>dG (xdT (enc:=an) hx26) ?_
    refine dC H ?_ ?_<;>intro H
    .refine wI ?_
     exact ai H
    refine wI ?_
    exact ai H
   refine wI ?_
   exact ai H
  refine wI ?_
  refine cC H ?_ ?_<;>intro H
  .refine zI (List.range 12) ?_
   refine aa H λx27 hx27 H=>zA (xdT (enc:=an) hx27) ?_
   obtain⟨h,H⟩:=rq H
   refine zB b8 (gG rfl (apT (enc:=da) (ys:=v17.bi) (zs:=[(⟨x27.bg⟩:bM)]) h)) b8 ?_
   refine wA (spx 100520) ?_
   obtain⟨h,H⟩:=rq H
   refine nA (Ww (enc:=an) h (λ_=>rfl) rfl rfl rfl) ?_
   exact aN H
  exact aE H
 refine cC H ?_ ?_<;>intro H
 .cases H
  refine du (NI (o:=2)) ?_
  exact dW
 exact ao H
end Go.AM
