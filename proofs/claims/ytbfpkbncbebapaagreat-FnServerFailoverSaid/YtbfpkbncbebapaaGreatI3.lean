/- A part. -/
import Derived.Test.YtbfpkbncbebapaaGreatI2
set_option linter.unusedVariables false
open Option renaming bind->YL
namespace Go.AM
open Go.Proofs
open Tryz
attribute [local irreducible] AWN NS AWO AWR AWC DR dQ gQ
set_option maxRecDepth 100000
set_option maxHeartbeats 40000000
def jc (a0:ab) (a1:Int):Option Bool:=
 YL (ix a0.an a1) λx1=>YL (ix a0.aj a1) λx2=>YL (mh x1) λr3=>YL (bif r3 then(YL (lF x2) λr5=>bif r5 then(YL (ix a0.bi a1) λx6=>YL (jl x6) λr7=>bif r7 then(bif(eqB x1.c9.ID.du x2.bC.ID.du&&(eqB x1.c9.ID.bK x2.bC.ID.bK&&true)) then(bif eqB x1.c9.eP x2.bC.eP then(YL (rG a0.d8 x1.bg) λr8=>bif r8 then(YL (rG a0.d8 x2.bg) λr9=>bif r9 then(bif eqB x2.bM.ax a1 then(YL (ix a0.bi a1) λx10=>YL (ig x10 x2.bM) λr11=>some r11) else(some false)) else(some false)) else(some false)) else(some false)) else(some false)) else(some false)) else(some false)) else(some false)) λ(v4:Bool)=>some v4
theorem vQ {a0:ab} {a1:Int} {r:Bool} (H:jc a0 a1=some r):Fn prog 64 [.agg (eD a0),aI a1] [.c (.d (.b r))]:=by
 refine fI func64 ntmps64 ?_
 refine aa H λx1 hx1 H=>nA (xdT (enc:=cI) hx1) ?_
 refine aa H λx2 hx2 H=>nA (xdT (enc:=bB) hx2) ?_
 refine dI ?_
 refine aa H λr3 q3 H=>dA (ca (hF:=AX q3)) ?_
 refine aa H λv4 Hj H=>et ⟨[(4,tB v4)],[],0⟩ ?_ ?_
 .have H:=Hj
  refine wI ?_
  refine dC H ?_ ?_<;>intro H
  .refine aa H λr5 q5 H=>dG (ca (hF:=zD q5)) ?_
   refine dC H ?_ ?_<;>intro H
   .refine aa H λx6 hx6 H=>dG (xdT (enc:=cp) hx6) ?_
    refine aa H λr7 q7 H=>dG (ca (hF:=ry q7)) ?_
    refine dC H ?_ ?_<;>intro H
    .refine dC H ?_ ?_<;>intro H
     .refine dC H ?_ ?_<;>intro H
      .refine aa H λr8 q8 H=>dG (ca (hF:=tu q8)) ?_
       refine dC H ?_ ?_<;>intro H
       .refine aa H λr9 q9 H=>dG (ca (hF:=tu q9)) ?_
        refine dC H ?_ ?_<;>intro H
        .refine dC H ?_ ?_<;>intro H
         .refine aa H λx10 hx10 H=>dG (xdT (enc:=cp) hx10) ?_
          refine aa H λr11 q11 H=>dG (ca (hF:=uj q11)) ?_
          refine wI ?_
          exact ai H
         refine wI ?_
         exact ai H
        refine wI ?_
        exact ai H
       refine wI ?_
       exact ai H
      refine wI ?_
      exact ai H
     refine wI ?_
     exact ai H
    refine wI ?_
    exact ai H
   refine wI ?_
   exact ai H
  refine wI ?_
  exact ai H
 refine wI ?_
 exact ao H
def gP (a0:ab):Int->Option (cf (Int) (Bool))
 |v7=>bif ltB v7 (a0.aN.length:Int) then(YL (ix a0.aN v7) λx8=>YL (ct x8.bv 0 (WR ((a0.an.length:Int)-1))) λr9=>YL (bif !r9 then(some true) else(YL (rG a0.d8 x8.bg) λr11=>some (!r11))) λ(v10:Bool)=>bif v10 then(dn (some false)) else(some (.next (WR (v7+1))))) else(dn (bif leB 0 (a0.d8.aR.length:Int) then(YL (ct a0.cZ 0 (WR ((jY .i64 1 (a0.d8.aR.length:Int))-1))) λr12=>YL (bif r12 then(YL (ct a0.oZ 0 100000) λr14=>bif r14 then(some (leB 0 a0.kT)) else(some false)) else(some false)) λ(v13:Bool)=>some v13) else none))
def gO (a0:ab):Int->Option (cf (Int) (Bool))
 |v5=>bif ltB v5 (a0.an.length:Int) then(YL (jc a0 v5) λr6=>bif !r6 then(dn (some false)) else(some (.next (WR (v5+1))))) else(dn (bif ltB 200 (a0.aN.length:Int) then(some false) else(iter (gP a0) FU 0)))
def jm (a0:ab):Option Bool:=
 YL (rz a0.d8) λr1=>YL (bif !r1 then(some true) else(YL (jb a0.cq) λr3=>bif !r3 then(some true) else(some (eqB a0.cq.dm 0)))) λ(v2:Bool)=>bif v2 then(some false) else(YL (bif ltB 4 (a0.an.length:Int) then(some true) else(bif !eqB (a0.aj.length:Int) (a0.an.length:Int) then(some true) else(some (!eqB (a0.bi.length:Int) (a0.an.length:Int))))) λ(v4:Bool)=>bif v4 then(some false) else(iter (gO a0) FU 0))
theorem rA {a0:ab} {r:Bool} (H:jm a0=some r):Fn prog 22 [.agg (eD a0)] [.c (.d (.b r))]:=by
 refine fI func22 ntmps22 ?_
 refine aa H λr1 q1 H=>nA (ca (hF:=EY q1)) ?_
 refine aa H λv2 Hj H=>jR ⟨[(1,tP 0),(21,tB v2)],[(0,.var 34 (kM [.f,.f,.f,.f,.f] (aJ a0)))],1⟩ ?_ ?_
 .refine gC Hj ?_ ?_<;>intro H
  .exact ai H
  refine aa H λr3 q3 H=>nG (ca (hF:=mq q3)) ?_
  refine gC H ?_ ?_<;>intro H
  .exact ai H
  exact ai H
 refine cC H ?_ ?_<;>intro H
 .exact ao H
 refine aa H λv4 Hj H=>jR ⟨[(1,tP 0),(43,tB v4)],[(0,.var 34 (kM [.f,.f,.f,.f,.f] (aJ a0)))],1⟩ ?_ ?_
 .refine gC Hj ?_ ?_<;>intro H
  .exact ai H
  refine gC H ?_ ?_<;>intro H
  .exact ai H
  exact ai H
 refine cC H ?_ ?_<;>intro H
 .exact ao H
 refine iT H (λq=>⟨[(1,tP 0),(46,tI (a0.an.length:Int)),(47,tI q)],[(0,.var 34 (kM [.f,.f,.f,.f,.f] (aJ a0)))],1⟩) ?_
 rintro v5 o H
 try dsimp only
 refine wI ?_
 refine cC H ?_ ?_<;>intro H
 .refine aa H λr6 q6 H=>nA (ca (hF:=vQ q6)) ?_
  refine cC H ?_ ?_<;>intro H
  .obtain⟨r0,Hd,rfl⟩:=dnE H
   refine f6 (λhq=>?_)
   have H:=Hd.trans (congrArg some hq)
   refine wI ?_
   exact ao H
  cases H
  refine dy ?_
  exact wo
 obtain⟨r0,Hd,rfl⟩:=dnE H
 refine dF (λhq=>?_)
 have H:=Hd.trans (congrArg some hq)
 refine wI ?_
 refine cC H ?_ ?_<;>intro H
 .exact ao H
 refine iT H (λq=>⟨[(1,tP 0),(60,.v (.c (.d false (.l (a0.aN.map dv))))),(61,tI (a0.aN.length:Int)),(62,tI q)],[(0,.var 34 (kM [.f,.f,.f,.f,.f] (aJ a0)))],1⟩) ?_
 rintro v7 o H
 try dsimp only
 refine wI ?_
 refine cC H ?_ ?_<;>intro H
 .refine aa H λx8 hx8 H=>nA (xdT (enc:=dv) hx8) ?_
  refine aa H λr9 q9 H=>nA (ca (hF:=bZ q9)) ?_
  refine aa H λv10 Hj H=>jR ⟨[(1,tP 0),(60,.v (.c (.d false (.l (a0.aN.map dv))))),(61,tI (a0.aN.length:Int)),(62,tI v7),(81,tB v10)],[(0,.var 34 (kM [.f,.f,.f,.f,.f] (aJ a0)))],1⟩ ?_ ?_
  .refine gC Hj ?_ ?_<;>intro H
   .exact ai H
   refine aa H λr11 q11 H=>nG (ca (hF:=tu q11)) ?_
   exact ai H
  refine cC H ?_ ?_<;>intro H
  .obtain⟨r0,Hd,rfl⟩:=dnE H
   refine f6 (λhq=>?_)
   have H:=Hd.trans (congrArg some hq)
   refine wI ?_
   exact ao H
  cases H
  refine dy ?_
  exact wo
 obtain⟨r0,Hd,rfl⟩:=dnE H
 refine dF (λhq=>?_)
 have H:=Hd.trans (congrArg some hq)
 refine wI ?_
 refine dI ?_
 obtain⟨h,H⟩:=rq H
 refine dA (B8 h rfl rfl rfl rfl) ?_
 refine aa H λr12 q12 H=>dA (ca (hF:=bZ q12)) ?_
 refine aa H λv13 Hj H=>et ⟨[(2,tB v13)],[],0⟩ ?_ ?_
 .have H:=Hj
  refine wI ?_
  refine dC H ?_ ?_<;>intro H
  .refine aa H λr14 q14 H=>dG (ca (hF:=bZ q14)) ?_
   refine dC H ?_ ?_<;>intro H
   .refine wI ?_
    exact ai H
   refine wI ?_
   exact ai H
  refine wI ?_
  exact ai H
 refine wI ?_
 exact ao H
def mD (a0:ah):Option ah:=
 YL (jP a0.g7) λr1=>YL (lk a0.aA) λr2=>YL (rE a0.aw) λr3=>some {a0 with g7:=r1,aA:=r2,aw:=r3}
theorem vN {a0:ah} {r:ah} (H:mD a0=some r):Fn prog 59 [.agg (bB a0)] [.agg (qM [.o,.o,.o] (b8 r))]:=by
 refine fI func59 ntmps59 ?_
 refine aa H λr1 q1 H=>nA (ca (hF:=xK q1)) ?_
 refine aa H λr2 q2 H=>nA (ca (hF:=uY q2)) ?_
 refine aa H λr3 q3 H=>nA (ca (hF:=E7 q3)) ?_
 exact ao H
def rC (a0:aD):Option aD:=
 YL (ot a0.bI) λr1=>some {a0 with bI:=r1}
theorem E5 {a0:aD} {r:aD} (H:rC a0=some r):Fn prog 108 [.agg (cI a0)] [.agg (qM [.o,.o] (db r))]:=by
 refine fI func108 ntmps108 ?_
 refine aa H λr1 q1 H=>nA (ca (hF:=B7 q1)) ?_
 exact ao H
def rD (a0:bD):Option bD:=
 YL (um a0.cr) λr1=>some {a0 with cr:=r1}
theorem E6 {a0:bD} {r:bD} (H:rD a0=some r):Fn prog 112 [.agg (dv a0)] [.agg (qM [.o] (lf r))]:=by
 refine fI func112 ntmps112 ?_
 refine aa H λr1 q1 H=>nA (ca (hF:=Hk q1)) ?_
 exact ao H
def ga (a0:List aD):(Int×List aD)->Option (cf (Int×List aD) (List aD))
 |(v1,v2)=>bif ltB v1 (a0.length:Int) then(YL (ix a0 v1) λx7=>YL (rC x7) λr8=>YL (ix v2 v1) λx9=>some (.next (WR (v1+1),(v2.set (v1).toNat r8)))) else(some (.done v2))
def eT (a0:List aD):Option (List aD):=
 bif zQ 144 (a0.length:Int) (a0.length:Int) then(YL (iter (ga a0) FU (0,(List.replicate ((a0.length:Int)).toNat w6))) λ(v6:List aD)=>some v6) else none
theorem kW {a0:List aD} {r:List aD} (H:eT a0=some r):FnV prog 107 [] [.v (.c (.d false (.l (a0.map cI)))),.v (.c (.fn 108))] [] (.v (.c (.w 210 r.length))) [(210,w86 r)]:=by
 refine fV func107 ntmps107 ?_
 obtain⟨h,H⟩:=rq H
 refine nA (mkT (enc:=cI) (za:=w6) h (by rfl)) ?_
 refine aa H λv6 Hj H=>jB ⟨[(5,.v (.c (.w 210 v6.length)))],[(210,w86 v6)],211⟩ ?_ ?_
 .refine iT Hj (λq=>⟨[(1,.v (.c (.fn 108))),(5,.v (.c (.w 210 q.2.length))),(11,.v (.c (.d false (.l (a0.map cI))))),(12,tI (a0.length:Int)),(13,tI q.1)],[(210,w86 q.2)],211⟩) ?_
  rintro⟨v1,v2⟩ o H
  try dsimp only
  refine wI ?_
  refine cC H ?_ ?_<;>intro H
  .refine aa H λx7 hx7 H=>nA (xdT (enc:=cI) hx7) ?_
   refine aa H λr8 q8 H=>nA (Nd rfl (ca (hF:=E5 q8))) ?_
   refine aa H λx9 hx9 H=>nA (xwT hx9) ?_
   refine bH (aU (o:=212)) ?_
   refine bH (aU (o:=213)) ?_
   refine bH (cj (k:=22)) ?_
   refine sA (soT (enc:=cI) (a':=r8) hx9) ?_
   cases H
   refine dy ?_
   exact wo
  cases H
  refine dF (λhq=>?_)
  cases hq
  refine wI ?_
  exact wo
 cases H
 exact bO
def fJ (a0:List ah):(Int×List ah)->Option (cf (Int×List ah) (List ah))
 |(v1,v2)=>bif ltB v1 (a0.length:Int) then(YL (ix a0 v1) λx7=>YL (mD x7) λr8=>YL (ix v2 v1) λx9=>some (.next (WR (v1+1),(v2.set (v1).toNat r8)))) else(some (.done v2))
def eL (a0:List ah):Option (List ah):=
 bif zQ 288 (a0.length:Int) (a0.length:Int) then(YL (iter (fJ a0) FU (0,(List.replicate ((a0.length:Int)).toNat qh))) λ(v6:List ah)=>some v6) else none
theorem kh {a0:List ah} {r:List ah} (H:eL a0=some r):FnV prog 109 [] [.v (.c (.d false (.l (a0.map bB)))),.v (.c (.fn 59))] [] (.v (.c (.w 210 r.length))) [(210,w69 r)]:=by
 refine fV func109 ntmps109 ?_
 obtain⟨h,H⟩:=rq H
 refine nA (mkT (enc:=bB) (za:=qh) h (by rfl)) ?_
 refine aa H λv6 Hj H=>jB ⟨[(5,.v (.c (.w 210 v6.length)))],[(210,w69 v6)],211⟩ ?_ ?_
 .refine iT Hj (λq=>⟨[(1,.v (.c (.fn 59))),(5,.v (.c (.w 210 q.2.length))),(11,.v (.c (.d false (.l (a0.map bB))))),(12,tI (a0.length:Int)),(13,tI q.1)],[(210,w69 q.2)],211⟩) ?_
  rintro⟨v1,v2⟩ o H
  try dsimp only
  refine wI ?_
  refine cC H ?_ ?_<;>intro H
  .refine aa H λx7 hx7 H=>nA (xdT (enc:=bB) hx7) ?_
   refine aa H λr8 q8 H=>nA (Nd rfl (ca (hF:=vN q8))) ?_
   refine aa H λx9 hx9 H=>nA (xwT hx9) ?_
   refine bH (aU (o:=212)) ?_
   refine bH (aU (o:=213)) ?_
   refine bH (aU (o:=214)) ?_
   refine bH (cj (k:=22)) ?_
   refine sA (soT (enc:=bB) (a':=r8) hx9) ?_
   cases H
   refine dy ?_
   exact wo
  cases H
  refine dF (λhq=>?_)
  cases hq
  refine wI ?_
  exact wo
 cases H
 exact bO
def gb (a0:List bD):(Int×List bD)->Option (cf (Int×List bD) (List bD))
 |(v1,v2)=>bif ltB v1 (a0.length:Int) then(YL (ix a0 v1) λx7=>YL (rD x7) λr8=>YL (ix v2 v1) λx9=>some (.next (WR (v1+1),(v2.set (v1).toNat r8)))) else(some (.done v2))
def eU (a0:List bD):Option (List bD):=
 bif zQ 176 (a0.length:Int) (a0.length:Int) then(YL (iter (gb a0) FU (0,(List.replicate ((a0.length:Int)).toNat gY))) λ(v6:List bD)=>some v6) else none
theorem kX {a0:List bD} {r:List bD} (H:eU a0=some r):FnV prog 111 [] [.v (.c (.d false (.l (a0.map dv)))),.v (.c (.fn 112))] [] (.v (.c (.w 210 r.length))) [(210,w48 r)]:=by
 refine fV func111 ntmps111 ?_
 obtain⟨h,H⟩:=rq H
 refine nA (mkT (enc:=dv) (za:=gY) h (by rfl)) ?_
 refine aa H λv6 Hj H=>jB ⟨[(5,.v (.c (.w 210 v6.length)))],[(210,w48 v6)],211⟩ ?_ ?_
 .refine iT Hj (λq=>⟨[(1,.v (.c (.fn 112))),(5,.v (.c (.w 210 q.2.length))),(11,.v (.c (.d false (.l (a0.map dv))))),(12,tI (a0.length:Int)),(13,tI q.1)],[(210,w48 q.2)],211⟩) ?_
  rintro⟨v1,v2⟩ o H
  try dsimp only
  refine wI ?_
  refine cC H ?_ ?_<;>intro H
  .refine aa H λx7 hx7 H=>nA (xdT (enc:=dv) hx7) ?_
   refine aa H λr8 q8 H=>nA (Nd rfl (ca (hF:=E6 q8))) ?_
   refine aa H λx9 hx9 H=>nA (xwT hx9) ?_
   refine bH (aU (o:=212)) ?_
   refine bH (cj (k:=22)) ?_
   refine sA (soT (enc:=dv) (a':=r8) hx9) ?_
   cases H
   refine dy ?_
   exact wo
  cases H
  refine dF (λhq=>?_)
  cases hq
  refine wI ?_
  exact wo
 cases H
 exact bO
def mC (a0:ab):Option ab:=
 YL (zG a0.d8) λr1=>YL (eT a0.an) λr2=>YL (eL a0.aj) λr3=>YL (eK a0.bi) λr4=>YL (eU a0.aN) λr5=>some (⟨r1,r2,r3,r4,r5,a0.cZ,a0.cq,a0.oZ,a0.kT⟩:ab)
theorem vM {a0:ab} {r:ab} (H:mC a0=some r):Fn prog 48 [.agg (eD a0)] [.agg (qM [.o,.o,.o,.o,.o] (aJ r))]:=by
 refine fI func48 ntmps48 ?_
 refine aa H λr1 q1 H=>nA (ca (hF:=Le q1)) ?_
 refine aa H λr2 q2 H=>sA (cwv [] [(210,3)] 4 (kW q2)) ?_
 refine aa H λr3 q3 H=>sA (cwv [] [(210,4)] 5 (kh q3)) ?_
 refine aa H λr4 q4 H=>sA (cwv [] [(210,5)] 6 (kf q4)) ?_
 refine aa H λr5 q5 H=>sA (cwv [] [(210,6)] 7 (kX q5)) ?_
 exact ao H
def li (a1:List Int):(Int×Int)->Option (cf (Int×Int) (Int))
 |(v2,v3)=>bif ltB v3 (a1.length:Int) then(YL (ix a1 v3) λx7=>YL (kA v2 x7) λr8=>some (.next (r8,WR (v3+1)))) else(some (.done v2))
def ui (a0:Int) (a1:List Int):Option Int:=
 YL (kA 11 a0) λr1=>YL (iter (li a1) FU (r1,0)) λ(v6:Int)=>YL (kA v6 a0) λr9=>some r9
theorem Hi {a0:Int} {a1:List Int} {r:Int} (H:ui a0 a1=some r):Fn prog 189 [aI a0,aL (a1.map eI)] [.c (.d (.i .i64 r))]:=by
 refine fI func189 ntmps189 ?_
 refine aa H λr1 q1 H=>nA (ca (hF:=vO q1)) ?_
 refine aa H λv6 Hj H=>jB ⟨[(0,tI a0),(5,tI v6)],[],0⟩ ?_ ?_
 .refine iT Hj (λq=>⟨[(0,tI a0),(5,tI q.1),(10,.v (.c (.d false (.l (a1.map eI))))),(11,tI (a1.length:Int)),(12,tI q.2)],[],0⟩) ?_
  rintro⟨v2,v3⟩ o H
  try dsimp only
  refine wI ?_
  refine cC H ?_ ?_<;>intro H
  .refine aa H λx7 hx7 H=>nA (xdT (enc:=eI) hx7) ?_
   refine aa H λr8 q8 H=>nA (ca (hF:=vO q8)) ?_
   cases H
   refine dy ?_
   exact wo
  cases H
  refine dF (λhq=>?_)
  cases hq
  refine wI ?_
  exact wo
 refine aa H λr9 q9 H=>nA (ca (hF:=vO q9)) ?_
 exact ao H
def p9 (a0:ah):Option ah:=
 YL (mD a0) λr1=>some {r1 with aF:=cz,bF:=0,d9:=0,gZ:=fk,d7:=0}
theorem Bz {a0:ah} {r:ah} (H:p9 a0=some r):Fn prog 18 [.agg (bB a0)] [.agg (qM [.o,.o,.o] (b8 r))]:=by
 refine fI func18 ntmps18 ?_
 refine aa H λr1 q1 H=>nA (ca (hF:=vN q1)) ?_
 exact ao H
def jO (a0:Int) (a1:Int):Option Int:=
 YL (ui 17 [a0,a1]) λr1=>some (Int.tmod (WR (r1*r1)) 2147483647)
theorem xJ {a0:Int} {a1:Int} {r:Int} (H:jO a0 a1=some r):Fn prog 125 [aI a0,aI a1] [.c (.d (.i .i64 r))]:=by
 refine fI func125 ntmps125 ?_
 refine aa H λr1 q1 H=>nA (ca (hF:=Hi q1)) ?_
 refine nA (ir rfl rfl rfl (by decide)) ?_
 exact ao H
end Go.AM
