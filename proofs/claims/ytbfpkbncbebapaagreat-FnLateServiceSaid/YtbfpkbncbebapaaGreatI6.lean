/- A part. -/
import Derived.Test.YtbfpkbncbebapaaGreatI4
set_option linter.unusedVariables false
open Option renaming bind->aaC
namespace Go.AM
open Go.Proofs
open Tryz
attribute [local irreducible] AWN NS AWO AWR AWC DR dO ip
set_option maxRecDepth 100000
set_option maxHeartbeats 40000000
def jG (a0:ab) (a1:Int):Option Bool:=
 aaC (ix a0.ah a1) λx1=>aaC (ix a0.aj a1) λx2=>aaC (m9 x1) λr3=>aaC (bif r3 then(aaC (iC x2) λr5=>bif r5 then(aaC (ix a0.aB a1) λx6=>aaC (gO x6) λr7=>bif r7 then(bif(eqB x1.cZ.ID.d8 x2.be.ID.d8&&(eqB x1.cZ.ID.bI x2.be.ID.bI&&true)) then(bif eqB x1.cZ.eR x2.be.eR then(aaC (jF a0.bX x1.aE) λr8=>bif r8 then(aaC (jF a0.bX x2.aE) λr9=>bif r9 then(bif eqB x2.bC.aC a1 then(aaC (ix a0.aB a1) λx10=>aaC (fE x10 x2.bC) λr11=>some r11) else(some false)) else(some false)) else(some false)) else(some false)) else(some false)) else(some false)) else(some false)) else(some false)) λ(v4:Bool)=>some v4
theorem wM {a0:ab} {a1:Int} {r:Bool} (H:jG a0 a1=some r):Fn prog 64 [.agg (fC a0),aI a1] [.c (.d (.b r))]:=by
 refine fI func64 ntmps64 ?_
 refine aa H λx1 hx1 H=>nA (xdT (enc:=dq) hx1) ?_
 refine aa H λx2 hx2 H=>nA (xdT (enc:=cG) hx2) ?_
 refine dI ?_
 refine aa H λr3 q3 H=>dA (ca (hF:=A7 q3)) ?_
 refine aa H λv4 Hj H=>jt ⟨[(4,tB v4)],[],0⟩ ?_ ?_
 .have H:=Hj
  refine wI ?_
  refine dC H ?_ ?_<;>intro H
  .refine aa H λr5 q5 H=>dG (ca (hF:=nj q5)) ?_
   refine dC H ?_ ?_<;>intro H
   .refine aa H λx6 hx6 H=>dG (xdT (enc:=dB) hx6) ?_
    refine aa H λr7 q7 H=>dG (ca (hF:=kx q7)) ?_
    refine dC H ?_ ?_<;>intro H
    .refine dC H ?_ ?_<;>intro H
     .refine dC H ?_ ?_<;>intro H
      .refine aa H λr8 q8 H=>dG (ca (hF:=lD q8)) ?_
       refine dC H ?_ ?_<;>intro H
       .refine aa H λr9 q9 H=>dG (ca (hF:=lD q9)) ?_
        refine dC H ?_ ?_<;>intro H
        .refine dC H ?_ ?_<;>intro H
         .refine aa H λx10 hx10 H=>dG (xdT (enc:=dB) hx10) ?_
          refine aa H λr11 q11 H=>dG (ca (hF:=jx q11)) ?_
          refine wI ?_
          exact ai H
         refine wI ?_
         exact ai H
        refine wI ?_
        exact ai H
       refine wI ?_
       exact ai H
      refine wI ?_
      exact ai H
     refine wI ?_
     exact ai H
    refine wI ?_
    exact ai H
   refine wI ?_
   exact ai H
  refine wI ?_
  exact ai H
 refine wI ?_
 exact ao H
def gK (a0:List aw):(Int×List aw)->Option (cK (Int×List aw) (List aw))
 |(v1,v2)=>bif ltB v1 (a0.length:Int) then(aaC (ix a0 v1) λx7=>aaC (kT x7) λr8=>aaC (ix v2 v1) λx9=>some (.next (WR (v1+1),(v2.set (v1).toNat r8)))) else(some (.done v2))
def fy (a0:List aw):Option (List aw):=
 bif pD 144 (a0.length:Int) (a0.length:Int) then(aaC (iter (gK a0) FU (0,(List.replicate ((a0.length:Int)).toNat xh))) λ(v6:List aw)=>some v6) else none
theorem lH {a0:List aw} {r:List aw} (H:fy a0=some r):FnV prog 107 [] [.v (.c (.d false (.l (a0.map dq)))),.v (.c (.fn 108))] [] (.v (.c (.w 210 r.length))) [(210,w86 r)]:=by
 refine fV func107 ntmps107 ?_
 obtain⟨h,H⟩:=rq H
 refine nA (mkT (enc:=dq) (za:=xh) h (by rfl)) ?_
 refine aa H λv6 Hj H=>jB ⟨[(5,.v (.c (.w 210 v6.length)))],[(210,w86 v6)],211⟩ ?_ ?_
 .refine iT Hj (λq=>⟨[(1,.v (.c (.fn 108))),(5,.v (.c (.w 210 q.2.length))),(11,.v (.c (.d false (.l (a0.map dq))))),(12,tI (a0.length:Int)),(13,tI q.1)],[(210,w86 q.2)],211⟩) ?_
  rintro⟨v1,v2⟩ o H
  try dsimp only
  refine wI ?_
  refine cC H ?_ ?_<;>intro H
  .refine aa H λx7 hx7 H=>nA (xdT (enc:=dq) hx7) ?_
   refine aa H λr8 q8 H=>nA (Ov rfl (ca (hF:=tx q8))) ?_
   refine aa H λx9 hx9 H=>nA (xwT hx9) ?_
   refine bN (bw (o:=212)) ?_
   refine bN (bw (o:=213)) ?_
   refine bN (bJ (k:=22)) ?_
   refine sA (soT (enc:=dq) (a':=r8) hx9) ?_
   cases H
   refine eA ?_
   exact wo
  cases H
  refine et (λhq=>?_)
  cases hq
  refine wI ?_
  exact wo
 cases H
 exact cV
def gh (a0:List ae):(Int×List ae)->Option (cK (Int×List ae) (List ae))
 |(v1,v2)=>bif ltB v1 (a0.length:Int) then(aaC (ix a0 v1) λx7=>aaC (gr x7) λr8=>aaC (ix v2 v1) λx9=>some (.next (WR (v1+1),(v2.set (v1).toNat r8)))) else(some (.done v2))
def eT (a0:List ae):Option (List ae):=
 bif pD 288 (a0.length:Int) (a0.length:Int) then(aaC (iter (gh a0) FU (0,(List.replicate ((a0.length:Int)).toNat qO))) λ(v6:List ae)=>some v6) else none
theorem kV {a0:List ae} {r:List ae} (H:eT a0=some r):FnV prog 109 [] [.v (.c (.d false (.l (a0.map cG)))),.v (.c (.fn 59))] [] (.v (.c (.w 210 r.length))) [(210,w69 r)]:=by
 refine fV func109 ntmps109 ?_
 obtain⟨h,H⟩:=rq H
 refine nA (mkT (enc:=cG) (za:=qO) h (by rfl)) ?_
 refine aa H λv6 Hj H=>jB ⟨[(5,.v (.c (.w 210 v6.length)))],[(210,w69 v6)],211⟩ ?_ ?_
 .refine iT Hj (λq=>⟨[(1,.v (.c (.fn 59))),(5,.v (.c (.w 210 q.2.length))),(11,.v (.c (.d false (.l (a0.map cG))))),(12,tI (a0.length:Int)),(13,tI q.1)],[(210,w69 q.2)],211⟩) ?_
  rintro⟨v1,v2⟩ o H
  try dsimp only
  refine wI ?_
  refine cC H ?_ ?_<;>intro H
  .refine aa H λx7 hx7 H=>nA (xdT (enc:=cG) hx7) ?_
   refine aa H λr8 q8 H=>nA (Ov rfl (ca (hF:=kX q8))) ?_
   refine aa H λx9 hx9 H=>nA (xwT hx9) ?_
   refine bN (bw (o:=212)) ?_
   refine bN (bw (o:=213)) ?_
   refine bN (bw (o:=214)) ?_
   refine bN (bJ (k:=22)) ?_
   refine sA (soT (enc:=cG) (a':=r8) hx9) ?_
   cases H
   refine eA ?_
   exact wo
  cases H
  refine et (λhq=>?_)
  cases hq
  refine wI ?_
  exact wo
 cases H
 exact cV
def gL (a0:List a9):(Int×List a9)->Option (cK (Int×List a9) (List a9))
 |(v1,v2)=>bif ltB v1 (a0.length:Int) then(aaC (ix a0 v1) λx7=>aaC (pu x7) λr8=>aaC (ix v2 v1) λx9=>some (.next (WR (v1+1),(v2.set (v1).toNat r8)))) else(some (.done v2))
def fA (a0:List a9):Option (List a9):=
 bif pD 176 (a0.length:Int) (a0.length:Int) then(aaC (iter (gL a0) FU (0,(List.replicate ((a0.length:Int)).toNat bU))) λ(v6:List a9)=>some v6) else none
theorem lI {a0:List a9} {r:List a9} (H:fA a0=some r):FnV prog 111 [] [.v (.c (.d false (.l (a0.map eH)))),.v (.c (.fn 112))] [] (.v (.c (.w 210 r.length))) [(210,w48 r)]:=by
 refine fV func111 ntmps111 ?_
 obtain⟨h,H⟩:=rq H
 refine nA (mkT (enc:=eH) (za:=bU) h (by rfl)) ?_
 refine aa H λv6 Hj H=>jB ⟨[(5,.v (.c (.w 210 v6.length)))],[(210,w48 v6)],211⟩ ?_ ?_
 .refine iT Hj (λq=>⟨[(1,.v (.c (.fn 112))),(5,.v (.c (.w 210 q.2.length))),(11,.v (.c (.d false (.l (a0.map eH))))),(12,tI (a0.length:Int)),(13,tI q.1)],[(210,w48 q.2)],211⟩) ?_
  rintro⟨v1,v2⟩ o H
  try dsimp only
  refine wI ?_
  refine cC H ?_ ?_<;>intro H
  .refine aa H λx7 hx7 H=>nA (xdT (enc:=eH) hx7) ?_
   refine aa H λr8 q8 H=>nA (Ov rfl (ca (hF:=yc q8))) ?_
   refine aa H λx9 hx9 H=>nA (xwT hx9) ?_
   refine bN (bw (o:=212)) ?_
   refine bN (bJ (k:=22)) ?_
   refine sA (soT (enc:=eH) (a':=r8) hx9) ?_
   cases H
   refine eA ?_
   exact wo
  cases H
  refine et (λhq=>?_)
  cases hq
  refine wI ?_
  exact wo
 cases H
 exact cV
def pz (a0:ab) (a1:a9):Option ab:=
 bif leB 200 (a0.aA.length:Int) then(some {a0 with Lost:=WR (a0.Lost+1)}) else(aaC (pu a1) λr1=>bif em 176 (a0.aA++[r1]).length then(some {a0 with aA:=(a0.aA++[r1])}) else none)
theorem HV {a0:ab} {a1:a9} {r:ab} (H:pz a0 a1=some r):FnV prog 149 (nI a0) [tP 200,.v (.agg (kM [.t] (tV a1)))] (nI r) (.tup []) []:=by
 refine fV func149 ntmps149 ?_
 refine cC H ?_ ?_<;>intro H
 .cases H
  exact cV
 refine Nt 0 17 0 [1,2,3,4,5,6,7,8,9,10,11] Try.follows (by kernel_rfl) (by kernel_rfl) rfl (by kernel_rfl) rfl rfl ?_
 refine wI ?_
 refine aa H λr1 q1 H=>zA (ca (hF:=(yc q1).frzs (by repeat (first|exact trivial|refine⟨?_,?_⟩|exact lm _|rfl)))) ?_
 obtain⟨h,H⟩:=rq H
 refine zB b7 (jp rfl (apT (enc:=eH) (ys:=a0.aA) (zs:=[r1]) h)) b7 ?_
 refine wA (spx 100496) ?_
 cases H
 exact rf
def cm (a0:aw) (a1:List aR):Option bg:=
 aaC (kT a0) λr1=>aaC (fN a1) λr2=>some (⟨r1,r2⟩:bg)
theorem cN {a0:aw} {a1:List aR} {r:bg} (H:cm a0 a1=some r):Fn prog 222 [.agg (dq a0),aL (a1.map dY)] [.agg (qM [.o,.o,.o] (cM r))]:=by
 refine fI func222 ntmps222 ?_
 refine aa H λr1 q1 H=>nA (ca (hF:=tx q1)) ?_
 refine aa H λr2 q2 H=>nA (ca (hF:=lW q2)) ?_
 exact ao H
def oi (a0:Int) (a1:Int):Option Int:=
 aaC (eJ a0 [9,a1]) λr1=>bif eqB r1 0 then(some 1) else(some r1)
theorem uR {a0:Int} {a1:Int} {r:Int} (H:oi a0 a1=some r):Fn prog 254 [aI a0,aI a1] [.c (.d (.i .i64 r))]:=by
 refine fI func254 ntmps254 ?_
 refine aa H λr1 q1 H=>nA (ca (hF:=eM q1)) ?_
 refine cC H ?_ ?_<;>intro H
 .exact ao H
 exact ao H
def mL (a0:Int) (a1:Int) (a2:Int) (a3:List Int):Option Int:=
 aaC (qp a3) λr1=>bif em 8 ([a1,a2]++r1).length then(aaC (eJ a0 ([a1,a2]++r1)) λr2=>some r2) else none
theorem yg {a0:Int} {a1:Int} {a2:Int} {a3:List Int} {r:Int} (H:mL a0 a1 a2 a3=some r):Fn prog 307 [aI a0,aI a1,aI a2,aL (a3.map eU8)] [.c (.d (.i .i64 r))]:=by
 refine fI func307 ntmps307 ?_
 refine aa H λr1 q1 H=>nA (ca (hF:=DM q1)) ?_
 obtain⟨h,H⟩:=rq H
 refine sA (apT (enc:=eI) (ys:=[a1,a2]) (zs:=r1) h) ?_
 refine aa H λr2 q2 H=>nA (ca (hF:=eM q2)) ?_
 exact ao H
def wu (a0:Int) (r1:List Int):(Int×List Int)->Option (cK (Int×List Int) (List Int))
 |(v2,v3)=>bif ltB v2 (r1.length:Int) then(aaC (ix v3 v2) λx8=>aaC (eJ a0 [v2]) λr9=>aaC (ix v3 v2) λx10=>some (.next (WR (v2+1),(v3.set (v2).toNat (IntKind.u8.wrap (x8+(IntKind.u8.wrap (Int.tmod r9 256)))))))) else(some (.done v3))
def zD (a0:Int) (a1:List Int):Option (List Int):=
 aaC (eK a1) λr1=>aaC (iter (wu a0 r1) FU (0,r1)) λ(v7:List Int)=>some v7
theorem Mb {a0:Int} {a1:List Int} {r:List Int} (H:zD a0 a1=some r):Fn prog 354 [aI a0,aL (a1.map eU8)] [.c (.own 5 1 (r.map eU8) r.length)]:=by
 refine fI func354 ntmps354 ?_
 refine aa H λr1 q1 H=>nA (ca (hF:=gq q1)) ?_
 refine aa H λv7 Hj H=>jB ⟨[(5,.v (.c (.w 0 v7.length)))],[(0,w5 v7)],1⟩ ?_ ?_
 .refine iT Hj (λq=>⟨[(0,tI a0),(5,.v (.c (.w 0 q.2.length))),(10,tI (r1.length:Int)),(11,tI q.1)],[(0,w5 q.2)],1⟩) ?_
  rintro⟨v2,v3⟩ o H
  try dsimp only
  refine wI ?_
  refine cC H ?_ ?_<;>intro H
  .refine mz [0,1,2,3,4,5,6,7,8,9,10,11,12] (h:=?_)
   refine wkb ?_
   refine aa H λx8 hx8 H=>iS rfl (xwT hx8) ?_
   refine wkb ?_
   refine iS rfl (oe (he:=eU _ hx8)) ?_
   refine wkb ?_
   refine tg rfl (bsx (bs rfl rfl rfl rfl rfl rfl rfl rfl) rfl) ?_
   refine wkb ?_
   refine aa H λr9 q9 H=>iS rfl (ca (hF:=eM q9)) ?_
   refine wkb ?_
   refine iS rfl (ir rfl rfl rfl (by decide)) ?_
   refine wkb ?_
   refine aa H λx10 hx10 H=>iS rfl (xwT hx10) ?_
   refine wkb ?_
   refine AU (by kernel_rfl) rfl (by kernel_rfl) b7 (jp rfl (soT (enc:=eU8) (a':=IntKind.u8.wrap (x8+(IntKind.u8.wrap (Int.tmod r9 256)))) hx10)) b7 rfl ?_
   refine wkb ?_
   refine wI ?_
   cases H
   refine eA ?_
   exact wo
  cases H
  refine et (λhq=>?_)
  cases hq
  refine wI ?_
  exact wo
 exact ao H
def qr (a0:ae) (a1:av) (a2:Int):Option (ae×av):=
 aaC (gr a0) λr1=>aaC (nn r1 a2) λr2=>bif leB r2 0 then(aaC (eN a1) λr3=>some (r1,r3)) else(aaC (Sq r2 r1.gT.dQ) λr4=>aaC (oR a1 r1.bC r4) λr5=>some ({r1 with bC:=r5.2},r5.1))
theorem DO {a0:ae} {a1:av} {a2:Int} {r:ae×av} (H:qr a0 a1 a2=some r):Fn prog 283 [.agg (cG a0),.agg (dB a1),aI a2] [.agg (qM [.o,.o,.o] (cW r.1)),.agg (qM [.o] (cT r.2))]:=by
 refine fI func283 ntmps283 ?_
 refine aa H λr1 q1 H=>nA (ca (hF:=kX q1)) ?_
 refine aa H λr2 q2 H=>nA (ca (hF:=wz q2)) ?_
 refine cC H ?_ ?_<;>intro H
 .refine zI (List.range 5) ?_
  refine aa H λr3 q3 H=>zA (ca (hF:=fj q3)) ?_
  refine wA (spx 100536) ?_
  refine wA (spx 100535) ?_
  exact ao H
 refine zI (List.range 16) ?_
 refine aa H λr4 q4 H=>zA (ca (hF:=Mc q4)) ?_
 refine aa H λr5 q5 H=>zA (ca (hF:=Cl q5)) ?_
 refine wA (spx 100540) ?_
 refine wA (spx 100539) ?_
 refine zI (List.range 4) ?_
 refine wA (spx 100538) ?_
 refine wA (spx 100537) ?_
 exact ao H
def db (a0:ae) (a1:List aR):Option bT:=
 aaC (gr a0) λr1=>aaC (fN a1) λr2=>some (⟨r1,r2⟩:bT)
theorem ef {a0:ae} {a1:List aR} {r:bT} (H:db a0 a1=some r):Fn prog 291 [.agg (cG a0),aL (a1.map dY)] [.agg (qM [.o,.o,.o,.o] (dU r))]:=by
 refine fI func291 ntmps291 ?_
 refine aa H λr1 q1 H=>nA (ca (hF:=kX q1)) ?_
 refine aa H λr2 q2 H=>nA (ca (hF:=lW q2)) ?_
 exact ao H
def lU (a0:Int) (a1:Int):Option Int:=
 aaC (eJ a0 [1,a1]) λr1=>some (Int.tmod r1 1000000)
theorem vF {a0:Int} {a1:Int} {r:Int} (H:lU a0 a1=some r):Fn prog 310 [aI a0,aI a1] [.c (.d (.i .i64 r))]:=by
 refine fI func310 ntmps310 ?_
 refine aa H λr1 q1 H=>nA (ca (hF:=eM q1)) ?_
 refine nA (ir rfl rfl rfl (by decide)) ?_
 exact ao H
def mY (a0:du) (a1:Int):Option Int:=
 aaC (eJ 29 [a0.d8,a0.bI,a1]) λr1=>some r1
theorem A5 {a0:du} {a1:Int} {r:Int} (H:mY a0 a1=some r):Fn prog 327 [.agg (qZ a0),aI a1] [.c (.d (.i .i64 r))]:=by
 refine fI func327 ntmps327 ?_
 refine aa H λr1 q1 H=>nA (ca (hF:=eM q1)) ?_
 exact ao H
def wr (a0:Int) (r1:List Int):(Int×List Int)->Option (cK (Int×List Int) (List Int))
 |(v2,v3)=>bif ltB v2 (r1.length:Int) then(aaC (ix v3 v2) λx8=>aaC (eJ a0 [v2]) λr9=>aaC (ix v3 v2) λx10=>some (.next (WR (v2+1),(v3.set (v2).toNat (IntKind.u8.wrap (x8-(IntKind.u8.wrap (Int.tmod r9 256)))))))) else(some (.done v3))
def zC (a0:Int) (a1:List Int):Option (List Int):=
 aaC (eK a1) λr1=>aaC (iter (wr a0 r1) FU (0,r1)) λ(v7:List Int)=>some v7
theorem Ma {a0:Int} {a1:List Int} {r:List Int} (H:zC a0 a1=some r):Fn prog 253 [aI a0,aL (a1.map eU8)] [.c (.own 5 1 (r.map eU8) r.length)]:=by
 refine fI func253 ntmps253 ?_
 refine aa H λr1 q1 H=>nA (ca (hF:=gq q1)) ?_
 refine aa H λv7 Hj H=>jB ⟨[(5,.v (.c (.w 0 v7.length)))],[(0,w5 v7)],1⟩ ?_ ?_
 .refine iT Hj (λq=>⟨[(0,tI a0),(5,.v (.c (.w 0 q.2.length))),(10,tI (r1.length:Int)),(11,tI q.1)],[(0,w5 q.2)],1⟩) ?_
  rintro⟨v2,v3⟩ o H
  try dsimp only
  refine wI ?_
  refine cC H ?_ ?_<;>intro H
  .refine mz [0,1,2,3,4,5,6,7,8,9,10,11,12] (h:=?_)
   refine wkb ?_
   refine aa H λx8 hx8 H=>iS rfl (xwT hx8) ?_
   refine wkb ?_
   refine iS rfl (oe (he:=eU _ hx8)) ?_
   refine wkb ?_
   refine tg rfl (bsx (bs rfl rfl rfl rfl rfl rfl rfl rfl) rfl) ?_
   refine wkb ?_
   refine aa H λr9 q9 H=>iS rfl (ca (hF:=eM q9)) ?_
   refine wkb ?_
   refine iS rfl (ir rfl rfl rfl (by decide)) ?_
   refine wkb ?_
   refine aa H λx10 hx10 H=>iS rfl (xwT hx10) ?_
   refine wkb ?_
   refine AU (by kernel_rfl) rfl (by kernel_rfl) b7 (jp rfl (soT (enc:=eU8) (a':=IntKind.u8.wrap (x8-(IntKind.u8.wrap (Int.tmod r9 256)))) hx10)) b7 rfl ?_
   refine wkb ?_
   refine wI ?_
   cases H
   refine eA ?_
   exact wo
  cases H
  refine et (λhq=>?_)
  cases hq
  refine wI ?_
  exact wo
 exact ao H
def qt (a0:Int) (a1:Int) (a2:Int):Option Int:=
 aaC (bE a2 0 999999) λr1=>bif !r1 then(some (-1)) else(aaC (eJ a0 [5,a1,a2]) λr2=>some (WR ((WR (1000000*(Int.tmod r2 1000)))+a2)))
theorem DX {a0:Int} {a1:Int} {a2:Int} {r:Int} (H:qt a0 a1 a2=some r):Fn prog 357 [aI a0,aI a1,aI a2] [.c (.d (.i .i64 r))]:=by
 refine fI func357 ntmps357 ?_
 refine aa H λr1 q1 H=>nA (ca (hF:=bA q1)) ?_
 refine cC H ?_ ?_<;>intro H
 .exact ao H
 refine aa H λr2 q2 H=>nA (ca (hF:=eM q2)) ?_
 refine nA (ir rfl rfl rfl (by decide)) ?_
 exact ao H
def rj (a0:aw):Option aw:=
 aaC (bif eqB a0.aG 2 then(some 3) else(some a0.aG)) λ(v1:Int)=>aaC (kT {a0 with aG:=v1}) λr2=>some r2
theorem HP {a0:aw} {r:aw} (H:rj a0=some r):Fn prog 182 [.agg (dq a0)] [.agg (qM [.o,.o] (fL r))]:=by
 refine fI func182 ntmps182 ?_
 refine aa H λv1 Hj H=>jA ⟨[(1,tP 0),(2,tP 1)],[(0,.var 86 (kM [.f,.f] (fL {a0 with aG:=v1}))),(1,.var 86 (kM [.z,.z] (fL xh)))],2⟩ ?_ ?_
 .refine cC Hj ?_ ?_<;>intro H
  .exact ai H
  exact ai H
 refine aa H λr2 q2 H=>nA (ca (hF:=tx q2)) ?_
 exact ao H
end Go.AM
