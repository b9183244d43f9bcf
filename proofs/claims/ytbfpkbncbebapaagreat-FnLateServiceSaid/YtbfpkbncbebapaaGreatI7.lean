/- A part. -/
import Derived.Test.YtbfpkbncbebapaaGreatI6
set_option linter.unusedVariables false
open Option renaming bind->aaC
namespace Go.AM
open Go.Proofs
open Tryz
attribute [local irreducible] AWN NS AWO AWR AWC DR dO ip
set_option maxRecDepth 100000
set_option maxHeartbeats 40000000
def il (a0:ab):Int->Option (cK (Int) (Bool))
 |v7=>bif ltB v7 (a0.aA.length:Int) then(aaC (ix a0.aA v7) λx8=>aaC (bE x8.aJ 0 (WR ((a0.ah.length:Int)-1))) λr9=>aaC (bif !r9 then(some true) else(aaC (jF a0.bX x8.aE) λr11=>some (!r11))) λ(v10:Bool)=>bif v10 then(dn (some false)) else(some (.next (WR (v7+1))))) else(dn (bif leB 0 (a0.bX.aZ.length:Int) then(aaC (bE a0.bp 0 (WR ((mW .i64 1 (a0.bX.aZ.length:Int))-1))) λr12=>aaC (bif r12 then(aaC (bE a0.gZ 0 100000) λr14=>bif r14 then(some (leB 0 a0.Lost)) else(some false)) else(some false)) λ(v13:Bool)=>some v13) else none))
def ik (a0:ab):Int->Option (cK (Int) (Bool))
 |v5=>bif ltB v5 (a0.ah.length:Int) then(aaC (jG a0 v5) λr6=>bif !r6 then(dn (some false)) else(some (.next (WR (v5+1))))) else(dn (bif ltB 200 (a0.aA.length:Int) then(some false) else(iter (il a0) FU 0)))
def fo (a0:ab):Option Bool:=
 aaC (sD a0.bX) λr1=>aaC (bif !r1 then(some true) else(aaC (jw a0.eD) λr3=>bif !r3 then(some true) else(some (eqB a0.eD.f7 0)))) λ(v2:Bool)=>bif v2 then(some false) else(aaC (bif ltB 4 (a0.ah.length:Int) then(some true) else(bif !eqB (a0.aj.length:Int) (a0.ah.length:Int) then(some true) else(some (!eqB (a0.aB.length:Int) (a0.ah.length:Int))))) λ(v4:Bool)=>bif v4 then(some false) else(iter (ik a0) FU 0))
theorem iH {a0:ab} {r:Bool} (H:fo a0=some r):Fn prog 22 [.agg (fC a0)] [.c (.d (.b r))]:=by
 refine fI func22 ntmps22 ?_
 refine aa H λr1 q1 H=>nA (ca (hF:=Fe q1)) ?_
 refine aa H λv2 Hj H=>jR ⟨[(1,tP 0),(21,tB v2)],[(0,.var 34 (kM [.f,.f,.f,.f,.f] (bD a0)))],1⟩ ?_ ?_
 .refine gC Hj ?_ ?_<;>intro H
  .exact ai H
  refine aa H λr3 q3 H=>nG (ca (hF:=DQ q3)) ?_
  refine gC H ?_ ?_<;>intro H
  .exact ai H
  exact ai H
 refine cC H ?_ ?_<;>intro H
 .exact ao H
 refine aa H λv4 Hj H=>jR ⟨[(1,tP 0),(43,tB v4)],[(0,.var 34 (kM [.f,.f,.f,.f,.f] (bD a0)))],1⟩ ?_ ?_
 .refine gC Hj ?_ ?_<;>intro H
  .exact ai H
  refine gC H ?_ ?_<;>intro H
  .exact ai H
  exact ai H
 refine cC H ?_ ?_<;>intro H
 .exact ao H
 refine iT H (λq=>⟨[(1,tP 0),(46,tI (a0.ah.length:Int)),(47,tI q)],[(0,.var 34 (kM [.f,.f,.f,.f,.f] (bD a0)))],1⟩) ?_
 rintro v5 o H
 try dsimp only
 refine wI ?_
 refine cC H ?_ ?_<;>intro H
 .refine aa H λr6 q6 H=>nA (ca (hF:=wM q6)) ?_
  refine cC H ?_ ?_<;>intro H
  .obtain⟨r0,Hd,rfl⟩:=dnE H
   refine mR (λhq=>?_)
   have H:=Hd.trans (congrArg some hq)
   refine wI ?_
   exact ao H
  cases H
  refine eA ?_
  exact wo
 obtain⟨r0,Hd,rfl⟩:=dnE H
 refine et (λhq=>?_)
 have H:=Hd.trans (congrArg some hq)
 refine wI ?_
 refine cC H ?_ ?_<;>intro H
 .exact ao H
 refine iT H (λq=>⟨[(1,tP 0),(60,.v (.c (.d false (.l (a0.aA.map eH))))),(61,tI (a0.aA.length:Int)),(62,tI q)],[(0,.var 34 (kM [.f,.f,.f,.f,.f] (bD a0)))],1⟩) ?_
 rintro v7 o H
 try dsimp only
 refine wI ?_
 refine cC H ?_ ?_<;>intro H
 .refine aa H λx8 hx8 H=>nA (xdT (enc:=eH) hx8) ?_
  refine aa H λr9 q9 H=>nA (ca (hF:=bA q9)) ?_
  refine aa H λv10 Hj H=>jR ⟨[(1,tP 0),(60,.v (.c (.d false (.l (a0.aA.map eH))))),(61,tI (a0.aA.length:Int)),(62,tI v7),(81,tB v10)],[(0,.var 34 (kM [.f,.f,.f,.f,.f] (bD a0)))],1⟩ ?_ ?_
  .refine gC Hj ?_ ?_<;>intro H
   .exact ai H
   refine aa H λr11 q11 H=>nG (ca (hF:=lD q11)) ?_
   exact ai H
  refine cC H ?_ ?_<;>intro H
  .obtain⟨r0,Hd,rfl⟩:=dnE H
   refine mR (λhq=>?_)
   have H:=Hd.trans (congrArg some hq)
   refine wI ?_
   exact ao H
  cases H
  refine eA ?_
  exact wo
 obtain⟨r0,Hd,rfl⟩:=dnE H
 refine et (λhq=>?_)
 have H:=Hd.trans (congrArg some hq)
 refine wI ?_
 refine dI ?_
 obtain⟨h,H⟩:=rq H
 refine dA (XE h rfl rfl rfl rfl) ?_
 refine aa H λr12 q12 H=>dA (ca (hF:=bA q12)) ?_
 refine aa H λv13 Hj H=>jt ⟨[(2,tB v13)],[],0⟩ ?_ ?_
 .have H:=Hj
  refine wI ?_
  refine dC H ?_ ?_<;>intro H
  .refine aa H λr14 q14 H=>dG (ca (hF:=bA q14)) ?_
   refine dC H ?_ ?_<;>intro H
   .refine wI ?_
    exact ai H
   refine wI ?_
   exact ai H
  refine wI ?_
  exact ai H
 refine wI ?_
 exact ao H
def fr (a0:ab):Option ab:=
 aaC (zQ a0.bX) λr1=>aaC (fy a0.ah) λr2=>aaC (eT a0.aj) λr3=>aaC (eS a0.aB) λr4=>aaC (fA a0.aA) λr5=>some (⟨r1,r2,r3,r4,r5,a0.bp,a0.eD,a0.gZ,a0.Lost⟩:ab)
theorem im {a0:ab} {r:ab} (H:fr a0=some r):Fn prog 48 [.agg (fC a0)] [.agg (qM [.o,.o,.o,.o,.o] (bD r))]:=by
 refine fI func48 ntmps48 ?_
 refine aa H λr1 q1 H=>nA (ca (hF:=Mj q1)) ?_
 refine aa H λr2 q2 H=>sA (cwv [] [(210,3)] 4 (lH q2)) ?_
 refine aa H λr3 q3 H=>sA (cwv [] [(210,4)] 5 (kV q3)) ?_
 refine aa H λr4 q4 H=>sA (cwv [] [(210,5)] 6 (kU q4)) ?_
 refine aa H λr5 q5 H=>sA (cwv [] [(210,6)] 7 (lI q5)) ?_
 exact ao H
def jT (a1:Int) (a2:bg):(Int×ab)->Option (cK (Int×ab) (ab))
 |(v2,v13)=>bif ltB v2 (a2.bL.length:Int) then(aaC (ix a2.bL v2) λx27=>aaC (pz v13 (⟨a1,true,false,x27.aE,x27,gx⟩:a9)) λr28=>some (.next (WR (v2+1),r28))) else(some (.done v13))
def fw (a0:ab) (a1:Int) (a2:bg):Option ab:=
 aaC (ix a0.ah a1) λx1=>aaC (iter (jT a1 a2) FU (0,{a0 with ah:=(a0.ah.set (a1).toNat a2.aJ)})) λ(v26:ab)=>some v26
theorem kY {a0:ab} {a1:Int} {a2:bg} {r:ab} (H:fw a0 a1 a2=some r):FnV prog 145 (nI a0) [tP 200,tI a1,.v (.agg (kM [.t,.t,.t] (cM a2)))] (nI r) (.tup []) []:=by
 refine fV func145 ntmps145 ?_
 refine zI (List.range 9) ?_
 refine aa H λx1 hx1 H=>zA (xwT hx1) ?_
 refine zB b7 (jp rfl (soT (enc:=dq) (a':=a2.aJ) hx1)) b7 ?_
 refine aa H λv26 Hj H=>jB ⟨[],(nI v26),210⟩ ?_ ?_
 .refine iT Hj (λq=>⟨[(0,tP 200),(1,tI a1),(17,.v (.c (.d true (.l (a2.bL.map dY))))),(18,tI (a2.bL.length:Int)),(19,tI q.1)],(nI q.2),210⟩) ?_ (by refine aH (wB 190 ((a0.ah.set (a1).toNat a2.aJ).length)) ?_;exact wo)
  rintro⟨v2,v13⟩ o H
  try dsimp only
  refine wI ?_
  refine cC H ?_ ?_<;>intro H
  .refine aa H λx27 hx27 H=>nA (xdT (enc:=dY) hx27) ?_
   refine aa H λr28 q28 H=>sA (cwu m0 [] 211 (HV q28)) ?_
   cases H
   refine eA ?_
   exact wo
  cases H
  refine et (λhq=>?_)
  cases hq
  refine wI ?_
  exact wo
 cases H
 exact rf
def jQ (a1:List Int):(Int×Int)->Option (cK (Int×Int) (Int))
 |(v1,v2)=>bif ltB v2 (a1.length:Int) then(aaC (ix a1 v2) λx6=>aaC (oi v1 x6) λr7=>some (.next (r7,WR (v2+1)))) else(some (.done v1))
def uY (a0:Int) (a1:List Int):Option Int:=
 aaC (iter (jQ a1) FU (a0,0)) λ(v5:Int)=>some v5
theorem D2 {a0:Int} {a1:List Int} {r:Int} (H:uY a0 a1=some r):Fn prog 317 [aI a0,aL (a1.map eI)] [.c (.d (.i .i64 r))]:=by
 refine fI func317 ntmps317 ?_
 refine aa H λv5 Hj H=>jB ⟨[(0,tI v5)],[],0⟩ ?_ ?_
 .refine iT Hj (λq=>⟨[(0,tI q.1),(7,.v (.c (.d false (.l (a1.map eI))))),(8,tI (a1.length:Int)),(9,tI q.2)],[],0⟩) ?_
  rintro⟨v1,v2⟩ o H
  try dsimp only
  refine wI ?_
  refine cC H ?_ ?_<;>intro H
  .refine aa H λx6 hx6 H=>nA (xdT (enc:=eI) hx6) ?_
   refine aa H λr7 q7 H=>nA (ca (hF:=uR q7)) ?_
   cases H
   refine eA ?_
   exact wo
  cases H
  refine et (λhq=>?_)
  cases hq
  refine wI ?_
  exact wo
 exact ao H
def DU (a0:Int) (a1:Int) (a2:Int) (a3:List Int):Option b5:=
 aaC (oi a0 (WR ((WR (2*a2))+a1))) λr1=>aaC (zD r1 a3) λr2=>aaC (mL a0 a1 a2 r2) λr3=>some (⟨a1,a2,r2,r3⟩:b5)
theorem Mg {a0:Int} {a1:Int} {a2:Int} {a3:List Int} {r:b5} (H:DU a0 a1 a2 a3=some r):Fn prog 324 [aI a0,aI a1,aI a2,aL (a3.map eU8)] [.agg (qM [.o] (tW r))]:=by
 refine fI func324 ntmps324 ?_
 refine aa H λr1 q1 H=>nA (ca (hF:=uR q1)) ?_
 refine aa H λr2 q2 H=>nA (ca (hF:=Mb q2)) ?_
 refine aa H λr3 q3 H=>nA (ca (hF:=yg q3)) ?_
 exact ao H
def jk (a1:Int) (a2:List aR):(Int×ab)->Option (cK (Int×ab) (ab))
 |(v1,v12)=>bif ltB v1 (a2.length:Int) then(aaC (ix a2 v1) λx26=>aaC (pz v12 {bU with aJ:=a1,aE:=x26.aE,aM:=x26}) λr27=>some (.next (WR (v1+1),r27))) else(some (.done v12))
def kc (a0:ab) (a1:Int) (a2:List aR):Option ab:=
 aaC (iter (jk a1 a2) FU (0,a0)) λ(v25:ab)=>some v25
theorem vJ {a0:ab} {a1:Int} {a2:List aR} {r:ab} (H:kc a0 a1 a2=some r):FnV prog 148 (nI a0) [tP 200,tI a1,.v (.c (.d true (.l (a2.map dY))))] (nI r) (.tup []) []:=by
 refine fV func148 ntmps148 ?_
 refine aa H λv25 Hj H=>jB ⟨[],(nI v25),210⟩ ?_ ?_
 .refine iT Hj (λq=>⟨[(0,tP 200),(1,tI a1),(8,.v (.c (.d true (.l (a2.map dY))))),(9,tI (a2.length:Int)),(10,tI q.1)],(nI q.2),210⟩) ?_
  rintro⟨v1,v12⟩ o H
  try dsimp only
  refine wI ?_
  refine cC H ?_ ?_<;>intro H
  .refine aa H λx26 hx26 H=>nA (xdT (enc:=dY) hx26) ?_
   refine aa H λr27 q27 H=>sA (cwu m0 [] 211 (HV q27)) ?_
   cases H
   refine eA ?_
   exact wo
  cases H
  refine et (λhq=>?_)
  cases hq
  refine wI ?_
  exact wo
 cases H
 exact rf
def kR (a0:Int) (a1:Int) (a2:Int):Option dH:=
 aaC (bE a2 0 999999) λr1=>bif !r1 then(some c7) else(aaC (lU a0 a1) λr2=>aaC (eJ a0 [2,a1,a2]) λr3=>aaC (eJ a0 [3,a1]) λr4=>aaC (eJ a0 [4,a1,a2]) λr5=>aaC (bif eqB r5 0 then(some 1) else(some r5)) λ(v6:Int)=>some (⟨a1,Int.tmod (WR (a2+r2)) 1000000,r3,r4,v6⟩:dH))
theorem ua {a0:Int} {a1:Int} {a2:Int} {r:dH} (H:kR a0 a1 a2=some r):Fn prog 356 [aI a0,aI a1,aI a2] [.agg (qM [] (lv r))]:=by
 refine fI func356 ntmps356 ?_
 refine aa H λr1 q1 H=>nA (ca (hF:=bA q1)) ?_
 refine cC H ?_ ?_<;>intro H
 .exact ao H
 refine aa H λr2 q2 H=>nA (ca (hF:=vF q2)) ?_
 refine nA (ir rfl rfl rfl (by decide)) ?_
 refine aa H λr3 q3 H=>nA (ca (hF:=eM q3)) ?_
 refine aa H λr4 q4 H=>nA (ca (hF:=eM q4)) ?_
 refine aa H λr5 q5 H=>nA (ca (hF:=eM q5)) ?_
 refine aa H λv6 Hj H=>jA ⟨[(6,tP 0),(7,tP 4)],[(0,.var 40 (kM [] (lv c7))),(4,.var 40 (kM [] (lv (⟨a1,Int.tmod (WR (a2+r2)) 1000000,r3,r4,v6⟩:dH))))],5⟩ ?_ ?_
 .refine cC Hj ?_ ?_<;>intro H
  .exact ai H
  exact ai H
 exact ao H
def uV (a0:Int) (a1:b5):Option Bool:=
 aaC (mL a0 a1.ea a1.ks a1.a8) λr1=>some (eqB a1.tL r1)
theorem HS {a0:Int} {a1:b5} {r:Bool} (H:uV a0 a1=some r):Fn prog 243 [aI a0,.agg (lr a1)] [.c (.d (.b r))]:=by
 refine fI func243 ntmps243 ?_
 refine dI ?_
 refine aa H λr1 q1 H=>dA (ca (hF:=yg q1)) ?_
 refine wI ?_
 exact ao H
def u6 (a0:Int) (a1:b5):Option (List Int):=
 aaC (oi a0 (WR ((WR (2*a1.ks))+a1.ea))) λr1=>aaC (zC r1 a1.a8) λr2=>some r2
theorem wR {a0:Int} {a1:b5} {r:List Int} (H:u6 a0 a1=some r):Fn prog 174 [aI a0,.agg (lr a1)] [.c (.own 5 1 (r.map eU8) r.length)]:=by
 refine fI func174 ntmps174 ?_
 refine dI ?_
 refine aa H λr1 q1 H=>dA (ca (hF:=uR q1)) ?_
 refine aa H λr2 q2 H=>dA (ca (hF:=Ma q2)) ?_
 refine wI ?_
 exact ao H
def jP (a0:Int) (a1:Int) (a2:Int):Option Int:=
 aaC (PG a2 1000000) λr1=>aaC (lU a0 a1) λr2=>aaC (PG (WR (r1-r2)) 1000000) λr3=>some r3
theorem sL {a0:Int} {a1:Int} {a2:Int} {r:Int} (H:jP a0 a1 a2=some r):Fn prog 245 [aI a0,aI a1,aI a2] [.c (.d (.i .i64 r))]:=by
 refine fI func245 ntmps245 ?_
 refine aa H λr1 q1 H=>nA (ca (hF:=Me q1)) ?_
 refine aa H λr2 q2 H=>nA (ca (hF:=vF q2)) ?_
 refine aa H λr3 q3 H=>nA (ca (hF:=Me q3)) ?_
 exact ao H
def jE (a0:ab) (a1:cr):Option (Bool×ab):=
 aaC (bE a1.bR 0 (WR ((a0.ah.length:Int)-1))) λr1=>bif !r1 then(some (false,a0)) else(aaC (ix a0.ah a1.bR) λx2=>bif !eqB x2.aG 2 then(some (false,a0)) else(aaC (ix a0.ah a1.bR) λx3=>aaC (rj x3) λr4=>aaC (ix a0.ah a1.bR) λx5=>some (true,{a0 with ah:=(a0.ah.set (a1.bR).toNat r4)})))
theorem tw {a0:ab} {a1:cr} {r:Bool×ab} (H:jE a0 a1=some r):FnV prog 114 (nI a0) [tP 200,.v (.agg (kM [.t,.t] (oL {a1 with aS:=7})))] (nI r.2) (.v (.c (.d false (.b r.1)))) []:=by
 refine fV func114 ntmps114 ?_
 refine aa H λr1 q1 H=>nA (ca (hF:=bA q1)) ?_
 refine cC H ?_ ?_<;>intro H
 .cases H
  exact cV
 refine aa H λx2 hx2 H=>nA (xwT hx2) ?_
 refine nA (oe (he:=eU _ hx2)) ?_
 refine cC H ?_ ?_<;>intro H
 .cases H
  exact cV
 refine zI (List.range 15) ?_
 refine aa H λx3 hx3 H=>zA (xwT hx3) ?_
 refine zA (oea (he:=eU _ hx3)) ?_
 refine aa H λr4 q4 H=>zA (ca (hF:=HP q4)) ?_
 refine aa H λx5 hx5 H=>zA (xwT hx5) ?_
 refine zB (aH (bw (o:=211)) (aH (bw (o:=212)) (bJ (k:=102)))) (jp rfl (soT (enc:=dq) (a':=r4) hx5)) b7 ?_
 cases H
 refine bO ((wB 190 ((a0.ah.set (a1.bR).toNat r4).length))) ?_
 exact cV
end Go.AM
