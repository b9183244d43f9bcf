/- A part. -/
import Derived.Test.YtbfpkbncbebapaaGreatS0
set_option linter.unusedVariables false
open Option renaming bind->YL
namespace Go.AM
open Go.Proofs
open Tryz
attribute [local irreducible] AWN NS AWO AWR AWC DR dQ gQ
set_option maxRecDepth 100000
set_option maxHeartbeats 40000000
def co (a0:aT) (a1:Int):Option (Int×aT):=
 bif leB a1 0 then(some (0,a0)) else(bif leB a1 256 then(YL (sx a0) λr1=>bif !eqB a1 0 then(some (Int.tmod r1.1 a1,r1.2)) else none) else(YL (sx a0) λr2=>YL (sx r2.2) λr3=>YL (sx r3.2) λr4=>bif !eqB a1 0 then(some (Int.tmod (WR ((WR ((WR (r2.1*65536))+(WR (r3.1*256))))+r4.1)) a1,r4.2)) else none))
theorem bU {a0:aT} {a1:Int} {r:Int×aT} (H:co a0 a1=some r):FnW prog 71 (.var 148 (kM [.f] (bS a0))) [tP 200,tI a1] (.var 148 (kM [.f] (bS r.2))) [.c (.d (.i .i64 r.1))]:=by
 refine fW func71 ntmps71 ?_
 refine cC H ?_ ?_<;>intro H
 .cases H
  exact fo
 refine cC H ?_ ?_<;>intro H
 .refine aa H λr1 q1 H=>sA (cw (o:=200) (tQ q1)) ?_
  obtain⟨h,H⟩:=rq H
  refine nA (ir rfl rfl rfl (ne0 h)) ?_
  cases H
  exact fo
 refine aa H λr2 q2 H=>sA (cw (o:=200) (tQ q2)) ?_
 refine aa H λr3 q3 H=>sA (cw (o:=200) (tQ q3)) ?_
 refine aa H λr4 q4 H=>sA (cw (o:=200) (tQ q4)) ?_
 obtain⟨h,H⟩:=rq H
 refine nA (ir rfl rfl rfl (ne0 h)) ?_
 cases H
 exact fo
def mV (a0:aM) (v1:Int) (x2:eH):Int->Option (cf (Int) (cf (Int) (Bool)))
 |v4=>bif ltB v4 (x2.bX.length:Int) then(YL (ix x2.bX v4) λx5=>YL (cO x5 0 (WR ((a0.aR.length:Int)-1))) λr6=>YL (bif !r6 then(some true) else(bif eqB x5 v1 then(some true) else(bif ltB 0 v4 then(YL (ix x2.bX (WR (v4-1))) λx8=>bif leB x5 x8 then(some true) else(YL (ix a0.aR x5) λx9=>YL (Ao x9.bX v1) λr10=>some (!r10))) else(YL (ix a0.aR x5) λx11=>YL (Ao x11.bX v1) λr12=>some (!r12))))) λ(v7:Bool)=>bif v7 then(dn (dn (some false))) else(some (.next (WR (v4+1))))) else(dn (some (.next (WR (v1+1)))))
def mU (a0:aM):Int->Option (cf (Int) (Bool))
 |v1=>bif ltB v1 (a0.aR.length:Int) then(YL (ix a0.aR v1) λx2=>YL (cO x2.fB 0 2) λr3=>bif !r3 then(dn (some false)) else(iter (mV a0 v1 x2) FU 0)) else(dn (YL (cO (a0.aR.length:Int) 1 6) λr13=>some r13))
def oO (a0:aM):Option Bool:=
 iter (mU a0) FU 0
theorem ye {a0:aM} {r:Bool} (H:oO a0=some r):Fn prog 133 [.agg (gI a0)] [.c (.d (.b r))]:=by
 refine fI func133 ntmps133 ?_
 refine iT H (λq=>⟨[(1,tP 0),(3,tI q)],[(0,.var 26 [.d false (.l (a0.aR.map cQ))])],1⟩) ?_
 rintro v1 o H
 try dsimp only
 refine wI ?_
 refine cC H ?_ ?_<;>intro H
 .refine aa H λx2 hx2 H=>nA (xdT (enc:=cQ) hx2) ?_
  refine aa H λr3 q3 H=>nA (ca (hF:=bT q3)) ?_
  refine cC H ?_ ?_<;>intro H
  .obtain⟨r0,Hd,rfl⟩:=dnE H
   refine f6 (λhq=>?_)
   have H:=Hd.trans (congrArg some hq)
   refine wI ?_
   exact ao H
  refine iT H (λq=>⟨[(1,tP 0),(3,tI v1),(4,tP 1),(5,tI q)],[(0,.var 26 [.d false (.l (a0.aR.map cQ))]),(1,.var 158 (kM [.f] (K9 x2)))],2⟩) ?_
  rintro v4 o H
  try dsimp only
  refine wI ?_
  refine cC H ?_ ?_<;>intro H
  .refine aa H λx5 hx5 H=>nA (xdT (enc:=eI) hx5) ?_
   refine aa H λr6 q6 H=>nA (ca (hF:=bT q6)) ?_
   refine aa H λv7 Hj H=>jR ⟨[(1,tP 0),(3,tI v1),(4,tP 1),(5,tI v4),(71,tB v7)],[(0,.var 26 [.d false (.l (a0.aR.map cQ))]),(1,.var 158 (kM [.f] (K9 x2)))],2⟩ ?_ ?_
   .refine gC Hj ?_ ?_<;>intro H
    .exact ai H
    refine gC H ?_ ?_<;>intro H
    .exact ai H
    refine gC H ?_ ?_<;>intro H
    .refine aa H λx8 hx8 H=>nG (xdT (enc:=eI) hx8) ?_
     refine gC H ?_ ?_<;>intro H
     .exact ai H
     refine aa H λx9 hx9 H=>nG (xdT (enc:=cQ) hx9) ?_
     refine aa H λr10 q10 H=>nG (ca (hF:=Bp q10)) ?_
     exact ai H
    refine aa H λx11 hx11 H=>nG (xdT (enc:=cQ) hx11) ?_
    refine aa H λr12 q12 H=>nG (ca (hF:=Bp q12)) ?_
    exact ai H
   refine cC H ?_ ?_<;>intro H
   .obtain⟨r0,Hd,rfl⟩:=dnE H
    refine f6 (λhq=>?_)
    have H:=Hd.trans (congrArg some hq)
    refine wI ?_
    obtain⟨r0,Hd,rfl⟩:=dnE H
    refine f6 (λhq=>?_)
    have H:=Hd.trans (congrArg some hq)
    refine wI ?_
    exact ao H
   cases H
   refine dy ?_
   exact wo
  obtain⟨r0,Hd,rfl⟩:=dnE H
  refine dF (λhq=>?_)
  have H:=Hd.trans (congrArg some hq)
  refine wI ?_
  cases H
  refine dy ?_
  exact wo
 obtain⟨r0,Hd,rfl⟩:=dnE H
 refine dF (λhq=>?_)
 have H:=Hd.trans (congrArg some hq)
 refine wI ?_
 refine aa H λr13 q13 H=>nA (ca (hF:=bT q13)) ?_
 exact ao H
def gh (a0:bk):Int->Option (cf (Int) (Bool))
 |v1=>bif ltB v1 (a0.bj.length:Int) then(YL (ix a0.bj v1) λx2=>YL (cO x2 0 3) λr3=>YL (bif !r3 then(some true) else(bif ltB 0 v1 then(YL (ix a0.bj (WR (v1-1))) λx5=>YL (ix a0.bj v1) λx6=>some (leB x6 x5)) else(some false))) λ(v4:Bool)=>bif v4 then(dn (some false)) else(some (.next (WR (v1+1))))) else(dn (YL (cO a0.gH 1 1000) λr7=>YL (bif r7 then(YL (cO a0.gG 1 4) λr9=>bif r9 then(YL (cO a0.eg 1 100000) λr10=>some r10) else(some false)) else(some false)) λ(v8:Bool)=>some v8))
def fZ (a0:bk):Option Bool:=
 iter (gh a0) FU 0
theorem mY {a0:bk} {r:Bool} (H:fZ a0=some r):Fn prog 207 [.agg (gL a0)] [.c (.d (.b r))]:=by
 refine fI func207 ntmps207 ?_
 refine iT H (λq=>⟨[(1,tP 0),(3,tI q)],[(0,.var 59 (kM [.f] (dD a0)))],1⟩) ?_
 rintro v1 o H
 try dsimp only
 refine wI ?_
 refine cC H ?_ ?_<;>intro H
 .refine dI ?_
  refine aa H λx2 hx2 H=>dA (xdT (enc:=eI) hx2) ?_
  refine aa H λr3 q3 H=>dA (ca (hF:=bT q3)) ?_
  refine aa H λv4 Hj H=>et ⟨[(1,tP 0),(3,tI v1),(35,tB v4)],[(0,.var 59 (kM [.f] (dD a0)))],1⟩ ?_ ?_
  .have H:=Hj
   refine wI ?_
   refine dC H ?_ ?_<;>intro H
   .refine wI ?_
    exact ai H
   refine dC H ?_ ?_<;>intro H
   .refine aa H λx5 hx5 H=>dG (xdT (enc:=eI) hx5) ?_
    refine aa H λx6 hx6 H=>dG (xdT (enc:=eI) hx6) ?_
    refine wI ?_
    exact ai H
   refine wI ?_
   exact ai H
  refine wI ?_
  refine cC H ?_ ?_<;>intro H
  .refine wI ?_
   obtain⟨r0,Hd,rfl⟩:=dnE H
   refine f6 (λhq=>?_)
   have H:=Hd.trans (congrArg some hq)
   refine wI ?_
   exact ao H
  refine wI ?_
  cases H
  refine dy ?_
  exact wo
 obtain⟨r0,Hd,rfl⟩:=dnE H
 refine dF (λhq=>?_)
 have H:=Hd.trans (congrArg some hq)
 refine wI ?_
 refine aa H λr7 q7 H=>nA (ca (hF:=bT q7)) ?_
 refine aa H λv8 Hj H=>jR ⟨[(2,tB v8)],[],0⟩ ?_ ?_
 .refine gC Hj ?_ ?_<;>intro H
  .refine aa H λr9 q9 H=>nG (ca (hF:=bT q9)) ?_
   refine gC H ?_ ?_<;>intro H
   .refine aa H λr10 q10 H=>nG (ca (hF:=bT q10)) ?_
    exact ai H
   exact ai H
  exact ai H
 exact ao H
def gD (a0:Int):Option Bool:=
 YL (cO a0 1 2147483646) λr1=>some r1
theorem iz {a0:Int} {r:Bool} (H:gD a0=some r):Fn prog 265 [aI a0] [.c (.d (.b r))]:=by
 refine fI func265 ntmps265 ?_
 refine aa H λr1 q1 H=>nA (ca (hF:=bT q1)) ?_
 exact ao H
def fY (a0:dx):Option Bool:=
 YL (cO a0.du 0 3) λr1=>YL (bif r1 then(YL (cO a0.bK 0 99) λr3=>some r3) else(some false)) λ(v2:Bool)=>some v2
theorem mX {a0:dx} {r:Bool} (H:fY a0=some r):Fn prog 318 [.agg (qw a0)] [.c (.d (.b r))]:=by
 refine fI func318 ntmps318 ?_
 refine aa H λr1 q1 H=>nA (ca (hF:=bT q1)) ?_
 refine aa H λv2 Hj H=>jR ⟨[(2,tB v2)],[],0⟩ ?_ ?_
 .refine gC Hj ?_ ?_<;>intro H
  .refine aa H λr3 q3 H=>nG (ca (hF:=bT q3)) ?_
   exact ai H
  exact ai H
 exact ao H
def sa (a0:aG) (a1:bk) (a2:Int):Option ah:=
 YL (tW a1) λr1=>some {qh with bC:=a0,g7:=r1,aw:=(⟨1,[]⟩:aX),bM:={CI with ax:=a2}}
theorem Fs {a0:aG} {a1:bk} {a2:Int} {r:ah} (H:sa a0 a1 a2=some r):Fn prog 211 [.agg (cA a0),.agg (gL a1),aI a2] [.agg (qM [.o,.z,.z] (b8 r))]:=by
 refine fI func211 ntmps211 ?_
 refine zI (List.range 8) ?_
 refine aa H λr1 q1 H=>zA (ca (hF:=Ey q1)) ?_
 refine wA (spx 100027) ?_
 exact ao H
def rY (a0:Int):Option am:=
 YL (cO a0 0 100000) λr1=>YL (bif !r1 then(some 0) else(some a0)) λ(v2:Int)=>some {kP with eJ:=v2,bQ:=v2}
theorem Fr {a0:Int} {r:am} (H:rY a0=some r):Fn prog 212 [aI a0] [.agg (qM [.z] (cG r))]:=by
 refine fI func212 ntmps212 ?_
 refine aa H λr1 q1 H=>nA (ca (hF:=bT q1)) ?_
 refine aa H λv2 Hj H=>jA ⟨[(0,tI v2),(2,tP 0)],[(0,.var 89 (kM [.z] (cG kP)))],1⟩ ?_ ?_
 .refine cC Hj ?_ ?_<;>intro H
  .exact ai H
  exact ai H
 exact ao H
def lV (a0:aX):Option aX:=
 YL (tT a0.az) λr1=>some (⟨a0.bz,r1⟩:aX)
theorem kN {a0:aX} {r:aX} (H:lV a0=some r):Fn prog 275 [.agg (gz a0)] [.agg (qM [.o] (dY r))]:=by
 refine fI func275 ntmps275 ?_
 refine zI (List.range 7) ?_
 refine aa H λr1 q1 H=>zA (ca (hF:=BX q1)) ?_
 refine wA (spx 100074) ?_
 exact ao H
def BV (a1:Int):(Int×List Int×aT)->Option (cf (Int×List Int×aT) (List Int×aT))
 |(v1,v5,v6)=>bif ltB v1 a1 then(YL (sx v6) λr13=>bif dh 1 (v5++[IntKind.u8.wrap (r13.1)]).length then(some (.next (WR (v1+1),(v5++[IntKind.u8.wrap (r13.1)]),r13.2))) else none) else(some (.done (v5,v6)))
def wL (a0:aT) (a1:Int):Option (List Int×aT):=
 YL (iter (BV a1) FU (0,([]:List Int),a0)) λ((v11,v12):List Int×aT)=>some (v11,v12)
theorem Et {a0:aT} {a1:Int} {r:List Int×aT} (H:wL a0 a1=some r):FnW prog 140 (.var 148 (kM [.f] (bS a0))) [tP 200,tI a1] (.var 148 (kM [.f] (bS r.2))) [.c (.own 5 1 (r.1.map eU8) r.1.length)]:=by
 refine fW func140 ntmps140 ?_
 obtain⟨⟨v11,v12⟩,Hj,H⟩:=ob H
 refine jB ⟨[(5,.v (.c (.w 210 v11.length)))],[(200,.var 148 (kM [.f] (bS v12))),(210,w5 v11)],211⟩ ?_ ?_
 .refine iT Hj (λq=>⟨[(0,tP 200),(1,tI a1),(5,.v (.c (.w 210 q.2.1.length))),(6,tI q.1)],[(200,.var 148 (kM [.f] (bS q.2.2))),(210,w5 q.2.1)],211⟩) ?_
  rintro⟨v1,v5,v6⟩ o H
  try dsimp only
  refine wI ?_
  refine cC H ?_ ?_<;>intro H
  .refine aa H λr13 q13 H=>sA (cw (o:=200) (tQ q13)) ?_
   obtain⟨h,H⟩:=rq H
   refine sA (apT (enc:=eU8) (ys:=v5) (zs:=[IntKind.u8.wrap (r13.1)]) h) ?_
   cases H
   refine dy ?_
   exact wo
  cases H
  refine dF (λhq=>?_)
  cases hq
  refine wI ?_
  exact wo
 cases H
 exact fo
def wM (a0:aK):Option aK:=
 YL (tT a0.aF) λr1=>YL (qP a0.aQ) λr2=>some (⟨a0.bz,r1,r2⟩:aK)
theorem Ev {a0:aK} {r:aK} (H:wM a0=some r):Fn prog 276 [.agg (gj a0)] [.agg (qM [.o,.o] (b7 r))]:=by
 refine fI func276 ntmps276 ?_
 refine zI (List.range 10) ?_
 refine aa H λr1 q1 H=>zA (ca (hF:=BX q1)) ?_
 refine aa H λr2 q2 H=>zA (ca (hF:=Ap q2)) ?_
 refine wA (spx 100078) ?_
 exact ao H
def qV (a0:bD):Option bD:=
 YL (Au a0.cr) λr1=>some {a0 with cr:=r1}
theorem Ax {a0:bD} {r:bD} (H:qV a0=some r):Fn prog 221 [.agg (dv a0)] [.agg (qM [.o] (lf r))]:=by
 refine fI func221 ntmps221 ?_
 refine aa H λr1 q1 H=>nA (ca (hF:=LY q1)) ?_
 exact ao H
def kG (a0:a8):Option Bool:=
 YL (cO a0.dP 1 6) λr1=>YL (bif r1 then(bif leB 0 a0.dP then(YL (cO a0.dm 0 (WR ((jY .i64 1 a0.dP)-1))) λr3=>some r3) else none) else(some false)) λ(v2:Bool)=>some v2
theorem qI {a0:a8} {r:Bool} (H:kG a0=some r):Fn prog 54 [.agg (ic a0)] [.c (.d (.b r))]:=by
 refine fI func54 ntmps54 ?_
 refine dI ?_
 refine aa H λr1 q1 H=>dA (ca (hF:=bT q1)) ?_
 refine aa H λv2 Hj H=>et ⟨[(2,tB v2)],[],0⟩ ?_ ?_
 .have H:=Hj
  refine wI ?_
  refine dC H ?_ ?_<;>intro H
  .obtain⟨h,H⟩:=rq H
   refine dG (B8 h rfl rfl rfl rfl) ?_
   refine aa H λr3 q3 H=>dG (ca (hF:=bT q3)) ?_
   refine wI ?_
   exact ai H
  refine wI ?_
  exact ai H
 refine wI ?_
 exact ao H
def CD (a0:List aE) (a1:Int) (a2:Int):Option (List aE):=
 bif dh 16 (([]:List aE)++a0).length then(YL (ix a0 a1) λx1=>bif ltB a2 x1.dV then(YL (ix a0 a1) λx2=>YL (ix (([]:List aE)++a0) a1) λx3=>some ((([]:List aE)++a0).set (a1).toNat (⟨x3.ax,WR (x2.dV-a2)⟩:aE))) else(bif gK (([]:List aE)++a0) 0 a1 then(bif gK a0 (WR (a1+1)) a0.length then(bif dh 16 ((([]:List aE)++a0).take (a1).toNat++(a0.drop (WR (a1+1)).toNat)).length then(some ((([]:List aE)++a0).take (a1).toNat++(a0.drop (WR (a1+1)).toNat))) else none) else none) else none)) else none
theorem Pb {a0:List aE} {a1:Int} {a2:Int} {r:List aE} (H:CD a0 a1 a2=some r):Fn prog 376 [aL (a0.map aZ),aI a1,aI a2] [.c (.own 132 2 (r.map aZ) r.length)]:=by
 refine fI func376 ntmps376 ?_
 obtain⟨h,H⟩:=rq H
 refine eX rfl (apT (enc:=aZ) (ys:=([]:List aE)) (zs:=a0) h) ?_
 refine aW (iX (enc:=aZ) (o:=0)) ?_
 refine aa H λx1 hx1 H=>nA (xdT (enc:=aZ) hx1) ?_
 refine cC H ?_ ?_<;>intro H
 .refine aa H λx2 hx2 H=>nA (xdT (enc:=aZ) hx2) ?_
  refine aa H λx3 hx3 H=>nA (xwT hx3) ?_
  refine sA (soT (enc:=aZ) (a':=(⟨x3.ax,WR (x2.dV-a2)⟩:aE)) hx3) ?_
  exact ao H
 refine zI (List.range 9) ?_
 obtain⟨hs2,H⟩:=rq H
 refine zA (cwfT (enc:=aZ) hs2 (by first|rfl|simp) rfl rfl rfl rfl) ?_
 obtain⟨h,H⟩:=rq H
 refine zA (Vs (enc:=aZ) h (λ_=>rfl) rfl rfl rfl) ?_
 obtain⟨h,H⟩:=rq H
 refine wA (apxPF (enc:=aZ) (h:=a1) (ys:=(([]:List aE)++a0)) (zs:=a0.drop (WR (a1+1)).toNat) [0] hs2 h rfl (λ_=>rfl) (λ_=>rfl) rfl .d rfl rfl rfl rfl rfl rfl) ?_
 refine lD (ds:=[0]) (by kernel_rfl) (by kernel_rfl) rfl ?_
 refine wI ?_
 exact ao H
def jp (a0:aM) (a1:Int):(Int×List Int)->Option (cf (Int×List Int) (List Int))
 |(v1,v2)=>bif ltB v1 (a0.aR.length:Int) then(YL (ix a0.aR v1) λx6=>YL (bif eqB x6.fB a1 then(bif dh 8 (v2++[v1]).length then(some (v2++[v1])) else none) else(some v2)) λ(v7:List Int)=>some (.next (WR (v1+1),v7))) else(some (.done v2))
def pU (a0:aM) (a1:Int):Option (List Int):=
 YL (iter (jp a0 a1) FU (0,([]:List Int))) λ(v5:List Int)=>some v5
theorem D5 {a0:aM} {a1:Int} {r:List Int} (H:pU a0 a1=some r):Fn prog 389 [.agg (gI a0),aI a1] [.c (.own 3 1 (r.map eI) r.length)]:=by
 refine fI func389 ntmps389 ?_
 refine aa H λv5 Hj H=>jB ⟨[(5,.v (.c (.w 1 v5.length)))],[(1,w3 v5)],2⟩ ?_ ?_
 .refine iT Hj (λq=>⟨[(1,tI a1),(2,tP 0),(5,.v (.c (.w 1 q.2.length))),(6,tI q.1)],[(0,.var 26 [.d false (.l (a0.aR.map cQ))]),(1,w3 q.2)],2⟩) ?_
  rintro⟨v1,v2⟩ o H
  try dsimp only
  refine wI ?_
  refine cC H ?_ ?_<;>intro H
  .refine aa H λx6 hx6 H=>nA (xdT (enc:=cQ) hx6) ?_
   refine aa H λv7 Hj H=>jA ⟨[(1,tI a1),(2,tP 0),(5,.v (.c (.w 1 v7.length))),(6,tI v1)],[(0,.var 26 [.d false (.l (a0.aR.map cQ))]),(1,w3 v7)],2⟩ ?_ ?_
   .refine cC Hj ?_ ?_<;>intro H
    .obtain⟨h,H⟩:=rq H
     refine sA (apT (enc:=eI) (ys:=v2) (zs:=[v1]) h) ?_
     exact ai H
    exact ai H
   cases H
   refine dy ?_
   exact wo
  cases H
  refine dF (λhq=>?_)
  cases hq
  refine wI ?_
  exact wo
 exact ao H
def uH (a0:List aE) (a1:Int):Int->Option (cf (Int) (Int))
 |v1=>YL (bif ltB v1 (a0.length:Int) then(YL (ix a0 v1) λx6=>some (ltB x6.ax a1)) else(some false)) λ(v5:Bool)=>bif v5 then(some (.next (WR (v1+1)))) else(some (.done v1))
def CC (a0:List aE) (a1:Int) (a2:Int):Option (List aE):=
 YL (iter (uH a0 a1) FU 0) λ(v4:Int)=>YL (bif ltB v4 (a0.length:Int) then(YL (ix a0 v4) λx8=>some (eqB x8.ax a1)) else(some false)) λ(v7:Bool)=>bif v7 then(bif dh 16 (([]:List aE)++a0).length then(YL (ix (([]:List aE)++a0) v4) λx9=>YL (ix (([]:List aE)++a0) v4) λx10=>some ((([]:List aE)++a0).set (v4).toNat (⟨x10.ax,WR (x9.dV+a2)⟩:aE))) else none) else(bif gK a0 0 v4 then(bif gK a0 v4 a0.length then(bif dh 16 (([]:List aE)++(a0.take (v4).toNat)).length then(bif dh 16 ((([]:List aE)++(a0.take (v4).toNat))++[(⟨a1,a2⟩:aE)]).length then(bif dh 16 (((([]:List aE)++(a0.take (v4).toNat))++[(⟨a1,a2⟩:aE)])++(a0.drop (v4).toNat)).length then(some (((([]:List aE)++(a0.take (v4).toNat))++[(⟨a1,a2⟩:aE)])++(a0.drop (v4).toNat))) else none) else none) else none) else none) else none)
theorem Pa {a0:List aE} {a1:Int} {a2:Int} {r:List aE} (H:CC a0 a1 a2=some r):Fn prog 393 [aL (a0.map aZ),aI a1,aI a2] [.c (.own 132 2 (r.map aZ) r.length)]:=by
 refine fI func393 ntmps393 ?_
 refine aa H λv4 Hj H=>jB ⟨[(0,.v (.c (.d false (.l (a0.map aZ))))),(1,tI a1),(2,tI a2),(7,tI v4)],[],0⟩ ?_ ?_
 .refine iT Hj (λq=>⟨[(0,.v (.c (.d false (.l (a0.map aZ))))),(1,tI a1),(2,tI a2),(7,tI q)],[],0⟩) ?_
  rintro v1 o H
  try dsimp only
  refine wI ?_
  refine aa H λv5 Hj H=>jR ⟨[(0,.v (.c (.d false (.l (a0.map aZ))))),(1,tI a1),(2,tI a2),(7,tI v1),(21,tB v5)],[],0⟩ ?_ ?_
  .refine gC Hj ?_ ?_<;>intro H
   .refine aa H λx6 hx6 H=>nG (xdT (enc:=aZ) hx6) ?_
    exact ai H
   exact ai H
  refine cC H ?_ ?_<;>intro H
  .cases H
   refine dy ?_
   exact wo
  cases H
  refine dF (λhq=>?_)
  cases hq
  refine wI ?_
  exact wo
 refine aa H λv7 Hj H=>jR ⟨[(0,.v (.c (.d false (.l (a0.map aZ))))),(1,tI a1),(2,tI a2),(7,tI v4),(36,tB v7)],[],0⟩ ?_ ?_
 .refine gC Hj ?_ ?_<;>intro H
  .refine aa H λx8 hx8 H=>nG (xdT (enc:=aZ) hx8) ?_
   exact ai H
  exact ai H
 refine cC H ?_ ?_<;>intro H
 .obtain⟨h,H⟩:=rq H
  refine eX rfl (apT (enc:=aZ) (ys:=([]:List aE)) (zs:=a0) h) ?_
  refine aW (iX (enc:=aZ) (o:=0)) ?_
  refine aa H λx9 hx9 H=>nA (xwT hx9) ?_
  refine nA (oe (he:=gm _ hx9)) ?_
  refine aa H λx10 hx10 H=>nA (xwT hx10) ?_
  refine sA (soT (enc:=aZ) (a':=(⟨x10.ax,WR (x9.dV+a2)⟩:aE)) hx10) ?_
  exact ao H
 refine zI [0,1,2,3,5,6,7,8,10,11,12,4,9,13,14] ?_
 obtain⟨h,H⟩:=rq H
 refine zA (cdhT (enc:=aZ) h (λ_=>rfl) rfl rfl rfl) ?_
 obtain⟨h,H⟩:=rq H
 refine zA (Vs (enc:=aZ) h (λ_=>rfl) rfl rfl rfl) ?_
 obtain⟨h,H⟩:=rq H
 refine wA (EU (enc:=aZ) (ys:=([]:List aE)) (zs:=a0.take (v4).toNat) [0] h) ?_
 obtain⟨h,H⟩:=rq H
 refine wA (EU (enc:=aZ) (ys:=(([]:List aE)++(a0.take (v4).toNat))) (zs:=[(⟨a1,a2⟩:aE)]) [2,1] h) ?_
 obtain⟨h,H⟩:=rq H
 refine wA (EU (enc:=aZ) (ys:=((([]:List aE)++(a0.take (v4).toNat))++[(⟨a1,a2⟩:aE)])) (zs:=a0.drop (v4).toNat) [3] h) ?_
 refine lD (ds:=[0,2,3]) (by kernel_rfl) (by kernel_rfl) rfl ?_
 refine wI ?_
 exact ao H
def wV (a0:ab) (a1:Int):Option (bD×ab):=
 YL (ix a0.aN a1) λx1=>bif gK a0.aN 0 a1 then(bif gK a0.aN (WR (a1+1)) a0.aN.length then(bif dh 176 (([]:List bD)++(a0.aN.take (a1).toNat)).length then(bif dh 176 ((([]:List bD)++(a0.aN.take (a1).toNat))++(a0.aN.drop (WR (a1+1)).toNat)).length then(some (x1,{a0 with aN:=((([]:List bD)++(a0.aN.take (a1).toNat))++(a0.aN.drop (WR (a1+1)).toNat))})) else none) else none) else none) else none
theorem EG {a0:ab} {a1:Int} {r:bD×ab} (H:wV a0 a1=some r):FnV prog 302 (nS a0) [tP 200,tI a1] (nS r.2) (.v (.agg (kM [.t] (lf r.1)))) []:=by
 refine fV func302 ntmps302 ?_
 refine aa H λx1 hx1 H=>bH (kw 193 (hne:=vT (enc:=dv) hx1)) ?_
 refine nA (xwT hx1) ?_
 refine nA (oea (he:=gm _ hx1)) ?_
 refine zI [0,1,2,3,4,5,6,7,9,10,11,12,13,14,15,8,16,17,18,19] ?_
 obtain⟨hs5,H⟩:=rq H
 refine zA (cwhT (enc:=dv) hs5 (by first|rfl|simp) rfl rfl rfl rfl) ?_
 obtain⟨hs6,H⟩:=rq H
 refine zA (cwlT (enc:=dv) hs6 (by first|rfl|simp) rfl rfl rfl rfl) ?_
 obtain⟨h,H⟩:=rq H
 refine wA (apx (enc:=dv) (ys:=([]:List bD)) (zs:=a0.aN.take (a1).toNat) [212,193] h (hs:=Vc (enc:=dv) hs5 rfl)) ?_
 obtain⟨h,H⟩:=rq H
 refine wA (apx (enc:=dv) (ys:=(([]:List bD)++(a0.aN.take (a1).toNat))) (zs:=a0.aN.drop (WR (a1+1)).toNat) [213,193] h (hs:=Vd (enc:=dv) hs6 (by first|rfl|simp) rfl)) ?_
 refine wA (spx 100410) ?_
 refine lD (ds:=[212,213]) (by kernel_rfl) (by kernel_rfl) rfl ?_
 refine wI ?_
 cases H
 refine bV (SU 193 214) ?_
 refine bV ((dS 193)) ?_
 exact bO
def oc (a0:cX) (a1:Int):Option Bool:=
 some (eqB a1 a0.vp)
theorem yO {a0:cX} {a1:Int} {r:Bool} (H:oc a0 a1=some r):Fn prog 381 [.agg (ug a0),aI a1] [.c (.d (.b r))]:=by
 refine fI func381 ntmps381 ?_
 exact ao H
def sB (a0:List ae) (a1:Int):Int->Option (cf (Int) (Int))
 |v1=>bif ltB v1 (a0.length:Int) then(YL (ix a0 v1) λx2=>bif eqB x2.cV a1 then(dn (some v1)) else(some (.next (WR (v1+1))))) else(dn (some (-1)))
def Eu (a0:List ae) (a1:Int):Option Int:=
 iter (sB a0 a1) FU 0
theorem LW {a0:List ae} {a1:Int} {r:Int} (H:Eu a0 a1=some r):Fn prog 387 [aL (a0.map av),aI a1] [.c (.d (.i .i64 r))]:=by
 refine fI func387 ntmps387 ?_
 refine iT H (λq=>⟨[(0,.v (.c (.d false (.l (a0.map av))))),(1,tI a1),(5,tI q)],[],0⟩) ?_
 rintro v1 o H
 try dsimp only
 refine wI ?_
 refine cC H ?_ ?_<;>intro H
 .refine aa H λx2 hx2 H=>nA (xdT (enc:=av) hx2) ?_
  refine cC H ?_ ?_<;>intro H
  .obtain⟨r0,Hd,rfl⟩:=dnE H
   refine f6 (λhq=>?_)
   have H:=Hd.trans (congrArg some hq)
   refine wI ?_
   exact ao H
  cases H
  refine dy ?_
  exact wo
 obtain⟨r0,Hd,rfl⟩:=dnE H
 refine dF (λhq=>?_)
 have H:=Hd.trans (congrArg some hq)
 refine wI ?_
 exact ao H
def As (a0:List Int) (a1:Int):Option Int:=
 bif ltB a1 (WR (3+(WR (Int.tdiv (a0.length:Int) 12)))) then(some a1) else(some (WR (3+(WR (Int.tdiv (a0.length:Int) 12)))))
theorem Pc {a0:List Int} {a1:Int} {r:Int} (H:As a0 a1=some r):Fn prog 47 [aL (a0.map eU8),aI a1] [.c (.d (.i .i64 r))]:=by
 refine fI func47 ntmps47 ?_
 refine nA (iq rfl rfl rfl (by decide)) ?_
 refine cC H ?_ ?_<;>intro H
 .exact ao H
 exact ao H
def gJ (a0:ah) (a1:Int):(Int×Int)->Option (cf (Int×Int) (Int))
 |(v1,v2)=>YL (bif ltB v2 (a0.aA.length:Int) then(some (ltB v2 a1)) else(some false)) λ(v6:Bool)=>bif v6 then(YL (ix a0.aA v2) λx7=>some (.next (WR (v1+(x7.aS.length:Int)),WR (v2+1)))) else(some (.done v1))
def ov (a0:ah) (a1:Int):Option Int:=
 YL (iter (gJ a0 a1) FU (0,0)) λ(v5:Int)=>some v5
theorem Cf {a0:ah} {a1:Int} {r:Int} (H:ov a0 a1=some r):Fn prog 37 [.agg (bB a0),aI a1] [.c (.d (.i .i64 r))]:=by
 refine fI func37 ntmps37 ?_
 refine aa H λv5 Hj H=>jB ⟨[(5,tI v5)],[],0⟩ ?_ ?_
 .refine iT Hj (λq=>⟨[(1,tI a1),(2,tP 0),(5,tI q.1),(6,tI q.2)],[(0,.var 69 (kM [.f,.f,.f] (b8 a0)))],1⟩) ?_
  rintro⟨v1,v2⟩ o H
  try dsimp only
  refine wI ?_
  refine aa H λv6 Hj H=>jR ⟨[(1,tI a1),(2,tP 0),(5,tI v1),(6,tI v2),(16,tB v6)],[(0,.var 69 (kM [.f,.f,.f] (b8 a0)))],1⟩ ?_ ?_
  .refine gC Hj ?_ ?_<;>intro H
   .exact ai H
   exact ai H
  refine cC H ?_ ?_<;>intro H
  .refine aa H λx7 hx7 H=>nA (xdT (enc:=cd) hx7) ?_
   cases H
   refine dy ?_
   exact wo
  cases H
  refine dF (λhq=>?_)
  cases hq
  refine wI ?_
  exact wo
 exact ao H
def fX (a0:ah):Option Int:=
 some (WR ((WR (a0.aw.bz-1))-(a0.aw.az.length:Int)))
theorem mQ {a0:ah} {r:Int} (H:fX a0=some r):Fn prog 132 [.agg (bB a0)] [.c (.d (.i .i64 r))]:=by
 refine fI func132 ntmps132 ?_
 exact ao H
end Go.AM
