/- A part. -/
import Derived.Test.YtbfpkbncbebapaaGreatS2
set_option linter.unusedVariables false
open Option renaming bind->YL
namespace Go.AM
open Go.Proofs
open Tryz
attribute [local irreducible] AWN NS AWO AWR AWC DR dQ gQ
set_option maxRecDepth 100000
set_option maxHeartbeats 40000000
def jW (a1:ae) (r1:aK):Int->Option (cf (Int) (Int))
 |v6=>YL (bif ltB v6 (r1.aF.length:Int) then(YL (ix r1.aF v6) λx11=>some (ltB x11.cV a1.cV)) else(some false)) λ(v10:Bool)=>bif v10 then(some (.next (WR (v6+1)))) else(some (.done v6))
def sb:aK->Option (cf (aK) (aK))
 |v15=>YL (bif ltB 0 (v15.aF.length:Int) then(YL (ix v15.aF 0) λx24=>bif eqB x24.cV v15.bz then(some (ltB (v15.aQ.length:Int) 24)) else(some false)) else(some false)) λ(v23:Bool)=>bif v23 then(YL (ix v15.aF 0) λx25=>bif dh 24 (v15.aQ++[(⟨x25.aS⟩:bm)]).length then(bif gK v15.aF 1 v15.aF.length then(some (.next (⟨WR (v15.bz+1),v15.aF.drop ((1:Int)).toNat,(v15.aQ++[(⟨x25.aS⟩:bm)])⟩:aK))) else none) else none) else(some (.done v15))
def ni (a0:aK) (a1:ae):Option aK:=
 YL (wM a0) λr1=>YL (iS a0) λr2=>YL (bif !r2 then(some true) else(bif ltB 60 (a1.aS.length:Int) then(some true) else(YL (cO a1.cV a0.bz (WR ((WR (a0.bz+8))-1))) λr4=>bif !r4 then(some true) else(YL (Eu a0.aF a1.cV) λr5=>bif leB 0 r5 then(some true) else(some (leB 24 (a0.aQ.length:Int))))))) λ(v3:Bool)=>bif v3 then(some r1) else(YL (iter (jW a1 r1) FU 0) λ(v9:Int)=>bif dh 1 (([]:List Int)++a1.aS).length then(bif gK r1.aF 0 v9 then(bif gK r1.aF v9 r1.aF.length then(bif dh 32 (([]:List ae)++(r1.aF.take (v9).toNat)).length then(bif dh 32 ((([]:List ae)++(r1.aF.take (v9).toNat))++[(⟨a1.cV,(([]:List Int)++a1.aS)⟩:ae)]).length then(bif dh 32 (((([]:List ae)++(r1.aF.take (v9).toNat))++[(⟨a1.cV,(([]:List Int)++a1.aS)⟩:ae)])++(r1.aF.drop (v9).toNat)).length then(YL (iter (sb) FU {r1 with aF:=(((([]:List ae)++(r1.aF.take (v9).toNat))++[(⟨a1.cV,(([]:List Int)++a1.aS)⟩:ae)])++(r1.aF.drop (v9).toNat))}) λ(v22:aK)=>YL (bif eqB (v22.aQ.length:Int) 24 then(some ([]:List ae)) else(some v22.aF)) λ(v26:List ae)=>some {v22 with aF:=v26}) else none) else none) else none) else none) else none) else none)
theorem Bg {a0:aK} {a1:ae} {r:aK} (H:ni a0 a1=some r):Fn prog 374 [.agg (gj a0),.agg (av a1)] [.agg (qM [.d,.o] (b7 r))]:=by
 refine fI func374 ntmps374 ?_
 refine aa H λr1 q1 H=>nA (ca (hF:=Ev q1)) ?_
 refine aa H λr2 q2 H=>nA (ca (hF:=qJ q2)) ?_
 refine aa H λv3 Hj H=>jR ⟨[(3,tP 1),(4,tP 2),(5,tP 5),(44,tB v3)],(oM [.w 3,.w 4] 5 82 (b7 r1)++[(1,.var 144 (kM [.f] (eh a1))),(2,.var 82 (kM [.z,.z] (b7 dO)))]),6⟩ ?_ ?_
 .refine gC Hj ?_ ?_<;>intro H
  .exact ai H
  refine gC H ?_ ?_<;>intro H
  .exact ai H
  refine aa H λr4 q4 H=>nG (ca (hF:=bT q4)) ?_
  refine gC H ?_ ?_<;>intro H
  .exact ai H
  refine aa H λr5 q5 H=>nG (ca (hF:=LW q5)) ?_
  refine gC H ?_ ?_<;>intro H
  .exact ai H
  exact ai H
 refine cC H ?_ ?_<;>intro H
 .cases H
  refine cU (aU (o:=3)) ?_
  refine cU (dq (o:=2)) ?_
  exact dT
 refine aa H λv9 Hj H=>jB ⟨[(3,tP 1),(4,tP 2),(5,tP 5),(6,tI v9)],(oM [.w 3,.w 4] 5 82 (b7 r1)++[(1,.var 144 (kM [.f] (eh a1))),(2,.var 82 (kM [.z,.z] (b7 dO)))]),6⟩ ?_ ?_
 .refine iT Hj (λq=>⟨[(3,tP 1),(4,tP 2),(5,tP 5),(6,tI q)],(oM [.w 3,.w 4] 5 82 (b7 r1)++[(1,.var 144 (kM [.f] (eh a1))),(2,.var 82 (kM [.z,.z] (b7 dO)))]),6⟩) ?_
  rintro v6 o H
  try dsimp only
  refine wI ?_
  refine dI ?_
  refine aa H λv10 Hj H=>et ⟨[(3,tP 1),(4,tP 2),(5,tP 5),(6,tI v6),(61,tB v10)],(oM [.w 3,.w 4] 5 82 (b7 r1)++[(1,.var 144 (kM [.f] (eh a1))),(2,.var 82 (kM [.z,.z] (b7 dO)))]),6⟩ ?_ ?_
  .have H:=Hj
   refine wI ?_
   refine dC H ?_ ?_<;>intro H
   .refine aa H λx11 hx11 H=>dG (xwT hx11) ?_
    refine dG (oe (he:=gm _ hx11)) ?_
    refine wI ?_
    exact ai H
   refine wI ?_
   exact ai H
  refine wI ?_
  refine cC H ?_ ?_<;>intro H
  .refine wI ?_
   cases H
   refine dy ?_
   exact wo
  cases H
  refine dF (λhq=>?_)
  cases hq
  refine wI ?_
  exact wo
 refine zI [0,1,2,3,4,7,5,6,8] ?_
 obtain⟨h,H⟩:=rq H
 refine wA (EU (enc:=eU8) (ys:=([]:List Int)) (zs:=a1.aS) [6] h) ?_
 refine wA (spx 100452) ?_
 refine lD (ds:=[6]) (by kernel_rfl) (by kernel_rfl) rfl ?_
 refine wI ?_
 refine mf (aU (o:=8)) ?_
 refine mf (cj (k:=69)) ?_
 refine mf (cj (k:=70)) ?_
 refine mf (dq (o:=7)) ?_
 refine zI [0,1,2,3,4,6,7,9,10,11,12,5,8,13,14,15] ?_
 obtain⟨hs10,H⟩:=rq H
 refine zA (cwhT (enc:=av) hs10 (by first|rfl|simp) rfl rfl rfl rfl) ?_
 obtain⟨hs11,H⟩:=rq H
 refine zA (cwlT (enc:=av) hs11 (by first|rfl|simp) rfl rfl rfl rfl) ?_
 obtain⟨h,H⟩:=rq H
 refine wA (apx (enc:=av) (ys:=([]:List ae)) (zs:=r1.aF.take (v9).toNat) [9,3] h (hs:=Vc (enc:=av) hs10 rfl)) ?_
 obtain⟨h,H⟩:=rq H
 refine wA (apx (enc:=av) (ys:=(([]:List ae)++(r1.aF.take (v9).toNat))) (zs:=[(⟨a1.cV,(([]:List Int)++a1.aS)⟩:ae)]) [11,10] h) ?_
 obtain⟨h,H⟩:=rq H
 refine wA (apx (enc:=av) (ys:=((([]:List ae)++(r1.aF.take (v9).toNat))++[(⟨a1.cV,(([]:List Int)++a1.aS)⟩:ae)])) (zs:=r1.aF.drop (v9).toNat) [12,3] h (hs:=Vd (enc:=av) hs11 (by first|rfl|simp) rfl)) ?_
 refine wA (spx 100451) ?_
 refine lD (ds:=[9,11,12]) (by kernel_rfl) (by kernel_rfl) rfl ?_
 refine wI ?_
 refine aa H λv22 Hj H=>jB ⟨[(4,tP 2),(5,tP 5)],(oM [.t,.w 4] 5 82 (b7 v22)++[(2,.var 82 (kM [.z,.z] (b7 dO)))]),6⟩ ?_ ?_
 .refine iT Hj (λq=>⟨[(4,tP 2),(5,tP 5)],(oM [.t,.w 4] 5 82 (b7 q)++[(2,.var 82 (kM [.z,.z] (b7 dO)))]),6⟩) ?_ (by refine ay (aU (o:=13)) ?_;refine ay (cj (k:=84)) ?_;refine ay (dq (o:=5)) ?_;exact wo)
  rintro v15 o H
  try dsimp only
  refine wI ?_
  refine dI ?_
  refine aa H λv23 Hj H=>et ⟨[(4,tP 2),(5,tP 5),(105,tB v23)],(oM [.t,.w 4] 5 82 (b7 v15)++[(2,.var 82 (kM [.z,.z] (b7 dO)))]),6⟩ ?_ ?_
  .have H:=Hj
   refine wI ?_
   refine dC H ?_ ?_<;>intro H
   .refine aa H λx24 hx24 H=>dG (xdT (enc:=av) hx24) ?_
    refine dC H ?_ ?_<;>intro H
    .refine wI ?_
     exact ai H
    refine wI ?_
    exact ai H
   refine wI ?_
   exact ai H
  refine wI ?_
  refine cC H ?_ ?_<;>intro H
  .refine zI (List.range 12) ?_
   refine aa H λx25 hx25 H=>zA (xdT (enc:=av) hx25) ?_
   obtain⟨h,H⟩:=rq H
   refine zB bW (hP rfl (apT (enc:=cd) (ys:=v15.aQ) (zs:=[(⟨x25.aS⟩:bm)]) h)) bW ?_
   refine wA (spx 100450) ?_
   obtain⟨h,H⟩:=rq H
   refine nA (Vs (enc:=av) h (λ_=>rfl) rfl rfl rfl) ?_
   cases H
   refine dy ?_
   exact wo
  cases H
  refine dF (λhq=>?_)
  cases hq
  refine wI ?_
  exact wo
 refine aa H λv26 Hj H=>jA ⟨[(4,tP 2),(5,tP 5)],(oM [.t,.w 4] 5 82 (b7 {v22 with aF:=v26})++[(2,.var 82 (kM [.z,.z] (b7 dO)))]),6⟩ ?_ ?_
 .refine cC Hj ?_ ?_<;>intro H
  .cases H
   refine ay (aU (o:=6)) ?_
   refine ay (cj (k:=129)) ?_
   refine ay (dq (o:=5)) ?_
   exact wo
  exact ai H
 exact ao H
def Az (a0:ab) (a1:Int) (a2:Bool):Option (Bool×ab):=
 YL (cO a1 0 (WR ((a0.d8.aR.length:Int)-1))) λr1=>YL (bif !r1 then(some true) else(YL (tK a0 a1) λr3=>some (booB r3 a2))) λ(v2:Bool)=>bif v2 then(some (false,a0)) else(bif leB 0 a1 then(some (true,{a0 with cZ:=II .i64 a0.cZ (jY .i64 1 a1)})) else none)
theorem LZ {a0:ab} {a1:Int} {a2:Bool} {r:Bool×ab} (H:Az a0 a1 a2=some r):FnV prog 239 (nS a0) [tP 200,tI a1,tB a2] (nS r.2) (.v (.c (.d false (.b r.1)))) []:=by
 refine fV func239 ntmps239 ?_
 refine aa H λr1 q1 H=>nA (ca (hF:=bT q1)) ?_
 refine aa H λv2 Hj H=>jR ⟨[(0,tP 200),(1,tI a1),(25,tB v2)],(nS a0),210⟩ ?_ ?_
 .refine gC Hj ?_ ?_<;>intro H
  .exact ai H
  refine aa H λr3 q3 H=>nG (ca (hF:=BK q3)) ?_
  exact ai H
 refine cC H ?_ ?_<;>intro H
 .cases H
  exact bO
 refine zI (List.range 11) ?_
 obtain⟨h,H⟩:=rq H
 refine zA (B8 h rfl rfl rfl rfl) ?_
 refine wA (spx 100476) ?_
 cases H
 exact bO
def kn (a0:a8) (a1:Int):Option Bool:=
 YL (kG a0) λr1=>YL (bif r1 then(YL (cO a1 0 (WR (a0.dP-1))) λr3=>bif r3 then(bif leB 0 a1 then(some (eqB (vi .i64 (yq .i64 a0.dm a1) 1) 1)) else none) else(some false)) else(some false)) λ(v2:Bool)=>some v2
theorem oy {a0:a8} {a1:Int} {r:Bool} (H:kn a0 a1=some r):Fn prog 15 [.agg (ic a0),aI a1] [.c (.d (.b r))]:=by
 refine fI func15 ntmps15 ?_
 refine aa H λr1 q1 H=>nA (ca (hF:=qI q1)) ?_
 refine aa H λv2 Hj H=>jR ⟨[(4,tB v2)],[],0⟩ ?_ ?_
 .refine gC Hj ?_ ?_<;>intro H
  .refine aa H λr3 q3 H=>nG (ca (hF:=bT q3)) ?_
   refine gC H ?_ ?_<;>intro H
   .obtain⟨h,H⟩:=rq H
    refine nG (B8 h rfl rfl rfl rfl) ?_
    exact ai H
   exact ai H
  exact ai H
 exact ao H
def p3 (a0:a8) (a1:Int) (a2:Bool):Option a8:=
 YL (kG a0) λr1=>YL (bif !r1 then(some true) else(YL (cO a1 0 (WR (a0.dP-1))) λr3=>some (!r3))) λ(v2:Bool)=>bif v2 then(some a0) else(YL (bif a2 then(bif leB 0 a1 then(some (bOr .i64 a0.dm (jY .i64 1 a1))) else none) else(bif leB 0 a1 then(some (pD .i64 a0.dm (jY .i64 1 a1))) else none)) λ(v4:Int)=>some (⟨a0.dP,v4⟩:a8))
theorem Ej {a0:a8} {a1:Int} {a2:Bool} {r:a8} (H:p3 a0 a1 a2=some r):Fn prog 305 [.agg (ic a0),aI a1,aB a2] [.agg (qM [] (cM r))]:=by
 refine fI func305 ntmps305 ?_
 refine aa H λr1 q1 H=>nA (ca (hF:=qI q1)) ?_
 refine aa H λv2 Hj H=>jR ⟨[(1,tI a1),(2,tB a2),(3,tP 0),(6,tP 1),(18,tB v2)],[(0,.var 32 (kM [] (cM a0))),(1,.var 32 (kM [] (cM nH)))],2⟩ ?_ ?_
 .refine gC Hj ?_ ?_<;>intro H
  .exact ai H
  refine aa H λr3 q3 H=>nG (ca (hF:=bT q3)) ?_
  exact ai H
 refine cC H ?_ ?_<;>intro H
 .exact ao H
 refine aa H λv4 Hj H=>jA ⟨[(6,tP 1),(7,tP 2)],[(1,.var 32 (kM [] (cM nH))),(2,.var 32 (kM [] (cM (⟨a0.dP,v4⟩:a8))))],3⟩ ?_ ?_
 .refine cC Hj ?_ ?_<;>intro H
  .refine zI (List.range 7) ?_
   obtain⟨h,H⟩:=rq H
   refine zA (B8 h rfl rfl rfl rfl) ?_
   refine wA (spx 100483) ?_
   exact ai H
  refine zI (List.range 7) ?_
  obtain⟨h,H⟩:=rq H
  refine zA (B8 h rfl rfl rfl rfl) ?_
  refine wA (spx 100484) ?_
  exact ai H
 exact ao H
def rT (a0:List bm) (a1:List bm):Option Bool:=
 YL (bif leB (a0.length:Int) (a1.length:Int) then(bif gK a1 0 (a0.length:Int) then(YL (Aq a0 (a1.take ((a0.length:Int)).toNat)) λr2=>some r2) else none) else(some false)) λ(v1:Bool)=>some v1
theorem Fo {a0:List bm} {a1:List bm} {r:Bool} (H:rT a0 a1=some r):Fn prog 131 [aL (a0.map cd),aL (a1.map cd)] [.c (.d (.b r))]:=by
 refine fI func131 ntmps131 ?_
 refine aa H λv1 Hj H=>jR ⟨[(4,tB v1)],[],0⟩ ?_ ?_
 .refine gC Hj ?_ ?_<;>intro H
  .obtain⟨h,H⟩:=rq H
   refine nG (cdhT (enc:=cd) h (λ_=>rfl) rfl rfl rfl) ?_
   refine aa H λr2 q2 H=>nG (ca (hF:=LS q2)) ?_
   exact ai H
  exact ai H
 exact ao H
def ow (a0:ab) (a1:Int):Option Int:=
 YL (oU a0 a1) λr1=>bif !r1 then(some (-1)) else(YL (ix a0.bi a1) λx2=>YL (ix a0.aj a1) λx3=>some (WR (x2.er+x3.bM.ed)))
theorem Cg {a0:ab} {a1:Int} {r:Int} (H:ow a0 a1=some r):Fn prog 78 [.agg (eD a0),aI a1] [.c (.d (.i .i64 r))]:=by
 refine fI func78 ntmps78 ?_
 refine aa H λr1 q1 H=>nA (ca (hF:=yl q1)) ?_
 refine cC H ?_ ?_<;>intro H
 .exact ao H
 refine dI ?_
 refine aa H λx2 hx2 H=>dA (xdT (enc:=cp) hx2) ?_
 refine aa H λx3 hx3 H=>dA (xdT (enc:=bB) hx3) ?_
 refine wI ?_
 exact ao H
def gR (a0:ab) (a1:Int):Option Bool:=
 YL (AD a0 a1) λr1=>YL (bif r1 then(YL (ix a0.aj a1) λx3=>YL (fX x3) λr4=>YL (ix a0.an a1) λx5=>some (leB r4 (x5.bI.aQ.length:Int))) else(some false)) λ(v2:Bool)=>some v2
theorem ph {a0:ab} {a1:Int} {r:Bool} (H:gR a0 a1=some r):Fn prog 68 [.agg (eD a0),aI a1] [.c (.d (.b r))]:=by
 refine fI func68 ntmps68 ?_
 refine dI ?_
 refine aa H λr1 q1 H=>dA (ca (hF:=Gy q1)) ?_
 refine aa H λv2 Hj H=>et ⟨[(4,tB v2)],[],0⟩ ?_ ?_
 .have H:=Hj
  refine wI ?_
  refine dC H ?_ ?_<;>intro H
  .refine aa H λx3 hx3 H=>dG (xdT (enc:=bB) hx3) ?_
   refine aa H λr4 q4 H=>dG (ca (hF:=mQ q4)) ?_
   refine aa H λx5 hx5 H=>dG (xdT (enc:=cI) hx5) ?_
   refine wI ?_
   exact ai H
  refine wI ?_
  exact ai H
 refine wI ?_
 exact ao H
end Go.AM
