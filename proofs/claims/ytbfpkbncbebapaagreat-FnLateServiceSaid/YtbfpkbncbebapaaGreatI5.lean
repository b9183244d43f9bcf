/- A part. -/
import Derived.Test.YtbfpkbncbebapaaGreatI3
set_option linter.unusedVariables false
open Option renaming bind->aaC
open List renaming range->YQ
namespace Go.AM
open Go.Proofs
open Tryz
attribute [local irreducible] AWN NS AWO AWR AWC DR dO ip
set_option maxRecDepth 100000
set_option maxHeartbeats 40000000
def pt (a0:bh) (a1:List Int):Option (bh×an×Bool):=
 aaC (kW a0) λr1=>aaC (eK a1) λr2=>bif em 32 (r1.aD++[(⟨a0.bb,r2⟩:an)]).length then(aaC (kO (⟨WR (r1.bb+1),(r1.aD++[(⟨a0.bb,r2⟩:an)])⟩:bh)) λr3=>bif !r3 then(aaC (kW a0) λr4=>some (r4,bG,false)) else(aaC (eK a1) λr5=>some ((⟨WR (r1.bb+1),(r1.aD++[(⟨a0.bb,r2⟩:an)])⟩:bh),(⟨a0.bb,r5⟩:an),true))) else none
theorem D0 {a0:bh} {a1:List Int} {r:bh×an×Bool} (H:pt a0 a1=some r) (hflag:r.2.2=true):Fn prog 285 [.agg (lu a0),aL (a1.map eU8)] [.agg (qM [.o] (fm r.1)),.agg (qM [.o] (ed r.2.1)),.c (.d (.b r.2.2))]:=by
 refine fI func285 ntmps285 ?_
 refine aa H λr1 q1 H=>nA (ca (hF:=jZ q1)) ?_
 refine zI (YQ 11) ?_
 refine aa H λr2 q2 H=>zA (ca (hF:=(gq q2).frzs (by repeat (first|exact trivial|refine⟨?_,?_⟩|exact lm _|rfl)))) ?_
 obtain⟨h,H⟩:=rq H
 refine zB b7 (jp rfl (apT (enc:=aN) (ys:=r1.aD) (zs:=[(⟨a0.bb,r2⟩:an)]) h)) b7 ?_
 refine wA (spx 100549) ?_
 refine aa H λr3 q3 H=>nA (ca (hF:=ol q3)) ?_
 refine cC H ?_ ?_<;>intro H
 .refine aa H λr4 q4 H=>nA (ca (hF:=jZ q4)) ?_
  cases H
  cases hflag
 refine zI (YQ 9) ?_
 refine aa H λr5 q5 H=>zA (ca (hF:=gq q5)) ?_
 refine wA (spx 100548) ?_
 refine wA (spx 100547) ?_
 exact ao H
theorem DY {a0:bh} {a1:List Int} {r:bh×an×Bool} (H:pt a0 a1=some r) (hflag:r.2.2=false):Fn prog 285 [.agg (lu a0),aL (a1.map eU8)] [.agg (qM [.o] (fm r.1)),.agg (qM [.z] (ed r.2.1)),.c (.d (.b r.2.2))]:=by
 refine fI func285 ntmps285 ?_
 refine aa H λr1 q1 H=>nA (ca (hF:=jZ q1)) ?_
 refine zI (YQ 11) ?_
 refine aa H λr2 q2 H=>zA (ca (hF:=(gq q2).frzs (by repeat (first|exact trivial|refine⟨?_,?_⟩|exact lm _|rfl)))) ?_
 obtain⟨h,H⟩:=rq H
 refine zB b7 (jp rfl (apT (enc:=aN) (ys:=r1.aD) (zs:=[(⟨a0.bb,r2⟩:an)]) h)) b7 ?_
 refine wA (spx 100552) ?_
 refine aa H λr3 q3 H=>nA (ca (hF:=ol q3)) ?_
 refine cC H ?_ ?_<;>intro H
 .refine aa H λr4 q4 H=>nA (ca (hF:=jZ q4)) ?_
  exact ao H
 refine zI (YQ 9) ?_
 refine aa H λr5 q5 H=>zA (ca (hF:=gq q5)) ?_
 refine wA (spx 100551) ?_
 refine wA (spx 100550) ?_
 cases H
 cases hflag
def gz (a0:bh) (a1:Int):(Int×List an)->Option (cK (Int×List an) (List an))
 |(v2,v3)=>bif ltB v2 (a0.aD.length:Int) then(aaC (ix a0.aD v2) λx7=>aaC (bif leB a1 x7.cQ then(bif em 32 (v3++[x7]).length then(some (v3++[x7])) else none) else(some v3)) λ(v8:List an)=>some (.next (WR (v2+1),v8))) else(some (.done v3))
def kv (a0:bh) (a1:Int):Option bh:=
 bif ltB a0.bb a1 then(aaC (kW a0) λr1=>some r1) else(aaC (iter (gz a0 a1) FU (0,([]:List an))) λ(v6:List an)=>aaC (jY v6) λr9=>some (⟨a0.bb,r9⟩:bh))
theorem xN {a0:bh} {a1:Int} {r:bh} (H:kv a0 a1=some r):Fn prog 331 [.agg (lu a0),aI a1] [.agg (qM [.o] (fm r))]:=by
 refine fI func331 ntmps331 ?_
 refine cC H ?_ ?_<;>intro H
 .refine aa H λr1 q1 H=>nA (ca (hF:=jZ q1)) ?_
  exact ao H
 refine aa H λv6 Hj H=>jB ⟨[(2,tP 0),(4,tP 1),(5,.v (.c (.w 2 v6.length)))],[(0,.var 65 (kM [.f] (fm a0))),(1,.var 65 (kM [.z] (fm qF))),(2,Lr v6 false true)],3⟩ ?_ ?_
 .refine iT Hj (λq=>⟨[(1,tI a1),(2,tP 0),(4,tP 1),(5,.v (.c (.w 2 q.2.length))),(16,.v (.c (.d false (.l (a0.aD.map aN))))),(17,tI (a0.aD.length:Int)),(18,tI q.1)],[(0,.var 65 (kM [.f] (fm a0))),(1,.var 65 (kM [.z] (fm qF))),(2,Lr q.2 false true)],3⟩) ?_ (by refine aH (YK (o:=2)) ?_;exact wo)
  rintro⟨v2,v3⟩ o H
  try dsimp only
  refine wI ?_
  refine cC H ?_ ?_<;>intro H
  .refine aa H λx7 hx7 H=>nA (xdT (enc:=aN) hx7) ?_
   refine aa H λv8 Hj H=>jA ⟨[(1,tI a1),(2,tP 0),(4,tP 1),(5,.v (.c (.w 2 v8.length))),(16,.v (.c (.d false (.l (a0.aD.map aN))))),(17,tI (a0.aD.length:Int)),(18,tI v2)],[(0,.var 65 (kM [.f] (fm a0))),(1,.var 65 (kM [.z] (fm qF))),(2,Lr v8 false true)],3⟩ ?_ ?_
   .refine cC Hj ?_ ?_<;>intro H
    .obtain⟨h,H⟩:=rq H
     refine sA (apT (enc:=aN) (ys:=v3) (zs:=[x7]) h) ?_
     exact ai H
    exact ai H
   cases H
   refine eA ?_
   exact wo
  cases H
  refine et (λhq=>?_)
  cases hq
  refine wI ?_
  exact wo
 refine zI (YQ 6) ?_
 refine aa H λr9 q9 H=>zA (ca (hF:=pX q9)) ?_
 refine wA (spx 100624) ?_
 exact ao H
def kz (a1:an) (r1:aX):Int->Option (cK (Int) (Int))
 |v6=>aaC (bif ltB v6 (r1.aO.length:Int) then(aaC (ix r1.aO v6) λx11=>some (ltB x11.cQ a1.cQ)) else(some false)) λ(v10:Bool)=>bif v10 then(some (.next (WR (v6+1)))) else(some (.done v6))
def kA:aX->Option (cK (aX) (aX))
 |v17=>aaC (bif ltB 0 (v17.aO.length:Int) then(aaC (ix v17.aO 0) λx26=>bif eqB x26.cQ v17.bb then(some (ltB (v17.bj.length:Int) 24)) else(some false)) else(some false)) λ(v25:Bool)=>bif v25 then(aaC (ix v17.aO 0) λx27=>bif em 24 (v17.bj++[(⟨x27.a8⟩:bm)]).length then(bif it v17.aO 1 v17.aO.length then(some (.next (⟨WR (v17.bb+1),v17.aO.drop ((1:Int)).toNat,(v17.bj++[(⟨x27.a8⟩:bm)])⟩:aX))) else none) else none) else(some (.done v17))
def nr (a0:aX) (a1:an):Option aX:=
 aaC (lY a0) λr1=>aaC (jg a0) λr2=>aaC (bif !r2 then(some true) else(bif ltB 60 (a1.a8.length:Int) then(some true) else(aaC (bE a1.cQ a0.bb (WR ((WR (a0.bb+8))-1))) λr4=>bif !r4 then(some true) else(aaC (yM a0 a1.cQ) λr5=>bif r5 then(some true) else(some (leB 24 (a0.bj.length:Int))))))) λ(v3:Bool)=>bif v3 then(some r1) else(aaC (iter (kz a1 r1) FU 0) λ(v9:Int)=>bif em 32 (r1.aO++[bG]).length then(bif it (r1.aO++[bG]) (WR (v9+1)) (r1.aO++[bG]).length then(bif it (r1.aO++[bG]) v9 (r1.aO++[bG]).length then(aaC (eK a1.a8) λr12=>aaC (ix (cpD (r1.aO++[bG]) (WR (v9+1)).toNat ((r1.aO++[bG]).drop (v9).toNat)) v9) λx13=>aaC (iter (kA) FU {r1 with aO:=((cpD (r1.aO++[bG]) (WR (v9+1)).toNat ((r1.aO++[bG]).drop (v9).toNat)).set (v9).toNat (⟨a1.cQ,r12⟩:an))}) λ(v24:aX)=>bif leB 24 (v24.bj.length:Int) then(some {v24 with aO:=[]}) else(some v24)) else none) else none) else none)
theorem Ba {a0:aX} {a1:an} {r:aX} (H:nr a0 a1=some r):Fn prog 292 [.agg (jM a0),.agg (aN a1)] [.agg (qM [.d,.o] (cH r))]:=by
 refine fI func292 ntmps292 ?_
 refine aa H λr1 q1 H=>nA (ca (hF:=vI q1)) ?_
 refine aa H λr2 q2 H=>nA (ca (hF:=rm q2)) ?_
 refine aa H λv3 Hj H=>jR ⟨[(3,tP 1),(4,tP 2),(5,tP 5),(41,tB v3)],(oM [.w 3,.w 4] 5 82 (cH r1)++[(1,.var 144 (kM [.f] (ed a1))),(2,.var 82 (kM [.z,.z] (cH dV)))]),6⟩ ?_ ?_
 .refine gC Hj ?_ ?_<;>intro H
  .exact ai H
  refine gC H ?_ ?_<;>intro H
  .exact ai H
  refine aa H λr4 q4 H=>nG (ca (hF:=bA q4)) ?_
  refine gC H ?_ ?_<;>intro H
  .exact ai H
  refine aa H λr5 q5 H=>nG (ca (hF:=HU q5)) ?_
  refine gC H ?_ ?_<;>intro H
  .exact ai H
  exact ai H
 refine cC H ?_ ?_<;>intro H
 .cases H
  refine tQ (bw (o:=3)) ?_
  refine tQ (cS (o:=2)) ?_
  exact ku
 refine aa H λv9 Hj H=>jB ⟨[(3,tP 1),(4,tP 2),(5,tP 5),(6,tI v9)],(oM [.w 3,.w 4] 5 82 (cH r1)++[(1,.var 144 (kM [.f] (ed a1))),(2,.var 82 (kM [.z,.z] (cH dV)))]),6⟩ ?_ ?_
 .refine iT Hj (λq=>⟨[(3,tP 1),(4,tP 2),(5,tP 5),(6,tI q)],(oM [.w 3,.w 4] 5 82 (cH r1)++[(1,.var 144 (kM [.f] (ed a1))),(2,.var 82 (kM [.z,.z] (cH dV)))]),6⟩) ?_
  rintro v6 o H
  try dsimp only
  refine wI ?_
  refine dI ?_
  refine aa H λv10 Hj H=>jt ⟨[(3,tP 1),(4,tP 2),(5,tP 5),(6,tI v6),(58,tB v10)],(oM [.w 3,.w 4] 5 82 (cH r1)++[(1,.var 144 (kM [.f] (ed a1))),(2,.var 82 (kM [.z,.z] (cH dV)))]),6⟩ ?_ ?_
  .have H:=Hj
   refine wI ?_
   refine dC H ?_ ?_<;>intro H
   .refine aa H λx11 hx11 H=>dG (xwT hx11) ?_
    refine dG (oe (he:=eU _ hx11)) ?_
    refine wI ?_
    exact ai H
   refine wI ?_
   exact ai H
  refine wI ?_
  refine cC H ?_ ?_<;>intro H
  .refine wI ?_
   cases H
   refine eA ?_
   exact wo
  cases H
  refine et (λhq=>?_)
  cases hq
  refine wI ?_
  exact wo
 obtain⟨h,H⟩:=rq H
 refine sA (apT (enc:=aN) (ys:=r1.aO) (zs:=[bG]) h) ?_
 refine zI (YQ 10) ?_
 obtain⟨hs24,H⟩:=rq H
 refine zA (Rv (enc:=aN) hs24 (by first|rfl|simp) rfl rfl rfl rfl) ?_
 obtain⟨hs25,H⟩:=rq H
 refine zA (Rv (enc:=aN) hs25 (by first|rfl|simp) rfl rfl rfl rfl) ?_
 refine zB b7 (jp rfl (cpsT (enc:=aN) (ys:=(r1.aO++[bG])) (zs:=(r1.aO++[bG]).drop (v9).toNat) (hs:=Uf (enc:=aN) hs25 (by first|rfl|simp) rfl) hs24)) b7 ?_
 refine zI (YQ 11) ?_
 refine aa H λr12 q12 H=>zA (ca (hF:=gq q12)) ?_
 refine aa H λx13 hx13 H=>zA (xwT hx13) ?_
 refine zB (aH (bw (o:=7)) (bJ (k:=85))) (jp rfl (soT (enc:=aN) (a':=(⟨a1.cQ,r12⟩:an)) hx13)) b7 ?_
 refine aa H λv24 Hj H=>jB ⟨[(4,tP 2),(5,tP 5)],(oM [.t,.w 4] 5 82 (cH v24)++[(2,.var 82 (kM [.z,.z] (cH dV)))]),6⟩ ?_ ?_
 .refine iT Hj (λq=>⟨[(4,tP 2),(5,tP 5)],(oM [.t,.w 4] 5 82 (cH q)++[(2,.var 82 (kM [.z,.z] (cH dV)))]),6⟩) ?_ (by refine aH (bw (o:=3)) ?_;refine aH (bJ (k:=65)) ?_;refine aH (bJ (k:=68)) ?_;refine aH (bJ (k:=73)) ?_;refine aH (bJ (k:=78)) ?_;refine aH (cS (o:=5)) ?_;exact wo)
  rintro v17 o H
  try dsimp only
  refine wI ?_
  refine dI ?_
  refine aa H λv25 Hj H=>jt ⟨[(4,tP 2),(5,tP 5),(106,tB v25)],(oM [.t,.w 4] 5 82 (cH v17)++[(2,.var 82 (kM [.z,.z] (cH dV)))]),6⟩ ?_ ?_
  .have H:=Hj
   refine wI ?_
   refine dC H ?_ ?_<;>intro H
   .refine aa H λx26 hx26 H=>dG (xdT (enc:=aN) hx26) ?_
    refine dC H ?_ ?_<;>intro H
    .refine wI ?_
     exact ai H
    refine wI ?_
    exact ai H
   refine wI ?_
   exact ai H
  refine wI ?_
  refine cC H ?_ ?_<;>intro H
  .refine zI (YQ 12) ?_
   refine aa H λx27 hx27 H=>zA (xdT (enc:=aN) hx27) ?_
   obtain⟨h,H⟩:=rq H
   refine zB b7 (jp rfl (apT (enc:=cg) (ys:=v17.bj) (zs:=[(⟨x27.a8⟩:bm)]) h)) b7 ?_
   refine wA (spx 100634) ?_
   obtain⟨h,H⟩:=rq H
   refine nA (cdlT (enc:=aN) h (λ_=>rfl) rfl rfl rfl) ?_
   cases H
   refine eA ?_
   exact wo
  cases H
  refine et (λhq=>?_)
  cases hq
  refine wI ?_
  exact wo
 refine cC H ?_ ?_<;>intro H
 .cases H
  refine tQ (UH (o:=2)) ?_
  exact ku
 exact ao H
def iZ (a0:ab) (a1:Int):Option Bool:=
 aaC (px a0 a1) λr1=>bif !r1 then(some false) else(aaC (ix a0.aj a1) λx2=>aaC (oO a0 a1) λr3=>aaC (fD x2) λr4=>aaC (oN x2 r4) λr5=>some (eqB r3 r5))
theorem vR {a0:ab} {a1:Int} {r:Bool} (H:iZ a0 a1=some r):Fn prog 75 [.agg (fC a0),aI a1] [.c (.d (.b r))]:=by
 refine fI func75 ntmps75 ?_
 refine aa H λr1 q1 H=>nA (ca (hF:=ye q1)) ?_
 refine cC H ?_ ?_<;>intro H
 .exact ao H
 refine aa H λx2 hx2 H=>nA (xdT (enc:=cG) hx2) ?_
 refine dI ?_
 refine aa H λr3 q3 H=>dA (ca (hF:=Ch q3)) ?_
 refine aa H λr4 q4 H=>dA (ca (hF:=ju q4)) ?_
 refine aa H λr5 q5 H=>dA (ca (hF:=Cf q5)) ?_
 refine wI ?_
 exact ao H
end Go.AM
