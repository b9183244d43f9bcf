/- A part. -/
import Derived.Test.YtbfpkbncbebapaaGreatI14
import Derived.Test.YtbfpkbncbebapaaGreatM0
import Derived.Test.YtbfpkbncbebapaaGreatS6
set_option linter.unusedVariables false
set_option linter.unusedSimpArgs false
open Option renaming bind->aaC
namespace Go.AM
open Go.Proofs
open Tryz
attribute [local irreducible] AWN NS AWO AWR AWC DR dO ip
set_option maxRecDepth 100000
set_option maxHeartbeats 40000000
def iL (a0:List Int) (r2:ab×Int):(Int×ab)->Option (cK (Int×ab) (ab))
 |(v5,v16)=>bif ltB v5 (r2.1.ah.length:Int) then(aaC (mh v16 {CY with aS:=5,bR:=v5}) λr43=>aaC (ml r43.1 {CY with aS:=7,bR:=v5}) λr44=>aaC (aaC (lat a0 (WR (v5+1))) λr56=>bif !eqB (r2.1.bX.aZ.length:Int) 0 then(aaC (mj r44.1 (⟨6,v5,Int.tmod r56 (r2.1.bX.aZ.length:Int),[],bU⟩:cr)) λr57=>some r57.1) else none) λ(v55:ab)=>some (.next (WR (v5+1),v55))) else(some (.done v16))
def nN (r2:ab×Int) (r58:ab):Int->Option (cK (Int) (Bool))
 |v61=>bif ltB v61 (r2.1.ah.length:Int) then(aaC (vg r2.1 v61) λr62=>aaC (bif r62 then(aaC (xr r58 v61) λr64=>bif !r64 then(some true) else(aaC (ix r58.ah v61) λx65=>aaC (ix r2.1.aj v61) λx66=>aaC (ma x65.aT.bj x66.ax) λr67=>some (!r67))) else(some false)) λ(v63:Bool)=>bif v63 then(dn (some false)) else(some (.next (WR (v61+1))))) else(dn (some true))
def rE (a0:List Int):Option Bool:=
 aaC (XG a0) λr1=>bif r1 then(some true) else(aaC (qA a0) λr2=>aaC (lat a0 0) λr3=>aaC (xt r2.1 (Int.tmod r3 12)) λr4=>aaC (iter (iL a0 r2) FU (0,r4)) λ(v42:ab)=>aaC (HR v42) λr58=>aaC (bif !eqB (r58.ah.length:Int) (r2.1.ah.length:Int) then(some true) else(aaC (DL r58) λr60=>some (!r60))) λ(v59:Bool)=>bif v59 then(some false) else(iter (nN r2 r58) FU 0))
theorem Bg {a0:List Int} {r:Bool} (H:rE a0=some r):Fn prog 4 [aL (a0.map eU8)] [.c (.d (.b r))]:=by
 refine fI func4 ntmps4 ?_
 refine aa H λr1 q1 H=>nA (ca (hF:=XH q1)) ?_
 refine cC H ?_ ?_<;>intro H
 .exact ao H
 refine aa H λr2 q2 H=>sA (cwv [] [(210,0),(211,1),(212,2),(213,3)] 4 (Ez q2)) ?_
 refine zI (List.range 7) ?_
 refine aa H λr3 q3 H=>zA (ca (hF:=SO q3)) ?_
 refine zA (ir rfl rfl rfl (by decide)) ?_
 refine aa H λr4 q4 H=>zA (ca (hF:=Gd q4)) ?_
 refine wA (spx 100716) ?_
 refine aa H λv42 Hj H=>jB ⟨[(3,tP 4),(6,tP 9)],(oM [.t,.n 0,.n 1,.n 2,.n 3] 4 34 (bD r2.1)++(oM [.t,.w 5,.w 6,.w 7,.w 8] 9 34 (bD v42))),10⟩ ?_ ?_
 .refine iT Hj (λq=>⟨[(0,.v (.c (.d false (.l (a0.map eU8))))),(3,tP 4),(5,tI (r2.1.bX.aZ.length:Int)),(6,tP 9),(7,tI q.1)],(oM [.t,.n 0,.n 1,.n 2,.n 3] 4 34 (bD r2.1)++(oM [.t,.w 5,.w 6,.w 7,.w 8] 9 34 (bD q.2))),10⟩) ?_
  rintro⟨v5,v16⟩ o H
  try dsimp only
  refine wI ?_
  refine cC H ?_ ?_<;>intro H
  .refine aa H λr43 q43 H=>bN (bw (o:=5)) ?_
   refine bN (bw (o:=6)) ?_
   refine bN (bw (o:=7)) ?_
   refine bN (bw (o:=8)) ?_
   refine bN (bJ (k:=40)) ?_
   refine sA (cwu [] [(210,10),(211,11),(212,12),(213,13)] 14 (zx q43)) ?_
   refine aa H λr44 q44 H=>bN (bw (o:=10)) ?_
   refine bN (bw (o:=11)) ?_
   refine bN (bw (o:=12)) ?_
   refine bN (bw (o:=13)) ?_
   refine bN (bJ (k:=47)) ?_
   refine sA (cwu [] [(210,15),(211,16),(212,17),(213,18)] 19 (zy q44)) ?_
   refine wI ?_
   refine aa H λv55 Hj H=>Hq ⟨[(0,.v (.c (.d false (.l (a0.map eU8))))),(3,tP 4),(5,tI (r2.1.bX.aZ.length:Int)),(6,tP 9),(7,tI v5),(12,tP 20)],(oM [.t,.n 0,.n 1,.n 2,.n 3] 4 34 (bD r2.1)++(oM [.t,.w 21,.w 22,.w 23,.w 24] 20 34 (bD v55)++[(5,w86 v16.ah true false),(6,w69 v16.aj true false),(7,w89 v16.aB true false),(8,w48 v16.aA true false),(9,.var 34 (kM [.t,.w 5,.w 6,.w 7,.w 8] (bD v16)))])),25⟩ Try.follows ?_ ?_
   .have H:=Hj
    refine AL 9 13 rfl ?_ ?_
    .refine AK [0,1,2,3,4,5,6,7,8,13,9,10,11,12,14,15] (by kernel_rfl) (by kernel_rfl) rfl ?_
     refine wI ?_
     refine aa H λr56 q56 H=>zA (ca (hF:=SO q56)) ?_
     obtain⟨h,H⟩:=rq H
     refine zA (ir rfl rfl rfl (ne0 h)) ?_
     refine aa H λr57 q57 H=>zB (aH (bw (o:=15)) (aH (bw (o:=16)) (aH (bw (o:=17)) (aH (bw (o:=18)) (bJ (k:=54)))))) (jp rfl (cwu [] [(210,21),(211,22),(212,23),(213,24)] 25 (sv q57))) b7 ?_
     refine wA (spx 100714) ?_
     exact ai H
    refine AK [0,1,2,3,4,5,6,7,8,9,10,11,12,13,14,15] (by kernel_rfl) (by kernel_rfl) rfl ?_
    refine wI ?_
    refine aa H λr56 q56 H=>zA (ca (hF:=SO q56)) ?_
    obtain⟨h,H⟩:=rq H
    refine zA (ir rfl rfl rfl (ne0 h)) ?_
    refine aa H λr57 q57 H=>zB (aH (bw (o:=15)) (aH (bw (o:=16)) (aH (bw (o:=17)) (aH (bw (o:=18)) (bJ (k:=54)))))) (jp rfl (cwu [] [(210,20),(211,21),(212,22),(213,23)] 24 (sv q57))) b7 ?_
    refine wA (spx 100715) ?_
    cases H
    refine aH (wS 20 24) ?_
    refine aH (wS 21 24) ?_
    refine aH (wS 22 24) ?_
    refine aH (wS 23 24) ?_
    exact wo
   refine wI ?_
   cases H
   refine eA ?_
   refine aH (wS 5 21) ?_
   refine aH (wS 6 22) ?_
   refine aH (wS 7 23) ?_
   refine aH (wS 8 24) ?_
   exact wo
  cases H
  refine et (λhq=>?_)
  cases hq
  refine wI ?_
  exact wo
 refine aa H λr58 q58 H=>nA (ca (hF:=PH q58)) ?_
 refine aa H λv59 Hj H=>jR ⟨[(3,tP 4),(14,tP 14),(80,tB v59)],(oM [.t,.n 0,.n 1,.n 2,.n 3] 4 34 (bD r2.1)++(oM [.t,.w 10,.w 11,.w 12,.w 13] 14 34 (bD r58))),15⟩ ?_ ?_
 .refine gC Hj ?_ ?_<;>intro H
  .exact ai H
  refine aa H λr60 q60 H=>nG (ca (hF:=So q60)) ?_
  exact ai H
 refine cC H ?_ ?_<;>intro H
 .exact ao H
 refine iT H (λq=>⟨[(3,tP 4),(14,tP 14),(15,tI q)],(oM [.t,.n 0,.n 1,.n 2,.n 3] 4 34 (bD r2.1)++(oM [.t,.w 10,.w 11,.w 12,.w 13] 14 34 (bD r58))),15⟩) ?_
 rintro v61 o H
 try dsimp only
 refine wI ?_
 refine cC H ?_ ?_<;>intro H
 .refine dI ?_
  refine aa H λr62 q62 H=>dA (ca (hF:=Iq q62)) ?_
  refine aa H λv63 Hj H=>jt ⟨[(3,tP 4),(14,tP 14),(15,tI v61),(113,tB v63)],(oM [.t,.n 0,.n 1,.n 2,.n 3] 4 34 (bD r2.1)++(oM [.t,.w 10,.w 11,.w 12,.w 13] 14 34 (bD r58))),15⟩ ?_ ?_
  .have H:=Hj
   refine wI ?_
   refine dC H ?_ ?_<;>intro H
   .refine aa H λr64 q64 H=>dG (ca (hF:=JY q64)) ?_
    refine dC H ?_ ?_<;>intro H
    .refine wI ?_
     exact ai H
    refine aa H λx65 hx65 H=>dG (xwT hx65) ?_
    refine dG (oe (he:=eU _ hx65)) ?_
    refine aa H λx66 hx66 H=>dG (CB hx66) ?_
    refine dG (oen (he:=eU _ hx66)) ?_
    refine aa H λr67 q67 H=>dG (ca (hF:=Cq q67)) ?_
    refine wI ?_
    exact ai H
   refine wI ?_
   exact ai H
  refine wI ?_
  refine cC H ?_ ?_<;>intro H
  .refine wI ?_
   obtain⟨r0,Hd,rfl⟩:=dnE H
   refine mR (λhq=>?_)
   have H:=Hd.trans (congrArg some hq)
   refine wI ?_
   exact ao H
  refine wI ?_
  cases H
  refine eA ?_
  exact wo
 obtain⟨r0,Hd,rfl⟩:=dnE H
 refine et (λhq=>?_)
 have H:=Hd.trans (congrArg some hq)
 refine wI ?_
 exact ao H
end Go.AM
