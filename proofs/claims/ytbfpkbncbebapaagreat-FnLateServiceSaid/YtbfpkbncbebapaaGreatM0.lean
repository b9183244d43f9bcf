/- A part. -/
import Derived.Test.YtbfpkbncbebapaaGreatG
set_option linter.unusedVariables false
open Option renaming bind->aaC
namespace Go.AM
open Go.Proofs
open Tryz
attribute [local irreducible] AWN NS AWO AWR AWC DR dO ip
set_option maxRecDepth 100000
set_option maxHeartbeats 40000000
def XG (a0:List Int):Option Bool:=
 some (ltB 1048576 (a0.length:Int))
theorem XH {a0:List Int} {r:Bool} (H:XG a0=some r):Fn prog 10 [aL (a0.map eU8)] [.c (.d (.b r))]:=by
 refine fI func10 ntmps10 ?_
 exact ao H
def lat (a0:List Int) (a1:Int):Option Int:=
 bif ltB a1 (a0.length:Int) then(aaC (ix a0 a1) λx1=>some (WR (x1))) else(some (Int.tmod (WR ((WR (a1*31))+(WR ((a0.length:Int)*7)))) 256))
theorem SO {a0:List Int} {a1:Int} {r:Int} (H:lat a0 a1=some r):Fn prog 12 [aL (a0.map eU8),aI a1] [.c (.d (.i .i64 r))]:=by
 refine fI func12 ntmps12 ?_
 refine cC H ?_ ?_<;>intro H
 .refine aa H λx1 hx1 H=>nA (xdT (enc:=eU8) hx1) ?_
  exact ao H
 refine nA (ir rfl rfl rfl (by decide)) ?_
 exact ao H
def tE (a0:List Int) (a1:List Int):Int->Option (cK (Int) (Bool))
 |v1=>bif ltB v1 (a0.length:Int) then(aaC (ix a0 v1) λx2=>aaC (ix a1 v1) λx3=>bif !eqB x2 x3 then(dn (some false)) else(some (.next (WR (v1+1))))) else(dn (some true))
def u9 (a0:List Int) (a1:List Int):Option Bool:=
 bif !eqB (a0.length:Int) (a1.length:Int) then(some false) else(iter (tE a0 a1) FU 0)
theorem H2 {a0:List Int} {a1:List Int} {r:Bool} (H:u9 a0 a1=some r):Fn prog 82 [aL (a0.map eU8),aL (a1.map eU8)] [.c (.d (.b r))]:=by
 refine fI func82 ntmps82 ?_
 refine cC H ?_ ?_<;>intro H
 .exact ao H
 refine iT H (λq=>⟨[(0,.v (.c (.d false (.l (a0.map eU8))))),(1,.v (.c (.d false (.l (a1.map eU8))))),(5,tI q)],[],0⟩) ?_
 rintro v1 o H
 try dsimp only
 refine wI ?_
 refine cC H ?_ ?_<;>intro H
 .refine dI ?_
  refine aa H λx2 hx2 H=>dA (xdT (enc:=eU8) hx2) ?_
  refine aa H λx3 hx3 H=>dA (xdT (enc:=eU8) hx3) ?_
  refine wI ?_
  refine cC H ?_ ?_<;>intro H
  .obtain⟨r0,Hd,rfl⟩:=dnE H
   refine mR (λhq=>?_)
   have H:=Hd.trans (congrArg some hq)
   refine wI ?_
   exact ao H
  cases H
  refine eA ?_
  exact wo
 obtain⟨r0,Hd,rfl⟩:=dnE H
 refine et (λhq=>?_)
 have H:=Hd.trans (congrArg some hq)
 refine wI ?_
 exact ao H
def oA (a0:List bm) (a1:List bm):Int->Option (cK (Int) (Bool))
 |v1=>bif ltB v1 (a0.length:Int) then(aaC (ix a0 v1) λx2=>aaC (ix a1 v1) λx3=>aaC (u9 x2.a8 x3.a8) λr4=>bif !r4 then(dn (some false)) else(some (.next (WR (v1+1))))) else(dn (some true))
def ma (a0:List bm) (a1:List bm):Option Bool:=
 bif !eqB (a0.length:Int) (a1.length:Int) then(some false) else(iter (oA a0 a1) FU 0)
theorem Cq {a0:List bm} {a1:List bm} {r:Bool} (H:ma a0 a1=some r):Fn prog 30 [aL (a0.map cg),aL (a1.map cg)] [.c (.d (.b r))]:=by
 refine fI func30 ntmps30 ?_
 refine cC H ?_ ?_<;>intro H
 .exact ao H
 refine iT H (λq=>⟨[(0,.v (.c (.d false (.l (a0.map cg))))),(1,.v (.c (.d false (.l (a1.map cg))))),(5,tI q)],[],0⟩) ?_
 rintro v1 o H
 try dsimp only
 refine wI ?_
 refine cC H ?_ ?_<;>intro H
 .refine dI ?_
  refine aa H λx2 hx2 H=>dA (xdT (enc:=cg) hx2) ?_
  refine aa H λx3 hx3 H=>dA (xdT (enc:=cg) hx3) ?_
  refine aa H λr4 q4 H=>dA (ca (hF:=H2 q4)) ?_
  refine wI ?_
  refine cC H ?_ ?_<;>intro H
  .obtain⟨r0,Hd,rfl⟩:=dnE H
   refine mR (λhq=>?_)
   have H:=Hd.trans (congrArg some hq)
   refine wI ?_
   exact ao H
  cases H
  refine eA ?_
  exact wo
 obtain⟨r0,Hd,rfl⟩:=dnE H
 refine et (λhq=>?_)
 have H:=Hd.trans (congrArg some hq)
 refine wI ?_
 exact ao H
end Go.AM
