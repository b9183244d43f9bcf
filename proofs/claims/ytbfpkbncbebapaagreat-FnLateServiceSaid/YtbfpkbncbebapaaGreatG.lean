/- A part. -/
import Derived.Test.YtbfpkbncbebapaaGreatT
set_option linter.unusedVariables false
set_option linter.unusedSimpArgs false
namespace Go.AM
open Go.Proofs
open Tryz
attribute [local irreducible] AWN NS AWO AWR AWC DR dO ip
set_option maxRecDepth 100000
set_option maxHeartbeats 40000000
def w3 (a:List Int) (g m:Bool:=true):Ob:=.row 3 1 (a.map eI) g m
def n3 (a:List Int) (g:Bool:=true):Ob:=.rown 3 1 (a.map eI) g
def w5 (a:List Int) (g m:Bool:=true):Ob:=.row 5 1 (a.map eU8) g m
def n5 (a:List Int) (g:Bool:=true):Ob:=.rown 5 1 (a.map eU8) g
def w42 (a:List aR) (g m:Bool:=true):Ob:=.row 42 11 (a.map dY) g m
def n42 (a:List aR) (g:Bool:=true):Ob:=.rown 42 11 (a.map dY) g
def w46 (a:List aK) (g m:Bool:=true):Ob:=.row 46 6 (a.map d5) g m
def n46 (a:List aK) (g:Bool:=true):Ob:=.rown 46 6 (a.map d5) g
def w48 (a:List a9) (g m:Bool:=true):Ob:=.row 48 21 (a.map eH) g m
def n48 (a:List a9) (g:Bool:=true):Ob:=.rown 48 21 (a.map eH) g
def w56 (a:List aP) (g m:Bool:=true):Ob:=.row 56 4 (a.map cE) g m
def w69 (a:List ae) (g m:Bool:=true):Ob:=.row 69 30 (a.map cG) g m
def n69 (a:List ae) (g:Bool:=true):Ob:=.rown 69 30 (a.map cG) g
def w86 (a:List aw) (g m:Bool:=true):Ob:=.row 86 14 (a.map dq) g m
def n86 (a:List aw) (g:Bool:=true):Ob:=.rown 86 14 (a.map dq) g
def w89 (a:List av) (g m:Bool:=true):Ob:=.row 89 4 (a.map dB) g m
def n89 (a:List av) (g:Bool:=true):Ob:=.rown 89 4 (a.map dB) g
def UF (a:List bm) (g m:Bool:=true):Ob:=.row 125 1 (a.map cg) g m
def w132 (a:List aY) (g m:Bool:=true):Ob:=.row 132 2 (a.map bQ) g m
def Lr (a:List an) (g m:Bool:=true):Ob:=.row 144 2 (a.map aN) g m
def w158 (a:List eY) (g m:Bool:=true):Ob:=.row 158 2 (a.map dL) g m
def VD (a:List eY) (g:Bool:=true):Ob:=.rown 158 2 (a.map dL) g
def nS (a:ab):List (Nat×Ob):=oM [.t,.n 190,.n 191,.n 192,.n 193] 200 34 (bD a)
def nI (a:ab):List (Nat×Ob):=oM [.t,.w 190,.w 191,.w 192,.w 193] 200 34 (bD a)
def gp (a0:List Int) (a1:Int):Int->Option (cK (Int) (Int))
 |v1=>bif ltB v1 (a0.length:Int) then(Option.bind (ix a0 v1) λx2=>bif eqB a1 x2 then(dn (some v1)) else(some (.next (WR (v1+1))))) else(dn (some (-1)))
def kn (a0:List Int) (a1:Int):Option Int:=
 iter (gp a0 a1) FU 0
theorem tX {a0:List Int} {a1:Int} {r:Int} (H:kn a0 a1=some r):Fn prog 260 [aL (a0.map eI),aI a1] [.c (.d (.i .i64 r))]:=by
 refine NO func260 (hN:=ntmps260) (h:=?_)
 refine wI ?_
 refine iT H (λq=>⟨[(0,.v (.c (.d false (.l (a0.map eI))))),(1,tI a1),(7,tI (a0.length:Int)),(8,tI q)],[],0⟩) ?_
 rintro v1 o H
 try dsimp only
 refine wI ?_
 refine cC H (λH=>?_) λH=>?_
 .obtain⟨x2,hx2,H⟩:=ob H
  refine nA (xdT (enc:=eI) hx2) ?_
  refine cC H (λH=>?_) λH=>?_
  .obtain⟨r0,Hd,rfl⟩:=dnE H
   refine mR (λhq=>?_)
   have H:=Hd.trans (congrArg some hq)
   refine wI ?_
   cases H
   exact ku
  cases H
  refine eA ?_
  exact wo
 obtain⟨r0,Hd,rfl⟩:=dnE H
 refine et (λhq=>?_)
 have H:=Hd.trans (congrArg some hq)
 refine wI ?_
 cases H
 exact ku
def gm (a0:List Int) (a1:Int):Option Bool:=
 Option.bind (kn a0 a1) λr1=>some (leB 0 r1)
theorem rh {a0:List Int} {a1:Int} {r:Bool} (H:gm a0 a1=some r):Fn prog 190 [aL (a0.map eI),aI a1] [.c (.d (.b r))]:=by
 refine NO func190 (hN:=ntmps190) (h:=?_)
 refine wI ?_
 obtain⟨r1,hr1,H⟩:=ob H
 refine nA (ca (hF:=tX hr1)) ?_
 cases H
 exact ku
def zu (a0:List Int) (a1:List Int):Option Bool:=
 some (strB (xM a0) (xM a1))
theorem DJ {a0:List Int} {a1:List Int} {r:Bool} (H:zu a0 a1=some r):Fn prog 262 [aL (a0.map eU8),aL (a1.map eU8)] [.c (.d (.b r))]:=by
 refine NO func262 (hN:=ntmps262) (h:=?_)
 refine wI ?_
 cases H
 exact ku
end Go.AM
