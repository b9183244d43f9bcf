/- A part. -/
import Derived.Test.YtbfpkbncbebapaaGreatT
set_option linter.unusedVariables false
set_option linter.unusedSimpArgs false
namespace Go.AM
open Go.Proofs
open Tryz
attribute [local irreducible] AWN NS AWO AWR AWC DR dQ gQ
set_option maxRecDepth 100000
set_option maxHeartbeats 40000000
def w3 (a:List Int) (g m:Bool:=true):Ob:=.row 3 1 (a.map eI) g m
def n3 (a:List Int) (g:Bool:=true):Ob:=.rown 3 1 (a.map eI) g
def w5 (a:List Int) (g m:Bool:=true):Ob:=.row 5 1 (a.map eU8) g m
def n5 (a:List Int) (g:Bool:=true):Ob:=.rown 5 1 (a.map eU8) g
def w42 (a:List aH) (g m:Bool:=true):Ob:=.row 42 11 (a.map ey) g m
def w46 (a:List aC) (g m:Bool:=true):Ob:=.row 46 6 (a.map dR) g m
def w48 (a:List bD) (g m:Bool:=true):Ob:=.row 48 21 (a.map dv) g m
def n48 (a:List bD) (g:Bool:=true):Ob:=.rown 48 21 (a.map dv) g
def w50 (a:List cR) (g m:Bool:=true):Ob:=.row 50 25 (a.map Cv) g m
def w56 (a:List aG) (g m:Bool:=true):Ob:=.row 56 4 (a.map cA) g m
def w69 (a:List ah) (g m:Bool:=true):Ob:=.row 69 30 (a.map bB) g m
def n69 (a:List ah) (g:Bool:=true):Ob:=.rown 69 30 (a.map bB) g
def w86 (a:List aD) (g m:Bool:=true):Ob:=.row 86 14 (a.map cI) g m
def n86 (a:List aD) (g:Bool:=true):Ob:=.rown 86 14 (a.map cI) g
def w89 (a:List am) (g m:Bool:=true):Ob:=.row 89 4 (a.map cp) g m
def n89 (a:List am) (g:Bool:=true):Ob:=.rown 89 4 (a.map cp) g
def SO (a:List bm) (g m:Bool:=true):Ob:=.row 125 1 (a.map cd) g m
def w132 (a:List aE) (g m:Bool:=true):Ob:=.row 132 2 (a.map aZ) g m
def SQ (a:List ae) (g m:Bool:=true):Ob:=.row 144 2 (a.map av) g m
def w158 (a:List eH) (g m:Bool:=true):Ob:=.row 158 2 (a.map cQ) g m
def Oz (a:List eH) (g:Bool:=true):Ob:=.rown 158 2 (a.map cQ) g
def nS (a:ab):List (Nat×Ob):=oM [.t,.n 190,.n 191,.n 192,.n 193] 200 34 (aJ a)
def nI (a:ab):List (Nat×Ob):=oM [.t,.w 190,.w 191,.w 192,.w 193] 200 34 (aJ a)
def fM (a0:List Int) (a1:Int):Int->Option (cf (Int) (Int))
 |v1=>bif ltB v1 (a0.length:Int) then(Option.bind (ix a0 v1) λx2=>bif eqB a1 x2 then(dn (some v1)) else(some (.next (WR (v1+1))))) else(dn (some (-1)))
def jL (a0:List Int) (a1:Int):Option Int:=
 iter (fM a0 a1) FU 0
theorem tq {a0:List Int} {a1:Int} {r:Int} (H:jL a0 a1=some r):Fn prog 260 [aL (a0.map eI),aI a1] [.c (.d (.i .i64 r))]:=by
 refine MC func260 (hN:=ntmps260) (h:=?_)
 refine wI ?_
 refine iT H (λq=>⟨[(0,.v (.c (.d false (.l (a0.map eI))))),(1,tI a1),(7,tI (a0.length:Int)),(8,tI q)],[],0⟩) ?_
 rintro v1 o H
 try dsimp only
 refine wI ?_
 refine cC H (λH=>?_) λH=>?_
 .obtain⟨x2,hx2,H⟩:=ob H
  refine nA (xdT (enc:=eI) hx2) ?_
  refine cC H (λH=>?_) λH=>?_
  .obtain⟨r0,Hd,rfl⟩:=dnE H
   refine f6 (λhq=>?_)
   have H:=Hd.trans (congrArg some hq)
   refine wI ?_
   cases H
   exact dT
  cases H
  refine dy ?_
  exact wo
 obtain⟨r0,Hd,rfl⟩:=dnE H
 refine dF (λhq=>?_)
 have H:=Hd.trans (congrArg some hq)
 refine wI ?_
 cases H
 exact dT
def fL (a0:List Int) (a1:Int):Option Bool:=
 Option.bind (jL a0 a1) λr1=>some (leB 0 r1)
theorem qx {a0:List Int} {a1:Int} {r:Bool} (H:fL a0 a1=some r):Fn prog 190 [aL (a0.map eI),aI a1] [.c (.d (.b r))]:=by
 refine MC func190 (hN:=ntmps190) (h:=?_)
 refine wI ?_
 obtain⟨r1,hr1,H⟩:=ob H
 refine nA (ca (hF:=tq hr1)) ?_
 cases H
 exact dT
def zx (a0:List Int) (a1:List Int):Option Bool:=
 some (strB (vj a0) (vj a1))
theorem Dn {a0:List Int} {a1:List Int} {r:Bool} (H:zx a0 a1=some r):Fn prog 262 [aL (a0.map eU8),aL (a1.map eU8)] [.c (.d (.b r))]:=by
 refine MC func262 (hN:=ntmps262) (h:=?_)
 refine wI ?_
 cases H
 exact dT
end Go.AM
