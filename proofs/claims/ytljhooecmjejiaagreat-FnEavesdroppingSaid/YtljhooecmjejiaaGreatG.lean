/- A part. -/
import Derived.Test.YtljhooecmjejiaaGreatT
set_option linter.unusedVariables false
set_option linter.unusedSimpArgs false
namespace Go.AM
open Go.Proofs
attribute [local irreducible] AWN NS AWO AWR AWC DR cZ ey
set_option maxRecDepth 100000
set_option maxHeartbeats 40000000
def w3 (a:List Int) (g m:Bool:=true):Ob:=.row 3 1 (a.map eI) g m
def n3 (a:List Int) (g:Bool:=true):Ob:=.rown 3 1 (a.map eI) g
def w5 (a:List Int) (g m:Bool:=true):Ob:=.row 5 1 (a.map eU8) g m
def n5 (a:List Int) (g:Bool:=true):Ob:=.rown 5 1 (a.map eU8) g
def n45 (a:List az) (g:Bool:=true):Ob:=.rown 45 14 (a.map dE) g
def w47 (a:List aC) (g m:Bool:=true):Ob:=.row 47 4 (a.map ct) g m
def n60 (a:List ag) (g:Bool:=true):Ob:=.rown 60 30 (a.map bZ) g
def n66 (a:List aj) (g:Bool:=true):Ob:=.rown 66 4 (a.map dB) g
def w72 (a:List aA) (g m:Bool:=true):Ob:=.row 72 11 (a.map eb) g m
def w76 (a:List ao) (g m:Bool:=true):Ob:=.row 76 6 (a.map dq) g m
def n78 (a:List bD) (g:Bool:=true):Ob:=.rown 78 21 (a.map dK) g
def w80 (a:List df) (g m:Bool:=true):Ob:=.row 80 25 (a.map zD) g m
def SZ (a:List b9) (g m:Bool:=true):Ob:=.row 104 1 (a.map dQ) g m
def sC (a:List bp) (g m:Bool:=true):Ob:=.row 107 2 (a.map da) g m
def Ta (a:List ae) (g m:Bool:=true):Ob:=.row 136 2 (a.map aG) g m
def Lj (a:List fx) (g:Bool:=true):Ob:=.rown 157 2 (a.map dW) g
def w161 (a:List av) (g m:Bool:=true):Ob:=.row 161 2 (a.map bw) g m
def nS (a:ab):List (Nat×Ob):=oM [.t,.n 190,.n 191,.n 192,.n 193] 200 34 (aH a)
def gk (a0:List Int) (a1:List Int):Int→Option (cp (Int) (Bool))
 |v1=>bif ltB v1 ((a0.length:Nat):Int) then(Option.bind (ix a0 v1) fun x2=>Option.bind (ix a1 v1) fun x3=>bif !eqB x2 x3 then(dn (some false)) else(some (.next (WR (v1+1))))) else(dn (some true))
def fY (a0:List Int) (a1:List Int):Option Bool:=
 bif !eqB ((a0.length:Nat):Int) ((a1.length:Nat):Int) then(some false) else(iter (gk a0 a1) FU 0)
theorem qk {a0:List Int} {a1:List Int} {r:Bool} (H:fY a0 a1=some r):Fn Tryz.prog 276 [aL (a0.map eI),aL (a1.map eI)] [.c (.d (.b r))]:=by
 refine Ra Tryz.func276 (hN:=Tryz.ntmps276) (h:=?_)
 refine wI ?_
 refine cC H (fun H=>?_) fun H=>?_
 ·cases H
  exact ah
 ·refine iT H (fun q=>⟨[(0,.v (.c (.d false (.l (a0.map eI))))),(1,.v (.c (.d false (.l (a1.map eI))))),(12,tI ((a0.length:Nat):Int)),(13,tI q)],[],0⟩) ?_
  rintro v1 o H
  try dsimp only
  refine wI ?_
  refine cC H (fun H=>?_) fun H=>?_
  ·refine dI ?_
   obtain⟨x2,hx2,H⟩:=ob H
   refine dA (xdT (enc:=eI) hx2) ?_
   obtain⟨x3,hx3,H⟩:=ob H
   refine dA (xdT (enc:=eI) hx3) ?_
   refine wI ?_
   refine cC H (fun H=>?_) fun H=>?_
   ·obtain⟨r0,Hd,rfl⟩:=dnE H
    refine ks (fun hq=>?_)
    have H:=Hd.trans (congrArg some hq)
    refine wI ?_
    cases H
    exact ah
   ·cases H
    refine dU ?_
    exact wo
  ·obtain⟨r0,Hd,rfl⟩:=dnE H
   refine dT (fun hq=>?_)
   have H:=Hd.trans (congrArg some hq)
   refine wI ?_
   cases H
   exact ah
end Go.AM
