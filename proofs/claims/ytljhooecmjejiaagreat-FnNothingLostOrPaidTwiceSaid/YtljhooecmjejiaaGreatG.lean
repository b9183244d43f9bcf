/- A part. -/
import Derived.Test.YtljhooecmjejiaaGreatT
set_option linter.unusedVariables false
set_option linter.unusedSimpArgs false
namespace Go.AM
open Go.Proofs
attribute [local irreducible] AWN NS AWO AWR AWC DR cZ eE
set_option maxRecDepth 100000
set_option maxHeartbeats 40000000
def w3 (a:List Int) (g m:Bool:=true):Ob:=.row 3 1 (a.map eI) g m
def n3 (a:List Int) (g:Bool:=true):Ob:=.rown 3 1 (a.map eI) g
def w5 (a:List Int) (g m:Bool:=true):Ob:=.row 5 1 (a.map eU8) g m
def n5 (a:List Int) (g:Bool:=true):Ob:=.rown 5 1 (a.map eU8) g
def n45 (a:List ay) (g:Bool:=true):Ob:=.rown 45 14 (a.map c7) g
def w47 (a:List aC) (g m:Bool:=true):Ob:=.row 47 4 (a.map cm) g m
def n60 (a:List ag) (g:Bool:=true):Ob:=.rown 60 30 (a.map bS) g
def n66 (a:List aj) (g:Bool:=true):Ob:=.rown 66 4 (a.map da) g
def w72 (a:List az) (g m:Bool:=true):Ob:=.row 72 11 (a.map d5) g m
def w76 (a:List av) (g m:Bool:=true):Ob:=.row 76 6 (a.map dN) g m
def n78 (a:List bJ) (g:Bool:=true):Ob:=.rown 78 21 (a.map er) g
def w80 (a:List cX) (g m:Bool:=true):Ob:=.row 80 25 (a.map yE) g m
def RE (a:List bw) (g m:Bool:=true):Ob:=.row 104 1 (a.map cj) g m
def RG (a:List ae) (g m:Bool:=true):Ob:=.row 136 2 (a.map aE) g m
def J6 (a:List fc) (g:Bool:=true):Ob:=.rown 157 2 (a.map dP) g
def w161 (a:List ax) (g m:Bool:=true):Ob:=.row 161 2 (a.map bm) g m
def nS (a:ab):List (Nat×Ob):=oM [.t,.n 190,.n 191,.n 192,.n 193] 200 34 (aO a)
def vA (a0:List Int) (a1:List Int):Option Bool:=
 some (strB (rH a0) (rH a1))
theorem zD {a0:List Int} {a1:List Int} {r:Bool} (H:vA a0 a1=some r):Fn Tryz.prog 153 [aL (a0.map eU8),aL (a1.map eU8)] [.c (.d (.b r))]:=by
 refine PU Tryz.func153 (hN:=Tryz.ntmps153) (h:=?_)
 refine wI ?_
 cases H
 exact ah
end Go.AM
