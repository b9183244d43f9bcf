/- A part. -/
import Derived.Test.YtmginjngmidkbaaGreatT
set_option linter.unusedVariables false
set_option linter.unusedSimpArgs false
namespace Go.AM
open Go.Proofs
open Tryz
attribute [local irreducible] AWN NS AWO AWR AWC DR DZ dS gp iter
set_option maxRecDepth 100000
set_option maxHeartbeats 40000000
def w3 (a:List Int) (g m:Bool:=true):Ob:=.row 3 1 (a.map eI) g m
def n3 (a:List Int) (g:Bool:=true):Ob:=.rown 3 1 (a.map eI) g
def w5 (a:List Int) (g m:Bool:=true):Ob:=.row 5 1 (a.map eU8) g m
def n5 (a:List Int) (g:Bool:=true):Ob:=.rown 5 1 (a.map eU8) g
def w43 (a:List aH) (g m:Bool:=true):Ob:=.row 43 11 (a.map cZ) g m
def n43 (a:List aH) (g:Bool:=true):Ob:=.rown 43 11 (a.map cZ) g
def w47 (a:List ax) (g m:Bool:=true):Ob:=.row 47 6 (a.map db) g m
def n47 (a:List ax) (g:Bool:=true):Ob:=.rown 47 6 (a.map db) g
def w49 (a:List bS) (g m:Bool:=true):Ob:=.row 49 21 (a.map eb) g m
def n49 (a:List bS) (g:Bool:=true):Ob:=.rown 49 21 (a.map eb) g
def w51 (a:List dN) (g m:Bool:=true):Ob:=.row 51 25 (a.map DJ) g m
def w57 (a:List am) (g m:Bool:=true):Ob:=.row 57 4 (a.map cT) g m
def n57 (a:List am) (g:Bool:=true):Ob:=.rown 57 4 (a.map cT) g
def w62 (a:List aO) (g m:Bool:=true):Ob:=.row 62 4 (a.map dO) g m
def w75 (a:List ah) (g m:Bool:=true):Ob:=.row 75 30 (a.map bZ) g m
def n75 (a:List ah) (g:Bool:=true):Ob:=.rown 75 30 (a.map bZ) g
def w93 (a:List aJ) (g m:Bool:=true):Ob:=.row 93 14 (a.map c9) g m
def n93 (a:List aJ) (g:Bool:=true):Ob:=.rown 93 14 (a.map c9) g
def w115 (a:List aD) (g m:Bool:=true):Ob:=.row 115 2 (a.map bu) g m
def Sq (a:List bV) (g m:Bool:=true):Ob:=.row 119 1 (a.map ee) g m
def Kw (a:List ae) (g m:Bool:=true):Ob:=.row 131 2 (a.map aM) g m
def w147 (a:List fy) (g m:Bool:=true):Ob:=.row 147 2 (a.map dK) g m
def Ri (a:List fy) (g:Bool:=true):Ob:=.rown 147 2 (a.map dK) g
def nS (a:ab):Laa:=oM [.t,.n 190,.n 191,.n 192,.n 193] 200 34 (bw a)
def nI (a:ab):Laa:=oM [.t,.w 190,.w 191,.w 192,.w 193] 200 34 (bw a)
def gJ (a0:List Int) (a1:Int):Int->Option (ct (Int) (Int))
 |v1=>bif ltB v1 (a0.length:Int) then(Option.bind (ix a0 v1) λx2=>bif eqB a1 x2 then(dn (some v1)) else(some (.next (WR (v1+1))))) else(dn (some (-1)))
def lb (a0:List Int) (a1:Int):Option Int:=
 iter (gJ a0 a1) FU 0
instance HP {a0:List Int} {a1:Int} {r:Int}:FC prog (lb a0 a1=some r) 240 [aL (a0.map eI),aI a1] [.c (.d (.i .i64 r))]:=gF func240 ntmps240 (hl 0 8)
def gI (a0:List Int) (a1:Int):Option Bool:=
 Option.bind (lb a0 a1) λr1=>some (leB 0 r1)
instance EN {a0:List Int} {a1:Int} {r:Bool}:FC prog (gI a0 a1=some r) 163 [aL (a0.map eI),aI a1] [.c (.d (.b r))]:=gF func163 ntmps163
def A4 (a0:List Int) (a1:List Int):Option Bool:=
 some (strB (xo a0) (xo a1))
instance Ug {a0:List Int} {a1:List Int} {r:Bool}:FC prog (A4 a0 a1=some r) 242 [aL (a0.map eU8),aL (a1.map eU8)] [.c (.d (.b r))]:=gF func242 ntmps242
end Go.AM
