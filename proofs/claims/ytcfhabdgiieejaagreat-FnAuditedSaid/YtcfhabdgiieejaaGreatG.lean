/- A part. -/
import Derived.Test.YtcfhabdgiieejaaGreatT
set_option linter.unusedVariables false
set_option linter.unusedSimpArgs false
namespace Go.AM
open Go.Proofs
open Tryz
attribute [local irreducible] AWN NS AWO AWR AWC DR DZ dQ f9 iter
set_option maxRecDepth 100000
set_option maxHeartbeats 40000000
def w3 (a:List Int) (g m:Bool:=true):Ob:=.row 3 1 (a.map eI) g m
def n3 (a:List Int) (g:Bool:=true):Ob:=.rown 3 1 (a.map eI) g
def w5 (a:List Int) (g m:Bool:=true):Ob:=.row 5 1 (a.map eU8) g m
def n5 (a:List Int) (g:Bool:=true):Ob:=.rown 5 1 (a.map eU8) g
def w42 (a:List aF) (g m:Bool:=true):Ob:=.row 42 11 (a.map cU) g m
def n42 (a:List aF) (g:Bool:=true):Ob:=.rown 42 11 (a.map cU) g
def w46 (a:List av) (g m:Bool:=true):Ob:=.row 46 6 (a.map cN) g m
def n46 (a:List av) (g:Bool:=true):Ob:=.rown 46 6 (a.map cN) g
def w48 (a:List bM) (g m:Bool:=true):Ob:=.row 48 21 (a.map dB) g m
def n48 (a:List bM) (g:Bool:=true):Ob:=.rown 48 21 (a.map dB) g
def w50 (a:List cX) (g m:Bool:=true):Ob:=.row 50 25 (a.map yR) g m
def w67 (a:List aG) (g m:Bool:=true):Ob:=.row 67 14 (a.map cF) g m
def n67 (a:List aG) (g:Bool:=true):Ob:=.rown 67 14 (a.map cF) g
def w82 (a:List aO) (g m:Bool:=true):Ob:=.row 82 4 (a.map dO) g m
def w93 (a:List ah) (g m:Bool:=true):Ob:=.row 93 30 (a.map bS) g m
def n93 (a:List ah) (g:Bool:=true):Ob:=.rown 93 30 (a.map bS) g
def J9 (a:List ae) (g m:Bool:=true):Ob:=.row 100 2 (a.map aM) g m
def YH (a:List aj) (g m:Bool:=true):Ob:=.row 107 4 (a.map cM) g m
def n107 (a:List aj) (g:Bool:=true):Ob:=.rown 107 4 (a.map cM) g
def Sd (a:List bJ) (g m:Bool:=true):Ob:=.row 152 1 (a.map dN) g m
def w155 (a:List fc) (g m:Bool:=true):Ob:=.row 155 2 (a.map eO) g m
def Q4 (a:List fc) (g:Bool:=true):Ob:=.rown 155 2 (a.map eO) g
def w166 (a:List aD) (g m:Bool:=true):Ob:=.row 166 2 (a.map bZ) g m
def nS (a:ab):Laa:=oM [.t,.n 190,.n 191,.n 192,.n 193] 200 34 (bw a)
def nI (a:ab):Laa:=oM [.t,.w 190,.w 191,.w 192,.w 193] 200 34 (bw a)
def gu (a0:List Int) (a1:Int):Int->Option (cr (Int) (Int))
 |v1=>bif ltB v1 (a0.length:Int) then(Option.bind (ix a0 v1) λx2=>bif eqB a1 x2 then(dn (some v1)) else(some (.next (WR (v1+1))))) else(dn (some (-1)))
def kP (a0:List Int) (a1:Int):Option Int:=
 iter (gu a0 a1) FU 0
instance Hx {a0:List Int} {a1:Int} {r:Int}:FC prog (kP a0 a1=some r) 315 [aL (a0.map eI),aI a1] [.c (.d (.i .i64 r))]:=gF func315 ntmps315 (hl 0 8)
def gr (a0:List Int) (a1:Int):Option Bool:=
 Option.bind (kP a0 a1) λr1=>some (leB 0 r1)
instance EE {a0:List Int} {a1:Int} {r:Bool}:FC prog (gr a0 a1=some r) 226 [aL (a0.map eI),aI a1] [.c (.d (.b r))]:=gF func226 ntmps226
def A1 (a0:List Int) (a1:List Int):Option Bool:=
 some (strB (xm a0) (xm a1))
instance T7 {a0:List Int} {a1:List Int} {r:Bool}:FC prog (A1 a0 a1=some r) 280 [aL (a0.map eU8),aL (a1.map eU8)] [.c (.d (.b r))]:=gF func280 ntmps280
instance mk3:ElT prog 3 Int eI (0:Int):=⟨⟩
instance mk107:ElT prog 107 aj cM it:=⟨⟩
instance mk155:ElT prog 155 fc eO Kf:=⟨⟩
instance mk67:ElT prog 67 aG cF yJ:=⟨⟩
instance mk48:ElT prog 48 bM dB fM:=⟨⟩
instance mk100:ElT prog 100 ae aM bT:=⟨⟩
instance mk152:ElT prog 152 bJ dN (⟨[]⟩:bJ):=⟨⟩
instance mk166:ElT prog 166 aD bZ db:=⟨⟩
instance mk93:ElT prog 93 ah bS pP:=⟨⟩
instance mk42:ElT prog 42 aF cU d9:=⟨⟩
instance mk5:ElT prog 5 Int eU8 (0:Int):=⟨⟩
end Go.AM
