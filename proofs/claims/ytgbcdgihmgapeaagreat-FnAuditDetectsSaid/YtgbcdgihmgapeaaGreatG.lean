/- A part. -/
import Derived.Test.YtgbcdgihmgapeaaGreatT
set_option linter.unusedVariables false
set_option linter.unusedSimpArgs false
open Option renaming some->ς,none->ξ
open Bool renaming true->ζ,false->η
open True renaming intro->θ
namespace Go.AM
open Go.Proofs
open Tryz
attribute [local irreducible] AWN NS AWO AWR AWC DR DZ cB eZ iter
set_option maxRecDepth 100000
set_option maxHeartbeats 40000000
def w3(a:List Int)(g m:Bool:=ζ):Ob:=.row 3 1 (a.map eI) g m
def n3(a:List Int)(g:Bool:=ζ):Ob:=.rown 3 1 (a.map eI) g
def w5(a:List Int)(g m:Bool:=ζ):Ob:=.row 5 1 (a.map eU8) g m
def n5(a:List Int)(g:Bool:=ζ):Ob:=.rown 5 1 (a.map eU8) g
def n45(a:List aC)(g:Bool:=ζ):Ob:=.rown 45 14 (a.map di) g
def w50(a:List bD)(g m:Bool:=ζ):Ob:=.row 50 1 (a.map de) g m
def n55(a:List am)(g:Bool:=ζ):Ob:=.rown 55 4 (a.map cS) g
def w65(a:List aM)(g m:Bool:=ζ):Ob:=.row 65 11 (a.map eB) g m
def w69(a:List aD)(g m:Bool:=ζ):Ob:=.row 69 6 (a.map d4) g m
def n71(a:List bT)(g:Bool:=ζ):Ob:=.rown 71 21 (a.map eU) g
def w73(a:List cY)(g m:Bool:=ζ):Ob:=.row 73 25 (a.map nI) g m
def w76(a:List aF)(g m:Bool:=ζ):Ob:=.row 76 4 (a.map dR) g m
def n87(a:List ah)(g:Bool:=ζ):Ob:=.rown 87 30 (a.map cO) g
def N9(a:List fk)(g:Bool:=ζ):Ob:=.rown 113 2 (a.map fP) g
def w167(a:List ae)(g m:Bool:=ζ):Ob:=.row 167 2 (a.map aX) g m
def nS(a:ab):Laa:=oM [.t,.n 190,.n 191,.n 192,.n 193] 200 34 (aS a)
def yg(a0:List Int)(a1:List Int):Option Bool:=
 ς (strB (uz a0) (uz a1))
instance QV{a0:List Int}{a1:List Int}{r:Bool}:FC prog (yg a0 a1=ς r) 60 [aL (a0.map eU8),aL (a1.map eU8)] [.c (.d (.b r))]:=gG func60 ntmps60
def fc(a0:List Int)(a1:Int):Int->Option (ct (Int) (Int))
 |v1=>bif ltB v1 (a0.length:Int) then(Option.bind (ix a0 v1) λx2=>bif eqB a1 x2 then(dn (ς v1)) else(ς (.next (WR (v1+1))))) else(dn (ς (-1)))
def jx(a0:List Int)(a1:Int):Option Int:=
 iter (fc a0 a1) FU 0
instance DU{a0:List Int}{a1:Int}{r:Int}:FC prog (jx a0 a1=ς r) 148 [aL (a0.map eI),aI a1] [.c (.d (.i .i64 r))]:=gG func148 ntmps148 (hl 0 8)
def fa(a0:List Int)(a1:Int):Option Bool:=
 Option.bind (jx a0 a1) λr1=>ς (leB 0 r1)
instance BN{a0:List Int}{a1:Int}{r:Bool}:FC prog (fa a0 a1=ς r) 98 [aL (a0.map eI),aI a1] [.c (.d (.b r))]:=gG func98 ntmps98
instance en3:EnT prog 3 Int eI:=⟨⟩
instance en5:EnT prog 5 Int eU8:=⟨⟩
instance en45:EnT prog 45 aC di:=⟨⟩
instance en50:EnT prog 50 bD de:=⟨⟩
instance en55:EnT prog 55 am cS:=⟨⟩
instance en65:EnT prog 65 aM eB:=⟨⟩
instance en69:EnT prog 69 aD d4:=⟨⟩
instance en71:EnT prog 71 bT eU:=⟨⟩
instance en73:EnT prog 73 cY nI:=⟨⟩
instance en76:EnT prog 76 aF dR:=⟨⟩
instance en87:EnT prog 87 ah cO:=⟨⟩
instance en113:EnT prog 113 fk fP:=⟨⟩
instance en167:EnT prog 167 ae aX:=⟨⟩
instance en170:EnT prog 170 aJ b9:=⟨⟩
end Go.AM
