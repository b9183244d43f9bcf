/- A part. -/
import Derived.Test.YtfbpfflnhfcmaaaGreatT
set_option linter.unusedVariables false
set_option linter.unusedSimpArgs false
open Option renaming some->ς,none->ξ
open Bool renaming true->ζ,false->η
open True renaming intro->θ
namespace Go.AM
open Go.Proofs
open Tryz
attribute [local irreducible] AWN NS AWO AWR AWC DR DZ du gr iter
set_option maxRecDepth 100000
set_option maxHeartbeats 40000000
def w3(a:List Int)(g m:Bool:=ζ):Ob:=.row 3 1 (a.map eI) g m
def n3(a:List Int)(g:Bool:=ζ):Ob:=.rown 3 1 (a.map eI) g
def w5(a:List Int)(g m:Bool:=ζ):Ob:=.row 5 1 (a.map eU8) g m
def n5(a:List Int)(g:Bool:=ζ):Ob:=.rown 5 1 (a.map eU8) g
def w42(a:List aG)(g m:Bool:=ζ):Ob:=.row 42 11 (a.map dM) g m
def n42(a:List aG)(g:Bool:=ζ):Ob:=.rown 42 11 (a.map dM) g
def w46(a:List aD)(g m:Bool:=ζ):Ob:=.row 46 6 (a.map dr) g m
def n46(a:List aD)(g:Bool:=ζ):Ob:=.rown 46 6 (a.map dr) g
def w48(a:List bA)(g m:Bool:=ζ):Ob:=.row 48 21 (a.map eP) g m
def n48(a:List bA)(g:Bool:=ζ):Ob:=.rown 48 21 (a.map eP) g
def w50(a:List dJ)(g m:Bool:=ζ):Ob:=.row 50 25 (a.map Ex) g m
def w67(a:List aC)(g m:Bool:=ζ):Ob:=.row 67 14 (a.map dF) g m
def n67(a:List aC)(g:Bool:=ζ):Ob:=.rown 67 14 (a.map dF) g
def w82(a:List aU)(g m:Bool:=ζ):Ob:=.row 82 4 (a.map er) g m
def w93(a:List ag)(g m:Bool:=ζ):Ob:=.row 93 30 (a.map cp) g m
def n93(a:List ag)(g:Bool:=ζ):Ob:=.rown 93 30 (a.map cp) g
def C0(a:List ab)(g m:Bool:=ζ):Ob:=.row 100 2 (a.map aX) g m
def n100(a:List ab)(g:Bool:=ζ):Ob:=.rown 100 2 (a.map aX) g
def w107(a:List aj)(g m:Bool:=ζ):Ob:=.row 107 4 (a.map dh) g m
def Bp(a:List aj)(g:Bool:=ζ):Ob:=.rown 107 4 (a.map dh) g
def M9(a:List bI)(g m:Bool:=ζ):Ob:=.row 151 1 (a.map d8) g m
def w154(a:List dY)(g m:Bool:=ζ):Ob:=.row 154 2 (a.map eL) g m
def Sk(a:List dY)(g:Bool:=ζ):Ob:=.rown 154 2 (a.map eL) g
def w165(a:List aH)(g m:Bool:=ζ):Ob:=.row 165 2 (a.map cf) g m
def n165(a:List aH)(g:Bool:=ζ):Ob:=.rown 165 2 (a.map cf) g
def nS(a:ae):Laa:=oM [.t,.n 190,.n 191,.n 192,.n 193] 200 34 (bF a)
def nI(a:ae):Laa:=oM [.t,.w 190,.w 191,.w 192,.w 193] 200 34 (bF a)
def gI(a0:List Int)(a1:Int):Int->Option (ci (Int) (Int))
 |v1=>bif ltB v1 (a0.length:Int) then(Option.bind (ix a0 v1) λx2=>bif eqB a1 x2 then(dn (ς v1)) else(ς (.next (WR (v1+1))))) else(dn (ς (-1)))
def lH(a0:List Int)(a1:Int):Option Int:=
 iter (gI a0 a1) FU 0
instance Iu{a0:List Int}{a1:Int}{r:Int}:FC prog (lH a0 a1=ς r) 300 [aL (a0.map eI),aI a1] [.c (.d (.i .i64 r))]:=gG func300 ntmps300 (hl 0 8)
def gH(a0:List Int)(a1:Int):Option Bool:=
 Option.bind (lH a0 a1) λr1=>ς (leB 0 r1)
instance FT{a0:List Int}{a1:Int}{r:Bool}:FC prog (gH a0 a1=ς r) 213 [aL (a0.map eI),aI a1] [.c (.d (.b r))]:=gG func213 ntmps213
def B5(a0:List Int)(a1:List Int):Option Bool:=
 ς (strB (rD a0) (rD a1))
instance Vi{a0:List Int}{a1:List Int}{r:Bool}:FC prog (B5 a0 a1=ς r) 267 [aL (a0.map eU8),aL (a1.map eU8)] [.c (.d (.b r))]:=gG func267 ntmps267
instance en3:EnT prog 3 Int eI:=⟨⟩
instance en5:EnT prog 5 Int eU8:=⟨⟩
instance en42:EnT prog 42 aG dM:=⟨⟩
instance en46:EnT prog 46 aD dr:=⟨⟩
instance en48:EnT prog 48 bA eP:=⟨⟩
instance en50:EnT prog 50 dJ Ex:=⟨⟩
instance en67:EnT prog 67 aC dF:=⟨⟩
instance en82:EnT prog 82 aU er:=⟨⟩
instance en93:EnT prog 93 ag cp:=⟨⟩
instance en100:EnT prog 100 ab aX:=⟨⟩
instance en107:EnT prog 107 aj dh:=⟨⟩
instance en151:EnT prog 151 bI d8:=⟨⟩
instance en154:EnT prog 154 dY eL:=⟨⟩
instance en165:EnT prog 165 aH cf:=⟨⟩
instance mk3:ElT prog 3 Int eI (0:Int):=⟨⟩
instance mk107:ElT prog 107 aj dh qt:=⟨⟩
instance mk154:ElT prog 154 dY eL O2:=⟨⟩
instance mk67:ElT prog 67 aC dF Ht:=⟨⟩
instance mk48:ElT prog 48 bA eP fE:=⟨⟩
instance mk100:ElT prog 100 ab aX bY:=⟨⟩
instance mk151:ElT prog 151 bI d8 (⟨[]⟩:bI):=⟨⟩
instance mk165:ElT prog 165 aH cf dV:=⟨⟩
instance mk93:ElT prog 93 ag cp AB:=⟨⟩
instance mk42:ElT prog 42 aG dM fc:=⟨⟩
instance mk5:ElT prog 5 Int eU8 (0:Int):=⟨⟩
end Go.AM
