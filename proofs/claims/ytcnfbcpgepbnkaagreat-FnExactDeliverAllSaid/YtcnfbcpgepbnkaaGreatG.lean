/- A part. -/
import Derived.Test.YtcnfbcpgepbnkaaGreatT
set_option linter.unusedVariables false
set_option linter.unusedSimpArgs false
open Option renaming some->ς,none->ξ
open Bool renaming true->ζ,false->η
open True renaming intro->θ
namespace Go.AM
open Go.Proofs
open Tryz
attribute [local irreducible] AWN NS AWO AWR AWC DR DZ cp ec iter
set_option maxRecDepth 100000
set_option maxHeartbeats 40000000
def w3(a:List Int)(g m:Bool:=ζ):Ob:=.row 3 1 (a.map eI) g m
def n3(a:List Int)(g:Bool:=ζ):Ob:=.rown 3 1 (a.map eI) g
def w5(a:List Int)(g m:Bool:=ζ):Ob:=.row 5 1 (a.map eU8) g m
def n5(a:List Int)(g:Bool:=ζ):Ob:=.rown 5 1 (a.map eU8) g
def Wa(a:List av)(g m:Bool:=ζ):Ob:=.row 129 14 (a.map aZ) g m
def X8(a:List av)(g:Bool:=ζ):Ob:=.rown 129 14 (a.map aZ) g
def Wb(a:List ag)(g m:Bool:=ζ):Ob:=.row 140 30 (a.map aB) g m
def X9(a:List ag)(g:Bool:=ζ):Ob:=.rown 140 30 (a.map aB) g
def Wc(a:List an)(g m:Bool:=ζ):Ob:=.row 144 4 (a.map bu) g m
def Ya(a:List an)(g:Bool:=ζ):Ob:=.rown 144 4 (a.map bu) g
def w147(a:List ar)(g m:Bool:=ζ):Ob:=.row 147 11 (a.map cb) g m
def Wd(a:List aH)(g m:Bool:=ζ):Ob:=.row 152 21 (a.map aW) g m
def Yb(a:List aH)(g:Bool:=ζ):Ob:=.rown 152 21 (a.map aW) g
def YY(a:List cA)(g m:Bool:=ζ):Ob:=.row 198 2 (a.map cQ) g m
def Uo(a:List cA)(g:Bool:=ζ):Ob:=.rown 198 2 (a.map cQ) g
def w232(a:List aA)(g m:Bool:=ζ):Ob:=.row 232 2 (a.map bT) g m
def Jd(a:List ab)(g m:Bool:=ζ):Ob:=.row 249 2 (a.map ah) g m
def RI(a:List aC)(g m:Bool:=ζ):Ob:=.row 251 1 (a.map bQ) g m
def nS(a:ae):Laa:=oM [.t,.n 190,.n 191,.n 192,.n 193] 200 43 (c7 a)
def nI(a:ae):Laa:=oM [.t,.w 190,.w 191,.w 192,.w 193] 200 43 (c7 a)
def eW(a0:List Int)(a1:Int):Int->Option (bN (Int) (Int))
 |v1=>bif ltB v1 (a0.length:Int) then(Option.bind (ix a0 v1) λx2=>bif eqB a1 x2 then(dn (ς v1)) else(ς (.next (WR (v1+1))))) else(dn (ς (-1)))
def jI(a0:List Int)(a1:Int):Option Int:=
 iter (eW a0 a1) FU 0
instance Gu{a0:List Int}{a1:Int}{r:Int}:FC prog (jI a0 a1=ς r) 303 [aL (a0.map eI),aI a1] [.c (.d (.i .i64 r))]:=gG func303 ntmps303 (hl 0 8)
def eV(a0:List Int)(a1:Int):Option Bool:=
 Option.bind (jI a0 a1) λr1=>ς (leB 0 r1)
instance DT{a0:List Int}{a1:Int}{r:Bool}:FC prog (eV a0 a1=ς r) 232 [aL (a0.map eI),aI a1] [.c (.d (.b r))]:=gG func232 ntmps232
def z0(a0:List Int)(a1:List Int):Option Bool:=
 ς (strB (Dq a0) (Dq a1))
instance TH{a0:List Int}{a1:List Int}{r:Bool}:FC prog (z0 a0 a1=ς r) 305 [aL (a0.map eU8),aL (a1.map eU8)] [.c (.d (.b r))]:=gG func305 ntmps305
instance en3:EnT prog 3 Int eI:=⟨⟩
instance en5:EnT prog 5 Int eU8:=⟨⟩
instance en129:EnT prog 129 av aZ:=⟨⟩
instance en140:EnT prog 140 ag aB:=⟨⟩
instance en144:EnT prog 144 an bu:=⟨⟩
instance en147:EnT prog 147 ar cb:=⟨⟩
instance en150:EnT prog 150 aT db:=⟨⟩
instance en152:EnT prog 152 aH aW:=⟨⟩
instance en198:EnT prog 198 cA cQ:=⟨⟩
instance en232:EnT prog 232 aA bT:=⟨⟩
instance en249:EnT prog 249 ab ah:=⟨⟩
instance en251:EnT prog 251 aC bQ:=⟨⟩
instance mk3:ElT prog 3 Int eI (0:Int):=⟨⟩
instance mk144:ElT prog 144 an bu xV:=⟨⟩
instance mk198:ElT prog 198 cA cQ Fl:=⟨⟩
instance mk129:ElT prog 129 av aZ xj:=⟨⟩
instance mk152:ElT prog 152 aH aW iF:=⟨⟩
instance mk249:ElT prog 249 ab ah bg:=⟨⟩
instance mk251:ElT prog 251 aC bQ (⟨[]⟩:aC):=⟨⟩
instance mk232:ElT prog 232 aA bT tx:=⟨⟩
instance mk140:ElT prog 140 ag aB ud:=⟨⟩
instance mk147:ElT prog 147 ar cb Fm:=⟨⟩
instance mk5:ElT prog 5 Int eU8 (0:Int):=⟨⟩
end Go.AM
