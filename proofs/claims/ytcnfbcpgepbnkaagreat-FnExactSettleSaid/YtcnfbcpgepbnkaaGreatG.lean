/- A part. -/
import Derived.Test.YtcnfbcpgepbnkaaGreatT
set_option linter.unusedVariables false
set_option linter.unusedSimpArgs false
open Option renaming some->ς,none->ξ
open Bool renaming true->ζ,false->η
open True renaming intro->θ
namespace Go.AM
open Go.Proofs
open Tryz
attribute [local irreducible] AWN NS AWO AWR AWC DR DZ cO eB iter
set_option maxRecDepth 100000
set_option maxHeartbeats 40000000
def w3(a:List Int)(g m:Bool:=ζ):Ob:=.row 3 1 (a.map eI) g m
def n3(a:List Int)(g:Bool:=ζ):Ob:=.rown 3 1 (a.map eI) g
def w5(a:List Int)(g m:Bool:=ζ):Ob:=.row 5 1 (a.map eU8) g m
def n5(a:List Int)(g:Bool:=ζ):Ob:=.rown 5 1 (a.map eU8) g
def w129(a:List aF)(g m:Bool:=ζ):Ob:=.row 129 14 (a.map bG) g m
def U4(a:List aF)(g:Bool:=ζ):Ob:=.rown 129 14 (a.map bG) g
def w140(a:List ag)(g m:Bool:=ζ):Ob:=.row 140 30 (a.map aM) g m
def U5(a:List ag)(g:Bool:=ζ):Ob:=.rown 140 30 (a.map aM) g
def w144(a:List aj)(g m:Bool:=ζ):Ob:=.row 144 4 (a.map bj) g m
def U6(a:List aj)(g:Bool:=ζ):Ob:=.rown 144 4 (a.map bj) g
def w147(a:List aD)(g m:Bool:=ζ):Ob:=.row 147 11 (a.map cP) g m
def n147(a:List aD)(g:Bool:=ζ):Ob:=.rown 147 11 (a.map cP) g
def Fa(a:List am)(g m:Bool:=ζ):Ob:=.row 150 6 (a.map cQ) g m
def w152(a:List a9)(g m:Bool:=ζ):Ob:=.row 152 21 (a.map bA) g m
def U7(a:List a9)(g:Bool:=ζ):Ob:=.rown 152 21 (a.map bA) g
def w198(a:List cZ)(g m:Bool:=ζ):Ob:=.row 198 2 (a.map de) g m
def Yq(a:List cZ)(g:Bool:=ζ):Ob:=.rown 198 2 (a.map de) g
def w232(a:List ah)(g m:Bool:=ζ):Ob:=.row 232 2 (a.map aO) g m
def M6(a:List ab)(g m:Bool:=ζ):Ob:=.row 249 2 (a.map an) g m
def V4(a:List aP)(g m:Bool:=ζ):Ob:=.row 251 1 (a.map b9) g m
def nS(a:ae):Laa:=oM [.t,.n 190,.n 191,.n 192,.n 193] 200 43 (cX a)
def fZ(a0:List Int)(a1:Int):Int->Option (bJ (Int) (Int))
 |v1=>bif ltB v1 (a0.length:Int) then(Option.bind (ix a0 v1) λx2=>bif eqB a1 x2 then(dn (ς v1)) else(ς (.next (WR (v1+1))))) else(dn (ς (-1)))
def kV(a0:List Int)(a1:Int):Option Int:=
 iter (fZ a0 a1) FU 0
instance Kw{a0:List Int}{a1:Int}{r:Int}:FC prog (kV a0 a1=ς r) 303 [aL (a0.map eI),aI a1] [.c (.d (.i .i64 r))]:=gG func303 ntmps303 (hl 0 8)
def fY(a0:List Int)(a1:Int):Option Bool:=
 Option.bind (kV a0 a1) λr1=>ς (leB 0 r1)
instance Hq{a0:List Int}{a1:Int}{r:Bool}:FC prog (fY a0 a1=ς r) 232 [aL (a0.map eI),aI a1] [.c (.d (.b r))]:=gG func232 ntmps232
def CL(a0:List Int)(a1:List Int):Option Bool:=
 ς (strB (G3 a0) (G3 a1))
instance XO{a0:List Int}{a1:List Int}{r:Bool}:FC prog (CL a0 a1=ς r) 305 [aL (a0.map eU8),aL (a1.map eU8)] [.c (.d (.b r))]:=gG func305 ntmps305
instance en3:EnT prog 3 Int eI:=⟨⟩
instance en5:EnT prog 5 Int eU8:=⟨⟩
instance en129:EnT prog 129 aF bG:=⟨⟩
instance en140:EnT prog 140 ag aM:=⟨⟩
instance en144:EnT prog 144 aj bj:=⟨⟩
instance en147:EnT prog 147 aD cP:=⟨⟩
instance en150:EnT prog 150 am cQ:=⟨⟩
instance en152:EnT prog 152 a9 bA:=⟨⟩
instance en198:EnT prog 198 cZ de:=⟨⟩
instance en232:EnT prog 232 ah aO:=⟨⟩
instance en249:EnT prog 249 ab an:=⟨⟩
instance en251:EnT prog 251 aP b9:=⟨⟩
instance mk3:ElT prog 3 Int eI (0:Int):=⟨⟩
instance mk144:ElT prog 144 aj bj jL:=⟨⟩
instance mk198:ElT prog 198 cZ de Ju:=⟨⟩
instance mk129:ElT prog 129 aF bG Ap:=⟨⟩
instance mk152:ElT prog 152 a9 bA jM:=⟨⟩
instance mk249:ElT prog 249 ab an bE:=⟨⟩
instance mk251:ElT prog 251 aP b9 (⟨[]⟩:aP):=⟨⟩
instance mk232:ElT prog 232 ah aO cS:=⟨⟩
instance mk140:ElT prog 140 ag aM s8:=⟨⟩
instance mk147:ElT prog 147 aD cP gq:=⟨⟩
instance mk5:ElT prog 5 Int eU8 (0:Int):=⟨⟩
end Go.AM
