/- A part. -/
import Derived.Test.YtfbpfflnhfcmaaaGreatT
set_option linter.unusedVariables false
set_option linter.unusedSimpArgs false
open Option renaming some->ς,none->ξ
open Bool renaming true->ζ,false->η
open True renaming intro->θ
namespace Go.AM
open Go.Proofs
open Tryz
attribute [local irreducible] AWN NS AWO AWR AWC DR DZ dm gK iter
set_option maxRecDepth 100000
set_option maxHeartbeats 40000000
def w3(a:List Int)(g m:Bool:=ζ):Ob:=.row 3 1 (a.map eI) g m
def n3(a:List Int)(g:Bool:=ζ):Ob:=.rown 3 1 (a.map eI) g
def w5(a:List Int)(g m:Bool:=ζ):Ob:=.row 5 1 (a.map eU8) g m
def n5(a:List Int)(g:Bool:=ζ):Ob:=.rown 5 1 (a.map eU8) g
def w42(a:List aG)(g m:Bool:=ζ):Ob:=.row 42 11 (a.map dE) g m
def n42(a:List aG)(g:Bool:=ζ):Ob:=.rown 42 11 (a.map dE) g
def w46(a:List aF)(g m:Bool:=ζ):Ob:=.row 46 6 (a.map df) g m
def n46(a:List aF)(g:Bool:=ζ):Ob:=.rown 46 6 (a.map df) g
def w48(a:List bg)(g m:Bool:=ζ):Ob:=.row 48 21 (a.map fG) g m
def n48(a:List bg)(g:Bool:=ζ):Ob:=.rown 48 21 (a.map fG) g
def w50(a:List cU)(g m:Bool:=ζ):Ob:=.row 50 25 (a.map Bd) g m
def w67(a:List aA)(g m:Bool:=ζ):Ob:=.row 67 14 (a.map dR) g m
def n67(a:List aA)(g:Bool:=ζ):Ob:=.rown 67 14 (a.map dR) g
def w82(a:List a8)(g m:Bool:=ζ):Ob:=.row 82 4 (a.map eB) g m
def w93(a:List ag)(g m:Bool:=ζ):Ob:=.row 93 30 (a.map cr) g m
def n93(a:List ag)(g:Bool:=ζ):Ob:=.rown 93 30 (a.map cr) g
def Ps(a:List ah)(g m:Bool:=ζ):Ob:=.row 100 2 (a.map bC) g m
def w107(a:List av)(g m:Bool:=ζ):Ob:=.row 107 4 (a.map dw) g m
def QG(a:List av)(g:Bool:=ζ):Ob:=.rown 107 4 (a.map dw) g
def w151(a:List bI)(g m:Bool:=ζ):Ob:=.row 151 1 (a.map eT) g m
def w154(a:List fo)(g m:Bool:=ζ):Ob:=.row 154 2 (a.map gp) g m
def Vj(a:List fo)(g:Bool:=ζ):Ob:=.rown 154 2 (a.map gp) g
def w165(a:List aU)(g m:Bool:=ζ):Ob:=.row 165 2 (a.map ci) g m
def nS(a:ab):Laa:=oM [.t,.n 190,.n 191,.n 192,.n 193] 200 34 (b9 a)
def nI(a:ab):Laa:=oM [.t,.w 190,.w 191,.w 192,.w 193] 200 34 (b9 a)
def hP(a0:List Int)(a1:Int):Int->Option (cj (Int) (Int))
 |v1=>bif ltB v1 (a0.length:Int) then(Option.bind (ix a0 v1) λx2=>bif eqB a1 x2 then(dn (ς v1)) else(ς (.next (WR (v1+1))))) else(dn (ς (-1)))
def lX(a0:List Int)(a1:Int):Option Int:=
 iter (hP a0 a1) FU 0
instance J0{a0:List Int}{a1:Int}{r:Int}:FC prog (lX a0 a1=ς r) 300 [aL (a0.map eI),aI a1] [.c (.d (.i .i64 r))]:=gG func300 ntmps300 (hl 0 8)
def gZ(a0:List Int)(a1:Int):Option Bool:=
 Option.bind (lX a0 a1) λr1=>ς (leB 0 r1)
instance Hf{a0:List Int}{a1:Int}{r:Bool}:FC prog (gZ a0 a1=ς r) 213 [aL (a0.map eI),aI a1] [.c (.d (.b r))]:=gG func213 ntmps213
def De(a0:List Int)(a1:List Int):Option Bool:=
 ς (strB (zH a0) (zH a1))
instance Yt{a0:List Int}{a1:List Int}{r:Bool}:FC prog (De a0 a1=ς r) 267 [aL (a0.map eU8),aL (a1.map eU8)] [.c (.d (.b r))]:=gG func267 ntmps267
def xb(a0:List Int)(a1:List Int):Int->Option (cj (Int) (Bool))
 |v1=>bif ltB v1 (a0.length:Int) then(Option.bind (ix a0 v1) λx2=>Option.bind (ix a1 v1) λx3=>bif !eqB x2 x3 then(dn (ς η)) else(ς (.next (WR (v1+1))))) else(dn (ς ζ))
def qX(a0:List Int)(a1:List Int):Option Bool:=
 bif !eqB (a0.length:Int) (a1.length:Int) then(ς η) else(iter (xb a0 a1) FU 0)
instance JZ{a0:List Int}{a1:List Int}{r:Bool}:FC prog (qX a0 a1=ς r) 323 [aL (a0.map eI),aL (a1.map eI)] [.c (.d (.b r))]:=gG func323 ntmps323 (hl 0 13)
instance en3:EnT prog 3 Int eI:=⟨⟩
instance en5:EnT prog 5 Int eU8:=⟨⟩
instance en42:EnT prog 42 aG dE:=⟨⟩
instance en46:EnT prog 46 aF df:=⟨⟩
instance en48:EnT prog 48 bg fG:=⟨⟩
instance en50:EnT prog 50 cU Bd:=⟨⟩
instance en67:EnT prog 67 aA dR:=⟨⟩
instance en82:EnT prog 82 a8 eB:=⟨⟩
instance en93:EnT prog 93 ag cr:=⟨⟩
instance en100:EnT prog 100 ah bC:=⟨⟩
instance en107:EnT prog 107 av dw:=⟨⟩
instance en151:EnT prog 151 bI eT:=⟨⟩
instance en154:EnT prog 154 fo gp:=⟨⟩
instance en165:EnT prog 165 aU ci:=⟨⟩
instance mk3:ElT prog 3 Int eI (0:Int):=⟨⟩
instance mk107:ElT prog 107 av dw BL:=⟨⟩
instance mk154:ElT prog 154 fo gp RX:=⟨⟩
instance mk67:ElT prog 67 aA dR IV:=⟨⟩
instance mk48:ElT prog 48 bg fG fT:=⟨⟩
instance mk100:ElT prog 100 ah bC b7:=⟨⟩
instance mk151:ElT prog 151 bI eT (⟨[]⟩:bI):=⟨⟩
instance mk165:ElT prog 165 aU ci dQ:=⟨⟩
instance mk93:ElT prog 93 ag cr BM:=⟨⟩
instance mk42:ElT prog 42 aG dE fH:=⟨⟩
instance mk5:ElT prog 5 Int eU8 (0:Int):=⟨⟩
end Go.AM
