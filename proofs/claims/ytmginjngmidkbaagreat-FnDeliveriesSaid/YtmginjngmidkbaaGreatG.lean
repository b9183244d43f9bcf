/- A part. -/
import Derived.Test.YtmginjngmidkbaaGreatT
set_option linter.unusedVariables false
set_option linter.unusedSimpArgs false
namespace Go.AM
open Go.Proofs
open Tryz
attribute [local irreducible] AWN NS AWO AWR AWC DR ea gL
set_option maxRecDepth 100000
set_option maxHeartbeats 40000000
def w3 (a:List Int) (g m:Bool:=true):Ob:=.row 3 1 (a.map eI) g m
def n3 (a:List Int) (g:Bool:=true):Ob:=.rown 3 1 (a.map eI) g
def w5 (a:List Int) (g m:Bool:=true):Ob:=.row 5 1 (a.map eU8) g m
def n5 (a:List Int) (g:Bool:=true):Ob:=.rown 5 1 (a.map eU8) g
def w43 (a:List aD) (g m:Bool:=true):Ob:=.row 43 11 (a.map c9) g m
def w47 (a:List aA) (g m:Bool:=true):Ob:=.row 47 6 (a.map dH) g m
def w49 (a:List bF) (g m:Bool:=true):Ob:=.row 49 21 (a.map dr) g m
def n49 (a:List bF) (g:Bool:=true):Ob:=.rown 49 21 (a.map dr) g
def w51 (a:List dh) (g m:Bool:=true):Ob:=.row 51 25 (a.map Fk) g m
def w57 (a:List am) (g m:Bool:=true):Ob:=.row 57 4 (a.map cN) g m
def n57 (a:List am) (g:Bool:=true):Ob:=.rown 57 4 (a.map cN) g
def w62 (a:List aP) (g m:Bool:=true):Ob:=.row 62 4 (a.map cQ) g m
def w75 (a:List ah) (g m:Bool:=true):Ob:=.row 75 30 (a.map bU) g m
def n75 (a:List ah) (g:Bool:=true):Ob:=.rown 75 30 (a.map bU) g
def w93 (a:List aJ) (g m:Bool:=true):Ob:=.row 93 14 (a.map cS) g m
def n93 (a:List aJ) (g:Bool:=true):Ob:=.rown 93 14 (a.map cS) g
def w115 (a:List aH) (g m:Bool:=true):Ob:=.row 115 2 (a.map bv) g m
def V9 (a:List bM) (g m:Bool:=true):Ob:=.row 119 1 (a.map da) g m
def NH (a:List ae) (g m:Bool:=true):Ob:=.row 131 2 (a.map an) g m
def w147 (a:List fr) (g m:Bool:=true):Ob:=.row 147 2 (a.map dy) g m
def RB (a:List fr) (g:Bool:=true):Ob:=.rown 147 2 (a.map dy) g
def nS (a:ab):Laa:=oM [.t,.n 190,.n 191,.n 192,.n 193] 200 34 (aU a)
def nI (a:ab):Laa:=oM [.t,.w 190,.w 191,.w 192,.w 193] 200 34 (aU a)
def gB (a0:List Int) (a1:Int):Int->Option (cq (Int) (Int))
 |v1=>bif ltB v1 (a0.length:Int) then(Option.bind (ix a0 v1) λx2=>bif eqB a1 x2 then(dn (some v1)) else(some (.next (WR (v1+1))))) else(dn (some (-1)))
def kD (a0:List Int) (a1:Int):Option Int:=
 iter (gB a0 a1) FU 0
theorem vi {a0:List Int} {a1:Int} {r:Int} (H:kD a0 a1=some r):Fn prog 240 [aL (a0.map eI),aI a1] [.c (.d (.i .i64 r))]:=by
 refine PM func240 (hN:=ntmps240) (h:=?_)
 refine wI ?_
 refine iT H (λq=>⟨[(0,.v (.c (.d false (.l (a0.map eI))))),(1,tI a1),(7,tI (a0.length:Int)),(8,tI q)],[],0⟩) ?_
 rintro v1 o H
 try dsimp only
 refine wI ?_
 refine cC H (λH=>?_) λH=>?_
 .obtain⟨x2,hx2,H⟩:=ob H
  refine nA (xdT (enc:=eI) hx2) ?_
  refine cC H (λH=>?_) λH=>?_
  .obtain⟨r0,Hd,rfl⟩:=dnE H
   refine iq_r (λhq=>?_)
   have H:=Hd.trans (congrArg some hq)
   refine wI ?_
   cases H
   exact dW
  cases H
  refine uQ ?_
  exact wo
 obtain⟨r0,Hd,rfl⟩:=dnE H
 refine Mp (λhq=>?_)
 have H:=Hd.trans (congrArg some hq)
 refine wI ?_
 cases H
 exact dW
def gA (a0:List Int) (a1:Int):Option Bool:=
 Option.bind (kD a0 a1) λr1=>some (leB 0 r1)
theorem sD {a0:List Int} {a1:Int} {r:Bool} (H:gA a0 a1=some r):Fn prog 163 [aL (a0.map eI),aI a1] [.c (.d (.b r))]:=by
 refine PM func163 (hN:=ntmps163) (h:=?_)
 refine wI ?_
 obtain⟨r1,hr1,H⟩:=ob H
 refine nA (ca (hF:=vi hr1)) ?_
 cases H
 exact dW
def BR (a0:List Int) (a1:List Int):Option Bool:=
 some (strB (xP a0) (xP a1))
theorem Gn {a0:List Int} {a1:List Int} {r:Bool} (H:BR a0 a1=some r):Fn prog 242 [aL (a0.map eU8),aL (a1.map eU8)] [.c (.d (.b r))]:=by
 refine PM func242 (hN:=ntmps242) (h:=?_)
 refine wI ?_
 cases H
 exact dW
end Go.AM
