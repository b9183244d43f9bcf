/- A part. -/
import Derived.Test.YtcnfbcpgepbnkaaGreatM81
import Derived.Test.YtcnfbcpgepbnkaaGreatI85
set_option linter.unusedVariables false
set_option linter.unusedSimpArgs false
open Option renaming some->ς,none->ξ
open Bool renaming true->ζ,false->η
open True renaming intro->θ
open Option renaming bind->abX
namespace Go.AM
open Go.Proofs
open Tryz
attribute [local irreducible] AWN NS AWO AWR AWC DR DZ cp ec iter
set_option maxRecDepth 100000
set_option maxHeartbeats 4000000
variable{a1:Int}
theorem Cm{a0:List cA}{r:Int×List cA}(H:uJ a0 a1=ς r):FnV prog 45 [(200,.row 198 2 (a0.map cQ) (.s 200) ζ)] [.v (.agg [.w 200 a0.length]),tI a1] [(200,.row 198 2 (r.2.map cQ) (.s 200) ζ)] (tI r.1) []:=by
 refine fV func45 ntmps45 ?_
 refine sA (cvt ζ [(200,200)] [] [(200,200)] [] 211 211 (H7 H)) ?_
 exact ea
def nR(a:ae):Laa:=rT [.w 200,.w 201,.w 202,.w 203,.w 204] (c7 a) []
def gS(a0:ae)(a1:Int):Option (Int×ae):=
 abX (uJ a0.gr.bD a1) λ(k1,c)=>abX (uL a0.aO k1) λ(k2,d)=>abX (tj a0.a8 k2) λ(k3,s)=>abX (ti a0.bU k3) λ(k4,x)=>abX (uM a0.ax k4) λ(k5,f)=>ς (k5,⟨⟨c⟩,d,s,x,f,a0.dy,a0.kG,a0.Fr,a0.lb⟩)
theorem Cn{a0:ae}{r:Int×ae}(H:gS a0 a1=ς r):FnV prog 12 (nR a0) [.v (.agg (kT [.w 200,.w 201,.w 202,.w 203,.w 204] (c7 a0))),tI a1] (nR r.2) (tI r.1) []:=by
 obtain⟨c,d,s,x,f,n1,n2,n3,n4⟩:=a0
 obtain⟨c⟩:=c
 refine fV func12 ntmps12 ?_
 obtain⟨⟨k1,y1⟩,h1,H⟩:=ob H
 refine sA (cvt ζ [(200,200)] [] [(200,200)] [] 211 211 (Cm h1)) ?_
 obtain⟨⟨k2,y2⟩,h2,H⟩:=ob H
 refine sA (cvt ζ [(200,201)] [] [(200,201)] [] 211 211 (Ej h2)) ?_
 obtain⟨⟨k3,y3⟩,h3,H⟩:=ob H
 refine sA (cvt ζ [(200,202)] [] [(200,202)] [] 211 211 (Ct h3)) ?_
 obtain⟨⟨k4,y4⟩,h4,H⟩:=ob H
 refine sA (cvt ζ [(200,203)] [] [(200,203)] [] 211 211 (Cl h4)) ?_
 obtain⟨⟨k5,y5⟩,h5,H⟩:=ob H
 refine sA (cvt ζ [(200,204)] [] [(200,204)] [] 211 211 (Ek h5)) ?_
 cases H
 exact ea
theorem Cp{a0:ae}{r:Int×ae}(H:gS a0 a1=ς r):r.2.gr.bD.length=a0.gr.bD.length/\r.2.aO.length=a0.aO.length/\r.2.a8.length=a0.a8.length/\r.2.bU.length=a0.bU.length/\r.2.ax.length=a0.ax.length:=by
 obtain⟨⟨k1,y1⟩,h1,H⟩:=ob H
 obtain⟨⟨k2,y2⟩,h2,H⟩:=ob H
 obtain⟨⟨k3,y3⟩,h3,H⟩:=ob H
 obtain⟨⟨k4,y4⟩,h4,H⟩:=ob H
 obtain⟨⟨k5,y5⟩,h5,H⟩:=ob H
 cases H
 exact⟨FM h1,FM h2,FM h3,FM h4,FM h5⟩
theorem Co{a0 g:ae}{m:Int}(H:gS a0 a1=ς (m,g)):FnV prog 12 (nR a0) [.v (.agg (kT [.w 200,.w 201,.w 202,.w 203,.w 204] (c7 a0))),tI a1] (nR g) (tI m) []:=Cn H
theorem Cq{a0 g:ae}{m:Int}(H:gS a0 a1=ς (m,g)):∃c d s x f,g=(⟨⟨c⟩,d,s,x,f,a0.dy,a0.kG,a0.Fr,a0.lb⟩:ae)/\c.length=a0.gr.bD.length/\d.length=a0.aO.length/\s.length=a0.a8.length/\x.length=a0.bU.length/\f.length=a0.ax.length:=by
 have hl:=Cp H
 obtain⟨⟨k1,y1⟩,h1,H⟩:=ob H
 obtain⟨⟨k2,y2⟩,h2,H⟩:=ob H
 obtain⟨⟨k3,y3⟩,h3,H⟩:=ob H
 obtain⟨⟨k4,y4⟩,h4,H⟩:=ob H
 obtain⟨⟨k5,y5⟩,h5,H⟩:=ob H
 cases H
 exact⟨_,_,_,_,_,rfl,hl⟩
end Go.AM
