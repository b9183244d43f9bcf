/- A part. -/
import Derived.Test.YtcnfbcpgepbnkaaGreatM81
import Derived.Test.YtcnfbcpgepbnkaaGreatI89
set_option linter.unusedVariables false
set_option linter.unusedSimpArgs false
open Option renaming some->ς,none->ξ
open Bool renaming true->ζ,false->η
open True renaming intro->θ
open Option renaming bind->aeP
namespace Go.AM
open Go.Proofs
open Tryz
attribute [local irreducible] AWN NS AWO AWR AWC DR DZ cO eB iter
set_option maxRecDepth 100000
set_option maxHeartbeats 4000000
variable{a1:Int}
theorem FS{a0:List cZ}{r:Int×List cZ}(H:xA a0 a1=ς r):FnV prog 45 [(200,.row 198 2 (a0.map de) (.s 200) ζ)] [.v (.agg [.w 200 a0.length]),tI a1] [(200,.row 198 2 (r.2.map de) (.s 200) ζ)] (tI r.1) []:=by
 refine fV func45 ntmps45 ?_
 refine sA (cvt ζ [(200,200)] [] [(200,200)] [] 211 211 (L5 H)) ?_
 exact eo
def nR(a:ae):Laa:=rT [.w 200,.w 201,.w 202,.w 203,.w 204] (cX a) []
def f7(a0:ae)(a1:Int):Option (Int×ae):=
 aeP (xA a0.fH.bh a1) λ(k1,c)=>aeP (xC a0.aH k1) λ(k2,d)=>aeP (vM a0.aT k2) λ(k3,s)=>aeP (vL a0.bu k3) λ(k4,x)=>aeP (xD a0.aJ k4) λ(k5,f)=>ς (k5,⟨⟨c⟩,d,s,x,f,a0.dK,a0.lA,a0.vU,a0.my⟩)
theorem FT{a0:ae}{r:Int×ae}(H:f7 a0 a1=ς r):FnV prog 12 (nR a0) [.v (.agg (kT [.w 200,.w 201,.w 202,.w 203,.w 204] (cX a0))),tI a1] (nR r.2) (tI r.1) []:=by
 obtain⟨c,d,s,x,f,n1,n2,n3,n4⟩:=a0
 obtain⟨c⟩:=c
 refine fV func12 ntmps12 ?_
 obtain⟨⟨k1,y1⟩,h1,H⟩:=ob H
 refine sA (cvt ζ [(200,200)] [] [(200,200)] [] 211 211 (FS h1)) ?_
 obtain⟨⟨k2,y2⟩,h2,H⟩:=ob H
 refine sA (cvt ζ [(200,201)] [] [(200,201)] [] 211 211 (H6 h2)) ?_
 obtain⟨⟨k3,y3⟩,h3,H⟩:=ob H
 refine sA (cvt ζ [(200,202)] [] [(200,202)] [] 211 211 (FY h3)) ?_
 obtain⟨⟨k4,y4⟩,h4,H⟩:=ob H
 refine sA (cvt ζ [(200,203)] [] [(200,203)] [] 211 211 (FR h4)) ?_
 obtain⟨⟨k5,y5⟩,h5,H⟩:=ob H
 refine sA (cvt ζ [(200,204)] [] [(200,204)] [] 211 211 (H7 h5)) ?_
 cases H
 exact eo
theorem FV{a0:ae}{r:Int×ae}(H:f7 a0 a1=ς r):r.2.fH.bh.length=a0.fH.bh.length/\r.2.aH.length=a0.aH.length/\r.2.aT.length=a0.aT.length/\r.2.bu.length=a0.bu.length/\r.2.aJ.length=a0.aJ.length:=by
 obtain⟨⟨k1,y1⟩,h1,H⟩:=ob H
 obtain⟨⟨k2,y2⟩,h2,H⟩:=ob H
 obtain⟨⟨k3,y3⟩,h3,H⟩:=ob H
 obtain⟨⟨k4,y4⟩,h4,H⟩:=ob H
 obtain⟨⟨k5,y5⟩,h5,H⟩:=ob H
 cases H
 exact⟨JU h1,JU h2,JU h3,JU h4,JU h5⟩
theorem rD{a0 g:ae}{m:Int}(H:f7 a0 a1=ς (m,g)):FnV prog 12 (nR a0) [.v (.agg (kT [.w 200,.w 201,.w 202,.w 203,.w 204] (cX a0))),tI a1] (nR g) (tI m) []:=FT H
theorem rE{a0 g:ae}{m:Int}(H:f7 a0 a1=ς (m,g)):∃c d s x f,g=(⟨⟨c⟩,d,s,x,f,a0.dK,a0.lA,a0.vU,a0.my⟩:ae)/\c.length=a0.fH.bh.length/\d.length=a0.aH.length/\s.length=a0.aT.length/\x.length=a0.bu.length/\f.length=a0.aJ.length:=by
 have hl:=FV H
 obtain⟨⟨k1,y1⟩,h1,H⟩:=ob H
 obtain⟨⟨k2,y2⟩,h2,H⟩:=ob H
 obtain⟨⟨k3,y3⟩,h3,H⟩:=ob H
 obtain⟨⟨k4,y4⟩,h4,H⟩:=ob H
 obtain⟨⟨k5,y5⟩,h5,H⟩:=ob H
 cases H
 exact⟨_,_,_,_,_,rfl,hl⟩
end Go.AM
