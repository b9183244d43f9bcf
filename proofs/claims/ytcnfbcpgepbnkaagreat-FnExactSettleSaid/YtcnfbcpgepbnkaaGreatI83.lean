/- A part. -/
import Derived.Test.YtcnfbcpgepbnkaaGreatI82
set_option linter.unusedVariables false
set_option linter.unusedSimpArgs false
open Option renaming some->ς,none->ξ
open Bool renaming true->ζ,false->η
open True renaming intro->θ
namespace Go.AM
open Go.Proofs
open Tryz
attribute [local irreducible] AWN NS AWO AWR AWC DR DZ cO eB iter
set_option maxRecDepth 100000
set_option maxHeartbeats 4000000
structure KF where
 f:a9
 A:Option Addr
 n:Nat
 c:Nat
def eK(a:KF):List D:=[.i .i64 a.f.bS,.b a.f.pK,.b a.f.jQ,.i .i64 a.f.bC,.i .i64 a.f.cg.eb,.i .i64 a.f.cg.bC,.i .i64 a.f.cg.av,.i .i64 a.f.cg.a8,.i .i64 a.f.cg.cj,.i .i64 a.f.cg.cW.ei,.i .i64 a.f.cg.cW.gL,.i .i64 a.f.cg.cW.nJ,.i .i64 a.f.cg.cW.D0,.i .i64 a.f.cg.cW.f9,.i .i64 a.f.cg.nJ,.i .i64 a.f.cF.av,.i .i64 a.f.cF.a8,.i .i64 a.f.cF.bH.c7,.i .i64 a.f.cF.bH.f8,.k a.A a.n a.c,.i .i64 a.f.cF.bH.nJ]
def cKF(a:KF):List C:=[.d η (.i .i64 a.f.bS),.d η (.b a.f.pK),.d η (.b a.f.jQ),.d η (.i .i64 a.f.bC),.d η (.i .i64 a.f.cg.eb),.d η (.i .i64 a.f.cg.bC),.d η (.i .i64 a.f.cg.av),.d η (.i .i64 a.f.cg.a8),.d η (.i .i64 a.f.cg.cj),.d η (.i .i64 a.f.cg.cW.ei),.d η (.i .i64 a.f.cg.cW.gL),.d η (.i .i64 a.f.cg.cW.nJ),.d η (.i .i64 a.f.cg.cW.D0),.d η (.i .i64 a.f.cg.cW.f9),.d η (.i .i64 a.f.cg.nJ),.d η (.i .i64 a.f.cF.av),.d η (.i .i64 a.f.cF.a8),.d η (.i .i64 a.f.cF.bH.c7),.d η (.i .i64 a.f.cF.bH.f8),.d η (.k a.A a.n a.c),.d η (.i .i64 a.f.cF.bH.nJ)]
def Qy(ks:List KF)(a1:Int):Option (KF×List KF):=
 Option.bind (ix ks a1) λx1=>cond (jh 176 0 (ks.length:Int)) (cond (d6 ks 0 a1) (cond (c8 176 (([]:List KF)++(ks.take (a1).toNat)).length) (cond (d6 ks (WR (a1+1)) ks.length) (cond (c8 176 ((([]:List KF)++(ks.take (a1).toNat))++(ks.drop (WR (a1+1)).toNat)).length) (ς (x1,((([]:List KF)++(ks.take (a1).toNat))++(ks.drop (WR (a1+1)).toNat)))) ξ) ξ) ξ) ξ) ξ
theorem Od{x1 x2 x3 x4:Option Addr×Nat×Nat}{a0:ae}{ks:List KF}{a1:Int}{r:KF×List KF}(H:Qy ks a1=ς r):
 FnV prog 163 [(193,.row 152 21 (ks.map eK) ζ ζ),(200,.var 43 [.d η (.k x1.1 x1.2.1 x1.2.2),.d η (.k x2.1 x2.2.1 x2.2.2),.d η (.k x3.1 x3.2.1 x3.2.2),.d η (.k x4.1 x4.2.1 x4.2.2),.w 193 ks.length,cI a0.dK,cI a0.lA.uy,cI a0.lA.jS,cI a0.vU,cI a0.my])] [tP 200,tI a1]
  [(193,.row 152 21 (r.2.map eK) ζ ζ),(200,.var 43 [.d η (.k x1.1 x1.2.1 x1.2.2),.d η (.k x2.1 x2.2.1 x2.2.2),.d η (.k x3.1 x3.2.1 x3.2.2),.d η (.k x4.1 x4.2.1 x4.2.2),.w 193 r.2.length,cI a0.dK,cI a0.lA.uy,cI a0.lA.jS,cI a0.vU,cI a0.my])] (.v (.agg (cKF r.1))) []:=by
 refine fV func163 ntmps163 ?_
 refine aa H λx1 hx1 H=>nA (xwT hx1) ?_
 refine nA (oea (he:=fK _ hx1)) ?_
 obtain⟨h,H⟩:=rq H
 refine nA (mkT (enc:=bA) (za:=jM) h (by rfl)) ?_
 obtain⟨hs13,H⟩:=rq H
 refine nA (cwhT (enc:=eK) hs13 (by first|rfl|simp) rfl rfl rfl rfl) ?_
 obtain⟨h,H⟩:=rq H
 refine sA (apT (enc:=eK) (ys:=([]:List KF)) (zs:=ks.take (a1).toNat) h (hs:=PF (enc:=eK) hs13 rfl)) ?_
 obtain⟨hs14,H⟩:=rq H
 refine nA (Ux (enc:=eK) hs14 (by first|rfl|simp) rfl rfl rfl rfl) ?_
 obtain⟨h,H⟩:=rq H
 refine sA (apT (enc:=eK) (ys:=(([]:List KF)++(ks.take (a1).toNat))) (zs:=ks.drop (WR (a1+1)).toNat) h (hs:=Jf (enc:=eK) hs14 (by first|rfl|simp) rfl)) ?_
 cases H
 refine Kh (Jo 193 212) ?_
 exact eo
end Go.AM
