/- A part. -/
import Derived.Test.YtcnfbcpgepbnkaaGreatI82
set_option linter.unusedVariables false
set_option linter.unusedSimpArgs false
open Option renaming some->ς,none->ξ
open Bool renaming true->ζ,false->η
open True renaming intro->θ
namespace Go.AM
open Go.Proofs
open Tryz
attribute [local irreducible] AWN NS AWO AWR AWC DR DZ cp ec iter
set_option maxRecDepth 100000
set_option maxHeartbeats 4000000
structure KF where
 f:aH
 A:Option Addr
 n:Nat
 c:Nat
def eK(a:KF):List D:=[.i .i64 a.f.bC,.b a.f.oE,.b a.f.iJ,.i .i64 a.f.bJ,.i .i64 a.f.bS.d9,.i .i64 a.f.bS.bJ,.i .i64 a.f.bS.ak,.i .i64 a.f.bS.aU,.i .i64 a.f.bS.bW,.i .i64 a.f.bS.cy.dT,.i .i64 a.f.bS.cy.fK,.i .i64 a.f.bS.cy.mu,.i .i64 a.f.bS.cy.A2,.i .i64 a.f.bS.cy.fg,.i .i64 a.f.bS.mu,.i .i64 a.f.cY.ak,.i .i64 a.f.cY.aU,.i .i64 a.f.cY.a9.cH,.i .i64 a.f.cY.a9.fj,.k a.A a.n a.c,.i .i64 a.f.cY.a9.mu]
def cKF(a:KF):List C:=[.d η (.i .i64 a.f.bC),.d η (.b a.f.oE),.d η (.b a.f.iJ),.d η (.i .i64 a.f.bJ),.d η (.i .i64 a.f.bS.d9),.d η (.i .i64 a.f.bS.bJ),.d η (.i .i64 a.f.bS.ak),.d η (.i .i64 a.f.bS.aU),.d η (.i .i64 a.f.bS.bW),.d η (.i .i64 a.f.bS.cy.dT),.d η (.i .i64 a.f.bS.cy.fK),.d η (.i .i64 a.f.bS.cy.mu),.d η (.i .i64 a.f.bS.cy.A2),.d η (.i .i64 a.f.bS.cy.fg),.d η (.i .i64 a.f.bS.mu),.d η (.i .i64 a.f.cY.ak),.d η (.i .i64 a.f.cY.aU),.d η (.i .i64 a.f.cY.a9.cH),.d η (.i .i64 a.f.cY.a9.fj),.d η (.k a.A a.n a.c),.d η (.i .i64 a.f.cY.a9.mu)]
def Mu(ks:List KF)(a1:Int):Option (KF×List KF):=
 Option.bind (ix ks a1) λx1=>cond (iG 176 0 (ks.length:Int)) (cond (fD ks 0 a1) (cond (dH 176 (([]:List KF)++(ks.take (a1).toNat)).length) (cond (fD ks (WR (a1+1)) ks.length) (cond (dH 176 ((([]:List KF)++(ks.take (a1).toNat))++(ks.drop (WR (a1+1)).toNat)).length) (ς (x1,((([]:List KF)++(ks.take (a1).toNat))++(ks.drop (WR (a1+1)).toNat)))) ξ) ξ) ξ) ξ) ξ
theorem J9{x1 x2 x3 x4:Option Addr×Nat×Nat}{a0:ae}{ks:List KF}{a1:Int}{r:KF×List KF}(H:Mu ks a1=ς r):
 FnV prog 163 [(193,.row 152 21 (ks.map eK) ζ ζ),(200,.var 43 [.d η (.k x1.1 x1.2.1 x1.2.2),.d η (.k x2.1 x2.2.1 x2.2.2),.d η (.k x3.1 x3.2.1 x3.2.2),.d η (.k x4.1 x4.2.1 x4.2.2),.w 193 ks.length,cI a0.dy,cI a0.kG.sk,cI a0.kG.iK,cI a0.Fr,cI a0.lb])] [tP 200,tI a1]
  [(193,.row 152 21 (r.2.map eK) ζ ζ),(200,.var 43 [.d η (.k x1.1 x1.2.1 x1.2.2),.d η (.k x2.1 x2.2.1 x2.2.2),.d η (.k x3.1 x3.2.1 x3.2.2),.d η (.k x4.1 x4.2.1 x4.2.2),.w 193 r.2.length,cI a0.dy,cI a0.kG.sk,cI a0.kG.iK,cI a0.Fr,cI a0.lb])] (.v (.agg (cKF r.1))) []:=by
 refine fV func163 ntmps163 ?_
 refine aa H λx1 hx1 H=>nA (xwT hx1) ?_
 refine nA (oea (he:=lh _ hx1)) ?_
 obtain⟨h,H⟩:=rq H
 refine nA (mkT (enc:=aW) (za:=iF) h (by rfl)) ?_
 obtain⟨hs13,H⟩:=rq H
 refine nA (W7 (enc:=eK) hs13 (by first|rfl|simp) rfl rfl rfl rfl) ?_
 obtain⟨h,H⟩:=rq H
 refine sA (apT (enc:=eK) (ys:=([]:List KF)) (zs:=ks.take (a1).toNat) h (hs:=Lz (enc:=eK) hs13 rfl)) ?_
 obtain⟨hs14,H⟩:=rq H
 refine nA (W8 (enc:=eK) hs14 (by first|rfl|simp) rfl rfl rfl rfl) ?_
 obtain⟨h,H⟩:=rq H
 refine sA (apT (enc:=eK) (ys:=(([]:List KF)++(ks.take (a1).toNat))) (zs:=ks.drop (WR (a1+1)).toNat) h (hs:=GZ (enc:=eK) hs14 (by first|rfl|simp) rfl)) ?_
 cases H
 refine JE (Fe 193 212) ?_
 exact ea
end Go.AM
