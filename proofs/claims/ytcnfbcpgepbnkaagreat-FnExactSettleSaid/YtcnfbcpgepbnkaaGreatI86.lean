/- A part. -/
import Derived.Test.YtcnfbcpgepbnkaaGreatI85
set_option linter.unusedVariables false
set_option linter.unusedSimpArgs false
open Option renaming some->ς,none->ξ
open Bool renaming true->ζ,false->η
open True renaming intro->θ
open List renaming range->f6
namespace Go.AM
open Go.Proofs
open Tryz
attribute [local irreducible] AWN NS AWO AWR AWC DR DZ cO eB iter
set_option maxRecDepth 100000
set_option maxHeartbeats 4000000
theorem sy{a0:List Int}{r:List Int}(H:ev a0=ς r):FnU prog 230 [aL (a0.map eU8)] [.c (.own 5 1 (r.map eU8) r.length)]:=by
 refine ee func230 (hN:=ntmps230) (h:=?_)
 refine wI ?_
 obtain⟨h,H⟩:=rq H
 refine nA (mkT (enc:=eU8) (za:=0) h (by rfl)) ?_
 refine qK rfl (cpT (enc:=eU8) (ys:=(List.replicate ((a0.length:Int)).toNat (0:Int))) (zs:=a0) rfl (λ_=>rfl) (by first|rfl|simp) .d rfl rfl rfl rfl rfl) ?_
 refine aW (wM (enc:=eU8) (o:=0)) ?_
 cases H
 refine jw (mt 0) ?_
 exact bD
theorem Qr{a0:aj}{a1:Int}{a2:Int}{r:aj×Int}(H:CW a0 a1 a2=ς r):FnU prog 366 [.agg (bj a0),aI a1,aI a2] [.agg (qM [.o] (cp r.1)),.c (.d (.i .i64 r.2))]:=by
 refine ee func366 (hN:=ntmps366) (h:=?_)
 refine wI ?_
 refine aa H λr1 q1 H=>nA (ca (hF:=zg.h q1)) ?_
 refine aa H λr2 q2 H=>nA (ca (hF:=uL.h q2)) ?_
 refine aa H λv3 Hj H=>jR ⟨[(1,tI a1),(2,tI a2),(3,tP 0),(6,tP 1),(8,tP 3),(30,tB v3)],(oM [.w 2] 3 144 (cp r1)++[(0,.var 144 (kM [.f] (cp a0))),(1,.var 144 (kM [.z] (cp jL)))]),4⟩ ?_ ?_
 .refine gC Hj ?_ ?_<;>intro H
  .exact ai H
  refine gC H ?_ ?_<;>intro H
  .exact ai H
  refine aa H λr4 q4 H=>nG (ca (hF:=xb.h q4)) ?_
  exact az H
 refine cC H ?_ ?_<;>intro H
 .cases H
  refine jw (mt 2) ?_
  exact bD
 refine aa H λr5 q5 H=>nA (ca (hF:=XW.h q5)) ?_
 refine aa H λr6 q6 H=>nA (ca (hF:=rR.h q6)) ?_
 refine cC H ?_ ?_<;>intro H
 .refine aa H λx7 hx7 H=>nA (xwT hx7) ?_
  refine nA (oe (he:=fK _ hx7)) ?_
  refine aa H λx8 hx8 H=>nA (xwT hx8) ?_
  refine sA (soT (enc:=aO) (a':=(⟨x8.ax,WR (x7.dq+r5)⟩:ah)) hx8) ?_
  cases H
  refine jw (wB 2 ((r1.ak.set (r6).toNat (⟨x8.ax,WR (x7.dq+r5)⟩:ah)).length)) ?_
  refine jw (mt 2) ?_
  exact bD
 refine cC H ?_ ?_<;>intro H
 .cases H
  refine jw (mt 2) ?_
  exact bD
 refine aa H λv12 Hj H=>jB ⟨[(1,tI a1),(6,tP 1),(8,tP 3),(9,tI r5),(11,tI v12)],(oM [.w 2] 3 144 (cp r1)++[(1,.var 144 (kM [.z] (cp jL)))]),4⟩ ?_ ?_
 .refine iT Hj (λq=>⟨[(1,tI a1),(6,tP 1),(8,tP 3),(9,tI r5),(11,tI q)],(oM [.w 2] 3 144 (cp r1)++[(1,.var 144 (kM [.z] (cp jL)))]),4⟩) ?_
  rintro v9 o H
  refine ad ?_
  refine aa H λv13 Hj H=>jR ⟨[(1,tI a1),(6,tP 1),(8,tP 3),(9,tI r5),(11,tI v9),(77,tB v13)],(oM [.w 2] 3 144 (cp r1)++[(1,.var 144 (kM [.z] (cp jL)))]),4⟩ ?_ ?_
  .refine gC Hj ?_ ?_<;>intro H
   .refine aa H λx14 hx14 H=>nG (xwT hx14) ?_
    refine nG (oe (he:=fK _ hx14)) ?_
    exact ai H
   exact ai H
  refine cC H ?_ ?_<;>intro H
  .exact aN H
  exact aE H
 obtain⟨h,H⟩:=rq H
 refine sA (apT (enc:=aO) (ys:=r1.ak) (zs:=[cS]) h) ?_
 refine zI (f6 10) ?_
 obtain⟨hs25,H⟩:=rq H
 refine zA (Ux (enc:=aO) hs25 (by first|rfl|simp) rfl rfl rfl rfl) ?_
 obtain⟨hs26,H⟩:=rq H
 refine zA (Ux (enc:=aO) hs26 (by first|rfl|simp) rfl rfl rfl rfl) ?_
 refine zB dH (tj rfl (cpsT (enc:=aO) (ys:=(r1.ak++[cS])) (zs:=(r1.ak++[cS]).drop (v12).toNat) (hs:=Jf (enc:=aO) hs26 (by first|rfl|simp) rfl) hs25)) dH ?_
 refine aa H λx15 hx15 H=>nA (xwT hx15) ?_
 refine sA (soT (enc:=aO) (a':=(⟨a1,r5⟩:ah)) hx15) ?_
 cases H
 refine jw (wB 2 (((cpD (r1.ak++[cS]) (WR (v12+1)).toNat ((r1.ak++[cS]).drop (v12).toNat)).set (v12).toNat (⟨a1,r5⟩:ah)).length)) ?_
 refine jw (mt 2) ?_
 exact bD
theorem XT{a0:aj}{a1:Int}{a2:Int}{r:aj×Bool}(H:LS a0 a1 a2=ς r):FnU prog 273 [.agg (bj a0),aI a1,aI a2] [.agg (qM [.o] (cp r.1)),.c (.d (.b r.2))]:=by
 refine ee func273 (hN:=ntmps273) (h:=?_)
 refine wI ?_
 refine aa H λr1 q1 H=>nA (ca (hF:=zg.h q1)) ?_
 refine aa H λr2 q2 H=>nA (ca (hF:=uL.h q2)) ?_
 refine aa H λv3 Hj H=>jR ⟨[(1,tI a1),(2,tI a2),(6,tP 1),(8,tP 3),(22,tB v3)],(oM [.w 2] 3 144 (cp r1)++[(1,.var 144 (kM [.z] (cp jL)))]),4⟩ ?_ ?_
 .refine gC Hj ?_ ?_<;>intro H
  .exact ai H
  refine aa H λr4 q4 H=>nG (ca (hF:=HD.h q4)) ?_
  refine aa H λr5 q5 H=>nG (ca (hF:=xb.h q5)) ?_
  exact ai H
 refine cC H ?_ ?_<;>intro H
 .cases H
  refine jw (mt 2) ?_
  exact bD
 refine aa H λr6 q6 H=>nA (ca (hF:=rR.h q6)) ?_
 refine cC H ?_ ?_<;>intro H
 .cases H
  refine jw (mt 2) ?_
  exact bD
 refine aa H λx7 hx7 H=>nA (xwT hx7) ?_
 refine nA (oe (he:=fK _ hx7)) ?_
 refine aa H λx8 hx8 H=>nA (xwT hx8) ?_
 refine sA (soT (enc:=aO) (a':=(⟨x8.ax,WR (x7.dq-a2)⟩:ah)) hx8) ?_
 refine aa H λx9 hx9 H=>nA (xwT hx9) ?_
 refine nA (oe (he:=fK _ hx9)) ?_
 refine aa H λv14 Hj H=>jA ⟨[(6,tP 1),(8,tP 3)],(oM [.w 4] 3 144 (cp v14)++[(1,.var 144 (kM [.z] (cp jL)))]),5⟩ ?_ ?_
 .refine cC Hj ?_ ?_<;>intro H
  .refine aa H λr15 q15 H=>nA (ca (hF:=BR.h q15)) ?_
   cases H
   refine aK (wB 2 ((r1.ak.set (r6).toNat (⟨x8.ax,WR (x7.dq-a2)⟩:ah)).length)) ?_
   exact wo
  cases H
  refine aK (wB 2 ((r1.ak.set (r6).toNat (⟨x8.ax,WR (x7.dq-a2)⟩:ah)).length)) ?_
  refine aK (A8 (nx':=5) rfl) ?_
  refine aK (wS 4 2) ?_
  exact wo
 cases H
 refine jw (mt 4) ?_
 exact bD
theorem FH{a0:aj}{a1:cq}{a2:Int}{r:aj×cq}(H:qi a0 a1 a2=ς r):FnU prog 331 [.agg (bj a0),.agg (jT a1),aI a2] [.agg (qM [.o] (cp r.1)),.agg (qM [] (wZ r.2))]:=by
 refine ee func331 (hN:=ntmps331) (h:=?_)
 refine wI ?_
 refine aa H λr1 q1 H=>nA (ca (hF:=oF.h q1)) ?_
 refine cC H ?_ ?_<;>intro H
 .refine zI (f6 5) ?_
  refine aa H λr2 q2 H=>zA (cu (hF:=gk q2)) ?_
  refine wA (spx 100324) ?_
  refine wA (spx 100323) ?_
  cases H
  exact bD
 refine aa H λr3 q3 H=>nA (cu (hF:=Qr q3)) ?_
 refine cC H ?_ ?_<;>intro H
 .refine zI (f6 5) ?_
  refine aa H λr4 q4 H=>zA (cu (hF:=gk q4)) ?_
  refine wA (spx 100326) ?_
  refine wA (spx 100325) ?_
  cases H
  exact bD
 refine zI (f6 4) ?_
 refine wA (spx 100328) ?_
 refine wA (spx 100327) ?_
 cases H
 exact bD
theorem Hy{a0:aj}{a1:cq}{r:aj×cq}(H:oL a0 a1=ς r):FnU prog 187 [.agg (bj a0),.agg (jT a1)] [.agg (qM [.o] (cp r.1)),.agg (qM [] (wZ r.2))]:=by
 refine ee func187 (hN:=ntmps187) (h:=?_)
 refine wI ?_
 refine aa H λr1 q1 H=>nA (ca (hF:=oF.h q1)) ?_
 refine cC H ?_ ?_<;>intro H
 .refine zI (f6 5) ?_
  refine aa H λr2 q2 H=>zA (cu (hF:=gk q2)) ?_
  refine wA (spx 100308) ?_
  refine wA (spx 100307) ?_
  cases H
  exact bD
 refine aa H λr3 q3 H=>nA (cu (hF:=XT q3)) ?_
 refine cC H ?_ ?_<;>intro H
 .refine zI (f6 5) ?_
  refine aa H λr4 q4 H=>zA (cu (hF:=gk q4)) ?_
  refine wA (spx 100310) ?_
  refine wA (spx 100309) ?_
  cases H
  exact bD
 refine zI (f6 4) ?_
 refine wA (spx 100312) ?_
 refine wA (spx 100311) ?_
 cases H
 exact bD
theorem Hv{a0:ag}{a1:aj}{a2:Int}{r:ag×aj}(H:sm a0 a1 a2=ς r):FnU prog 277 [.agg (aM a0),.agg (bj a1),aI a2] [.agg (qM [.o,.o,.o] (dh r.1)),.agg (qM [.o] (cp r.2))]:=by
 refine ee func277 (hN:=ntmps277) (h:=?_)
 refine wI ?_
 refine aa H λr1 q1 H=>nA (cu (hF:=lI q1)) ?_
 refine aa H λr2 q2 H=>nA (ca (hF:=y6.h q2)) ?_
 refine cC H ?_ ?_<;>intro H
 .refine zI (f6 5) ?_
  refine aa H λr3 q3 H=>zA (cu (hF:=gk q3)) ?_
  refine wA (spx 100336) ?_
  refine wA (spx 100335) ?_
  cases H
  exact bD
 refine zI (f6 16) ?_
 refine aa H λr4 q4 H=>zA (ca (hF:=iMax_c.h q4)) ?_
 refine aa H λr5 q5 H=>zA (cu (hF:=FH q5)) ?_
 refine wA (spx 100340) ?_
 refine wA (spx 100339) ?_
 refine zI (f6 4) ?_
 refine wA (spx 100338) ?_
 refine wA (spx 100337) ?_
 cases H
 exact bD
end Go.AM
