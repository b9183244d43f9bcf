/- A part. -/
import Derived.Test.YtcnfbcpgepbnkaaGreatI80
set_option linter.unusedVariables false
set_option linter.unusedSimpArgs false
open Option renaming some->ς,none->ξ
open Bool renaming true->ζ,false->η
open True renaming intro->θ
namespace Go.AM
open Go.Proofs
open Tryz
attribute [local irreducible] AWN NS AWO AWR AWC DR DZ cp ec iter
set_option maxRecDepth 100000
set_option maxHeartbeats 4000000
variable{a0:Go.AM.ag}{r:Go.AM.aP}{a1:Go.AM.ar}
theorem vh{a0:av}{r:aK}(H:fR a0=ς r):FnU prog 258 [.agg (aZ a0)] [.agg (qM [.o,.o,.o] (cd r))]:=by
 refine fB func258 (hN:=ntmps258) (h:=?_)
 refine wI ?_
 refine yJ [0,1,2,3,4,5] (h:=?_)
 refine wkb ?_
 refine aa H λr1 q1 H=>zX rfl (ca (hF:=FE.h q1)) ?_
 refine wkb ?_
 refine DE rfl (bsx (bs rfl rfl rfl rfl rfl rfl rfl rfl) rfl) ?_
 refine wkb ?_
 refine aa H λr2 q2 H=>zX rfl (cu (hF:=dx q2)) ?_
 refine wkb ?_
 refine DE rfl (spx 100200) ?_
 refine wkb ?_
 refine wI ?_
 cases H
 exact cq
theorem yX{a0:av}{r:aK}(H:iv a0 a1=ς r):FnU prog 256 [.agg (aZ a0),.agg (cb a1)] [.agg (qM [.o,.o,.o] (cd r))]:=by
 refine fB func256 (hN:=ntmps256) (h:=?_)
 refine wI ?_
 refine aa H λr1 q1 H=>nA (ca (hF:=vy.h q1)) ?_
 refine cC H ?_ ?_<;>intro H
 .refine aa H λr2 q2 H=>nA (cu (hF:=dx q2)) ?_
  cases H
  exact cq
 refine aa H λr3 q3 H=>nA (cu (hF:=dx q3)) ?_
 cases H
 exact cq
theorem Bj{a0:av}{r:aK}(H:kj a0 a1=ς r):FnU prog 167 [.agg (aZ a0),.agg (cb a1)] [.agg (qM [.o,.o,.o] (cd r))]:=by
 refine fB func167 (hN:=ntmps167) (h:=?_)
 refine wI ?_
 refine aa H λr1 q1 H=>nA (ca (hF:=tM.h q1)) ?_
 refine aa H λv2 Hj H=>jR ⟨[(2,tP 0),(3,tP 1),(4,tP 2),(19,tB v2)],[(0,.var 129 (kM [.f,.f] (gv a0))),(1,.var 147 (kM [] (fH a1))),(2,.var 181 (kM [.z,.z,.z] (cd iC)))],3⟩ ?_ ?_
 .exact az Hj
 refine cC H ?_ ?_<;>intro H
 .refine aa H λr3 q3 H=>nA (cu (hF:=dx q3)) ?_
  cases H
  exact cq
 refine cC H ?_ ?_<;>intro H
 .refine cC H ?_ ?_<;>intro H
  .refine aa H λr4 q4 H=>nA (cu (hF:=yX q4)) ?_
   cases H
   exact cq
  refine aa H λr5 q5 H=>nA (cu (hF:=dx q5)) ?_
  cases H
  exact cq
 refine cC H ?_ ?_<;>intro H
 .refine aa H λv6 Hj H=>jR ⟨[(2,tP 0),(3,tP 1),(4,tP 2),(54,tB v6)],[(0,.var 129 (kM [.f,.f] (gv a0))),(1,.var 147 (kM [] (fH a1))),(2,.var 181 (kM [.z,.z,.z] (cd iC)))],3⟩ ?_ ?_
  .refine gC Hj ?_ ?_<;>intro H
   .refine aa H λr7 q7 H=>nG (ca (hF:=Fz.h q7)) ?_
    refine gC H ?_ ?_<;>intro H
    .refine gC H ?_ ?_<;>intro H
     .refine aa H λr8 q8 H=>nG (ca (hF:=lP.h q8)) ?_
      exact ai H
     exact ai H
    exact ai H
   exact ai H
  refine aa H λv12 Hj H=>jA ⟨[(2,tP 0),(4,tP 2)],[(0,.var 129 (kM [.f,.f] (gv v12))),(2,.var 181 (kM [.z,.z,.z] (cd iC)))],3⟩ ?_ ?_
  .exact az Hj
  refine aa H λr13 q13 H=>nA (cu (hF:=dx q13)) ?_
  cases H
  exact cq
 refine cC H ?_ ?_<;>intro H
 .refine aa H λv14 Hj H=>jR ⟨[(2,tP 0),(4,tP 2),(84,tB v14)],[(0,.var 129 (kM [.f,.f] (gv a0))),(2,.var 181 (kM [.z,.z,.z] (cd iC)))],3⟩ ?_ ?_
  .refine gC Hj ?_ ?_<;>intro H
   .refine gC H ?_ ?_<;>intro H
    .refine gC H ?_ ?_<;>intro H
     .refine aa H λr15 q15 H=>nG (ca (hF:=lP.h q15)) ?_
      exact ai H
     exact ai H
    exact ai H
   exact ai H
  refine aa H λv16 Hj H=>jA ⟨[(2,tP 0),(4,tP 2)],[(0,.var 129 (kM [.f,.f] (gv {a0 with bZ:=v16}))),(2,.var 181 (kM [.z,.z,.z] (cd iC)))],3⟩ ?_ ?_
  .exact az Hj
  refine aa H λr17 q17 H=>nA (cu (hF:=dx q17)) ?_
  cases H
  exact cq
 refine cC H ?_ ?_<;>intro H
 .refine aa H λv18 Hj H=>jR ⟨[(2,tP 0),(4,tP 2),(95,tB v18)],[(0,.var 129 (kM [.f,.f] (gv a0))),(2,.var 181 (kM [.z,.z,.z] (cd iC)))],3⟩ ?_ ?_
  .exact az Hj
  refine cC H ?_ ?_<;>intro H
  .refine aa H λr19 q19 H=>nA (cu (hF:=vh q19)) ?_
   cases H
   exact cq
  refine cC H ?_ ?_<;>intro H
  .refine aa H λr20 q20 H=>nA (cu (hF:=vh q20)) ?_
   cases H
   exact cq
  refine aa H λr21 q21 H=>nA (cu (hF:=dx q21)) ?_
  cases H
  exact cq
 refine aa H λr22 q22 H=>nA (cu (hF:=dx q22)) ?_
 cases H
 exact cq
theorem Cg{a0:av}{a1:aT}{r:aK}(H:lx a0 a1=ς r):FnU prog 166 [.agg (aZ a0),.agg (db a1)] [.agg (qM [.o,.o,.o] (cd r))]:=by
 refine fB func166 (hN:=ntmps166) (h:=?_)
 refine wI ?_
 refine cC H ?_ ?_<;>intro H
 .refine aa H λr1 q1 H=>nA (cu (hF:=dx q1)) ?_
  cases H
  exact cq
 obtain⟨r2,q2,H⟩:=ob H
 rcases hb:r2.2 with _|_
 .have H:=bf hb H
  refine BU rfl (ca (hF:=yt q2 hb)) ?_
  simp only[hb]
  refine wI ?_
  refine aa H λr6 q6 H=>nA (cu (hF:=dx q6)) ?_
  cases H
  exact cq
 have H:=bt hb H
 refine BU rfl (ca (hF:=yu q2 hb)) ?_
 simp only[hb]
 refine wI ?_
 refine aa H λr3 q3 H=>nA (ca (hF:=tO.h q3)) ?_
 refine yJ [0,1,2,3,4,5,6,7] (h:=?_)
 refine wkb ?_
 refine aa H λr4 q4 H=>zX rfl (ca (hF:=yv.h q4)) ?_
 refine wkb ?_
 refine DE rfl (bsx (bs rfl rfl rfl rfl rfl rfl rfl rfl) rfl) ?_
 refine wkb ?_
 refine aa H λr5 q5 H=>zX rfl (cu (hF:=dx q5)) ?_
 refine wkb ?_
 refine DE rfl (spx 100194) ?_
 refine wkb ?_
 refine wI ?_
 cases H
 exact cq
theorem Bi(H:ki a0 a1=ς r):FnU prog 248 [.agg (aB a0),.agg (cb a1)] [.agg (qM [.o,.o,.o,.o] (bP r))]:=by
 refine fB func248 (hN:=ntmps248) (h:=?_)
 refine wI ?_
 refine zI (List.range 18) ?_
 refine aa H λr1 q1 H=>zA (ca (hF:=Bh.h q1)) ?_
 refine aa H λr2 q2 H=>zA (ca (hF:=Ad.h q2)) ?_
 refine wA (spx 100176) ?_
 refine wA (spx 100175) ?_
 refine cC H ?_ ?_<;>intro H
 .refine aa H λr3 q3 H=>nA (cu (hF:=dz q3)) ?_
  cases H
  exact cq
 refine aa H λr4 q4 H=>nA (cu (hF:=dz q4)) ?_
 cases H
 exact cq
theorem yV(H:iu a0 a1=ς r):FnU prog 249 [.agg (aB a0),.agg (cb a1)] [.agg (qM [.o,.o,.o,.o] (bP r))]:=by
 refine fB func249 (hN:=ntmps249) (h:=?_)
 refine wI ?_
 refine aa H λv1 Hj H=>jR ⟨[(2,tP 0),(3,tP 1),(4,tP 2),(27,tB v1)],[(0,.var 140 (kM [.f,.f,.f] (gp a0))),(1,.var 147 (kM [] (fH a1))),(2,.var 211 (kM [.z,.z,.z,.z] (bP fF)))],3⟩ ?_ ?_
 .refine gC Hj ?_ ?_<;>intro H
  .exact ai H
  refine gC H ?_ ?_<;>intro H
  .exact ai H
  refine aa H λr2 q2 H=>nG (ca (hF:=yW.h q2)) ?_
  exact az H
 refine cC H ?_ ?_<;>intro H
 .refine aa H λr3 q3 H=>nA (cu (hF:=dz q3)) ?_
  cases H
  exact cq
 refine yJ [0,1,2,3,4,5] (h:=?_)
 refine wkb ?_
 refine aa H λr4 q4 H=>zX rfl (ca (hF:=vk.h q4)) ?_
 refine wkb ?_
 refine DE rfl (bsx (bs rfl rfl rfl rfl rfl rfl rfl rfl) rfl) ?_
 refine wkb ?_
 refine aa H λr5 q5 H=>zX rfl (cu (hF:=dz q5)) ?_
 refine wkb ?_
 refine DE rfl (spx 100178) ?_
 refine wkb ?_
 refine wI ?_
 cases H
 exact cq
theorem vS(H:f8 a0 a1=ς r):FnU prog 250 [.agg (aB a0),.agg (cb a1)] [.agg (qM [.o,.o,.o,.o] (bP r))]:=by
 refine fB func250 (hN:=ntmps250) (h:=?_)
 refine wI ?_
 refine aa H λv1 Hj H=>jR ⟨[(2,tP 0),(3,tP 1),(4,tP 2),(21,tB v1)],[(0,.var 140 (kM [.f,.f,.f] (gp a0))),(1,.var 147 (kM [] (fH a1))),(2,.var 211 (kM [.z,.z,.z,.z] (bP fF)))],3⟩ ?_ ?_
 .refine gC Hj ?_ ?_<;>intro H
  .exact ai H
  refine gC H ?_ ?_<;>intro H
  .exact ai H
  refine aa H λr2 q2 H=>nG (ca (hF:=lP.h q2)) ?_
  exact ai H
 refine cC H ?_ ?_<;>intro H
 .refine aa H λr3 q3 H=>nA (cu (hF:=dz q3)) ?_
  cases H
  exact cq
 refine aa H λv4 Hj H=>jR ⟨[(2,tP 0),(3,tP 1),(4,tP 2),(42,tB v4)],[(0,.var 140 (kM [.f,.f,.f] (gp a0))),(1,.var 147 (kM [] (fH a1))),(2,.var 211 (kM [.z,.z,.z,.z] (bP fF)))],3⟩ ?_ ?_
 .exact az Hj
 refine cC H ?_ ?_<;>intro H
 .refine aa H λr5 q5 H=>nA (cu (hF:=dz q5)) ?_
  cases H
  exact cq
 refine yJ [0,1,2,3,4,5] (h:=?_)
 refine wkb ?_
 refine aa H λr6 q6 H=>zX rfl (ca (hF:=vk.h q6)) ?_
 refine wkb ?_
 refine DE rfl (bsx (bs rfl rfl rfl rfl rfl rfl rfl rfl) rfl) ?_
 refine wkb ?_
 refine aa H λr7 q7 H=>zX rfl (cu (hF:=dz q7)) ?_
 refine wkb ?_
 refine DE rfl (spx 100180) ?_
 refine wkb ?_
 refine wI ?_
 cases H
 exact cq
theorem Af(H:jl a0 a1=ς r):FnU prog 251 [.agg (aB a0),.agg (cb a1)] [.agg (qM [.o,.o,.o,.o] (bP r))]:=by
 refine fB func251 (hN:=ntmps251) (h:=?_)
 refine wI ?_
 refine aa H λv1 Hj H=>jR ⟨[(2,tP 0),(3,tP 1),(4,tP 2),(32,tB v1)],[(0,.var 140 (kM [.f,.f,.f] (gp a0))),(1,.var 147 (kM [] (fH a1))),(2,.var 211 (kM [.z,.z,.z,.z] (bP fF)))],3⟩ ?_ ?_
 .refine gC Hj ?_ ?_<;>intro H
  .exact ai H
  refine gC H ?_ ?_<;>intro H
  .exact ai H
  refine aa H λr2 q2 H=>nG (ca (hF:=lP.h q2)) ?_
  exact az H
 refine cC H ?_ ?_<;>intro H
 .refine aa H λr3 q3 H=>nA (cu (hF:=dz q3)) ?_
  cases H
  exact cq
 refine aa H λv8 Hj H=>jB ⟨[(2,tP 0),(3,tP 1),(4,tP 2),(5,tI v8)],[(0,.var 140 (kM [.f,.f,.f] (gp a0))),(1,.var 147 (kM [] (fH a1))),(2,.var 211 (kM [.z,.z,.z,.z] (bP fF)))],3⟩ ?_ ?_
 .refine iT Hj (λq=>⟨[(2,tP 0),(3,tP 1),(4,tP 2),(5,tI q.1),(37,.v (.c (.d η (.l (a0.aY.aJ.map ah))))),(38,tI (a0.aY.aJ.length:Int)),(39,tI q.2)],[(0,.var 140 (kM [.f,.f,.f] (gp a0))),(1,.var 147 (kM [] (fH a1))),(2,.var 211 (kM [.z,.z,.z,.z] (bP fF)))],3⟩) ?_
  rintro⟨v4,v5⟩ o H
  refine ad ?_
  refine cC H ?_ ?_<;>intro H
  .refine aa H λx9 hx9 H=>nA (xdT (enc:=ah) hx9) ?_
   refine aa H λv10 Hj H=>jA ⟨[(2,tP 0),(3,tP 1),(4,tP 2),(5,tI v10),(37,.v (.c (.d η (.l (a0.aY.aJ.map ah))))),(38,tI (a0.aY.aJ.length:Int)),(39,tI v5)],[(0,.var 140 (kM [.f,.f,.f] (gp a0))),(1,.var 147 (kM [] (fH a1))),(2,.var 211 (kM [.z,.z,.z,.z] (bP fF)))],4⟩ ?_ ?_
   .exact az Hj
   exact aN H
  exact aE H
 refine aa H λr11 q11 H=>nA (ca (hF:=Cf.h q11)) ?_
 refine aa H λr12 q12 H=>nA (ca (hF:=xX.h q12)) ?_
 refine aa H λr13 q13 H=>nA (cu (hF:=dz q13)) ?_
 cases H
 exact cq
theorem Bk(H:km a0 a1=ς r):FnU prog 165 [.agg (aB a0),.agg (cb a1)] [.agg (qM [.o,.o,.o,.o] (bP r))]:=by
 refine fB func165 (hN:=ntmps165) (h:=?_)
 refine wI ?_
 refine aa H λr1 q1 H=>nA (ca (hF:=tM.h q1)) ?_
 refine cC H ?_ ?_<;>intro H
 .refine cC H ?_ ?_<;>intro H
  .refine aa H λr2 q2 H=>nA (cu (hF:=Bi q2)) ?_
   cases H
   exact cq
  refine cC H ?_ ?_<;>intro H
  .refine aa H λr3 q3 H=>nA (cu (hF:=yV q3)) ?_
   cases H
   exact cq
  refine cC H ?_ ?_<;>intro H
  .refine aa H λr4 q4 H=>nA (cu (hF:=vS q4)) ?_
   cases H
   exact cq
  refine cC H ?_ ?_<;>intro H
  .refine aa H λr5 q5 H=>nA (cu (hF:=Af q5)) ?_
   cases H
   exact cq
  refine aa H λr6 q6 H=>nA (cu (hF:=dz q6)) ?_
  cases H
  exact cq
 refine aa H λr7 q7 H=>nA (cu (hF:=dz q7)) ?_
 cases H
 exact cq
end Go.AM
