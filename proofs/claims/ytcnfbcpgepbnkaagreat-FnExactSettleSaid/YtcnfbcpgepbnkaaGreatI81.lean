/- A part. -/
import Derived.Test.YtcnfbcpgepbnkaaGreatI80
set_option linter.unusedVariables false
set_option linter.unusedSimpArgs false
open Option renaming some->ς,none->ξ
open Bool renaming true->ζ,false->η
open True renaming intro->θ
namespace Go.AM
open Go.Proofs
open Tryz
attribute [local irreducible] AWN NS AWO AWR AWC DR DZ cO eB iter
set_option maxRecDepth 100000
set_option maxHeartbeats 4000000
variable{a0:Go.AM.aF}{r:Go.AM.aZ}{a1:Go.AM.aD}
theorem yq(H:i8 a0=ς r):FnU prog 258 [.agg (bG a0)] [.agg (qM [.o,.o,.o] (cU r))]:=by
 refine ee func258 (hN:=ntmps258) (h:=?_)
 refine wI ?_
 refine yQ [0,1,2,3,4,5] (h:=?_)
 refine wkb ?_
 refine aa H λr1 q1 H=>Bb rfl (ca (hF:=Br.h q1)) ?_
 refine wkb ?_
 refine Ed rfl (bsx (bs rfl rfl rfl rfl rfl rfl rfl rfl) rfl) ?_
 refine wkb ?_
 refine aa H λr2 q2 H=>Bb rfl (cu (hF:=dm q2)) ?_
 refine wkb ?_
 refine Ed rfl (spx 100200) ?_
 refine wkb ?_
 refine wI ?_
 cases H
 exact bD
theorem BQ(H:ma a0 a1=ς r):FnU prog 256 [.agg (bG a0),.agg (cP a1)] [.agg (qM [.o,.o,.o] (cU r))]:=by
 refine ee func256 (hN:=ntmps256) (h:=?_)
 refine wI ?_
 refine aa H λr1 q1 H=>nA (ca (hF:=yG.h q1)) ?_
 refine cC H ?_ ?_<;>intro H
 .refine aa H λr2 q2 H=>nA (cu (hF:=dm q2)) ?_
  cases H
  exact bD
 refine aa H λr3 q3 H=>nA (cu (hF:=dm q3)) ?_
 cases H
 exact bD
theorem JI(H:uS a0=ς r):FnU prog 109 [.agg (bG a0)] [.agg (qM [.o,.o,.o] (cU r))]:=by
 refine ee func109 (hN:=ntmps109) (h:=?_)
 refine wI ?_
 refine cC H ?_ ?_<;>intro H
 .refine aa H λr1 q1 H=>nA (cu (hF:=dm q1)) ?_
  cases H
  exact bD
 refine cC H ?_ ?_<;>intro H
 .refine yQ [0,1,2,3,4,5] (h:=?_)
  refine wkb ?_
  refine aa H λr2 q2 H=>Bb rfl (ca (hF:=FJ.h q2)) ?_
  refine wkb ?_
  refine Ed rfl (bsx (bs rfl rfl rfl rfl rfl rfl rfl rfl) rfl) ?_
  refine wkb ?_
  refine aa H λr3 q3 H=>Bb rfl (cu (hF:=dm q3)) ?_
  refine wkb ?_
  refine Ed rfl (spx 100299) ?_
  refine wkb ?_
  refine wI ?_
  cases H
  exact bD
 refine aa H λv4 Hj H=>jR ⟨[(1,tP 0),(2,tP 1),(21,tB v4)],[(0,.var 129 (kM [.f,.f] (ku a0))),(1,.var 181 (kM [.z,.z,.z] (cU iv)))],2⟩ ?_ ?_
 .exact az Hj
 refine cC H ?_ ?_<;>intro H
 .refine yQ [0,1,2,3,4,5] (h:=?_)
  refine wkb ?_
  refine aa H λr5 q5 H=>Bb rfl (ca (hF:=Br.h q5)) ?_
  refine wkb ?_
  refine Ed rfl (bsx (bs rfl rfl rfl rfl rfl rfl rfl rfl) rfl) ?_
  refine wkb ?_
  refine aa H λr6 q6 H=>Bb rfl (cu (hF:=dm q6)) ?_
  refine wkb ?_
  refine Ed rfl (spx 100300) ?_
  refine wkb ?_
  refine wI ?_
  cases H
  exact bD
 refine aa H λr7 q7 H=>nA (cu (hF:=dm q7)) ?_
 cases H
 exact bD
theorem Em(H:oJ a0 a1=ς r):FnU prog 167 [.agg (bG a0),.agg (cP a1)] [.agg (qM [.o,.o,.o] (cU r))]:=by
 refine ee func167 (hN:=ntmps167) (h:=?_)
 refine wI ?_
 refine aa H λr1 q1 H=>nA (ca (hF:=wh.h q1)) ?_
 refine aa H λv2 Hj H=>jR ⟨[(2,tP 0),(3,tP 1),(4,tP 2),(19,tB v2)],[(0,.var 129 (kM [.f,.f] (ku a0))),(1,.var 147 (kM [] (fM a1))),(2,.var 181 (kM [.z,.z,.z] (cU iv)))],3⟩ ?_ ?_
 .exact az Hj
 refine cC H ?_ ?_<;>intro H
 .refine aa H λr3 q3 H=>nA (cu (hF:=dm q3)) ?_
  cases H
  exact bD
 refine cC H ?_ ?_<;>intro H
 .refine cC H ?_ ?_<;>intro H
  .refine aa H λr4 q4 H=>nA (cu (hF:=BQ q4)) ?_
   cases H
   exact bD
  refine aa H λr5 q5 H=>nA (cu (hF:=dm q5)) ?_
  cases H
  exact bD
 refine cC H ?_ ?_<;>intro H
 .refine aa H λv6 Hj H=>jR ⟨[(2,tP 0),(3,tP 1),(4,tP 2),(54,tB v6)],[(0,.var 129 (kM [.f,.f] (ku a0))),(1,.var 147 (kM [] (fM a1))),(2,.var 181 (kM [.z,.z,.z] (cU iv)))],3⟩ ?_ ?_
  .refine gC Hj ?_ ?_<;>intro H
   .refine aa H λr7 q7 H=>nG (ca (hF:=JD.h q7)) ?_
    refine gC H ?_ ?_<;>intro H
    .refine gC H ?_ ?_<;>intro H
     .refine aa H λr8 q8 H=>nG (ca (hF:=m9.h q8)) ?_
      exact ai H
     exact ai H
    exact ai H
   exact ai H
  refine aa H λv12 Hj H=>jA ⟨[(2,tP 0),(4,tP 2)],[(0,.var 129 (kM [.f,.f] (ku v12))),(2,.var 181 (kM [.z,.z,.z] (cU iv)))],3⟩ ?_ ?_
  .exact az Hj
  refine aa H λr13 q13 H=>nA (cu (hF:=dm q13)) ?_
  cases H
  exact bD
 refine cC H ?_ ?_<;>intro H
 .refine aa H λv14 Hj H=>jR ⟨[(2,tP 0),(4,tP 2),(84,tB v14)],[(0,.var 129 (kM [.f,.f] (ku a0))),(2,.var 181 (kM [.z,.z,.z] (cU iv)))],3⟩ ?_ ?_
  .refine gC Hj ?_ ?_<;>intro H
   .refine gC H ?_ ?_<;>intro H
    .refine gC H ?_ ?_<;>intro H
     .refine aa H λr15 q15 H=>nG (ca (hF:=m9.h q15)) ?_
      exact ai H
     exact ai H
    exact ai H
   exact ai H
  refine aa H λv16 Hj H=>jA ⟨[(2,tP 0),(4,tP 2)],[(0,.var 129 (kM [.f,.f] (ku {a0 with bR:=v16}))),(2,.var 181 (kM [.z,.z,.z] (cU iv)))],3⟩ ?_ ?_
  .exact az Hj
  refine aa H λr17 q17 H=>nA (cu (hF:=dm q17)) ?_
  cases H
  exact bD
 refine cC H ?_ ?_<;>intro H
 .refine aa H λv18 Hj H=>jR ⟨[(2,tP 0),(4,tP 2),(95,tB v18)],[(0,.var 129 (kM [.f,.f] (ku a0))),(2,.var 181 (kM [.z,.z,.z] (cU iv)))],3⟩ ?_ ?_
  .exact az Hj
  refine cC H ?_ ?_<;>intro H
  .refine aa H λr19 q19 H=>nA (cu (hF:=yq q19)) ?_
   cases H
   exact bD
  refine cC H ?_ ?_<;>intro H
  .refine aa H λr20 q20 H=>nA (cu (hF:=yq q20)) ?_
   cases H
   exact bD
  refine aa H λr21 q21 H=>nA (cu (hF:=dm q21)) ?_
  cases H
  exact bD
 refine aa H λr22 q22 H=>nA (cu (hF:=dm q22)) ?_
 cases H
 exact bD
theorem FG{a1:am}(H:qh a0 a1=ς r):FnU prog 166 [.agg (bG a0),.agg (cQ a1)] [.agg (qM [.o,.o,.o] (cU r))]:=by
 refine ee func166 (hN:=ntmps166) (h:=?_)
 refine wI ?_
 refine cC H ?_ ?_<;>intro H
 .refine aa H λr1 q1 H=>nA (cu (hF:=dm q1)) ?_
  cases H
  exact bD
 obtain⟨r2,q2,H⟩:=ob H
 rcases hb:r2.2 with _|_
 .have H:=bf hb H
  refine Bn rfl (ca (hF:=JE q2 hb)) ?_
  simp only[hb]
  refine wI ?_
  refine aa H λr6 q6 H=>nA (cu (hF:=dm q6)) ?_
  cases H
  exact bD
 have H:=bt hb H
 refine Bn rfl (ca (hF:=JF q2 hb)) ?_
 simp only[hb]
 refine wI ?_
 refine aa H λr3 q3 H=>nA (ca (hF:=El.h q3)) ?_
 refine yQ [0,1,2,3,4,5,6,7] (h:=?_)
 refine wkb ?_
 refine aa H λr4 q4 H=>Bb rfl (ca (hF:=JH.h q4)) ?_
 refine wkb ?_
 refine Ed rfl (bsx (bs rfl rfl rfl rfl rfl rfl rfl rfl) rfl) ?_
 refine wkb ?_
 refine aa H λr5 q5 H=>Bb rfl (cu (hF:=dm q5)) ?_
 refine wkb ?_
 refine Ed rfl (spx 100194) ?_
 refine wkb ?_
 refine wI ?_
 cases H
 exact bD
theorem Ek{a0:ag}{r:bm}(H:oH a0 a1=ς r):FnU prog 248 [.agg (aM a0),.agg (cP a1)] [.agg (qM [.o,.o,.o,.o] (cV r))]:=by
 refine ee func248 (hN:=ntmps248) (h:=?_)
 refine wI ?_
 refine zI (List.range 18) ?_
 refine aa H λr1 q1 H=>zA (ca (hF:=Ej.h q1)) ?_
 refine aa H λr2 q2 H=>zA (ca (hF:=CT.h q2)) ?_
 refine wA (spx 100176) ?_
 refine wA (spx 100175) ?_
 refine cC H ?_ ?_<;>intro H
 .refine aa H λr3 q3 H=>nA (cu (hF:=dY q3)) ?_
  cases H
  exact bD
 refine aa H λr4 q4 H=>nA (cu (hF:=dY q4)) ?_
 cases H
 exact bD
theorem BN{a0:ag}{r:bm}(H:lZ a0 a1=ς r):FnU prog 249 [.agg (aM a0),.agg (cP a1)] [.agg (qM [.o,.o,.o,.o] (cV r))]:=by
 refine ee func249 (hN:=ntmps249) (h:=?_)
 refine wI ?_
 refine aa H λv1 Hj H=>jR ⟨[(2,tP 0),(3,tP 1),(4,tP 2),(27,tB v1)],[(0,.var 140 (kM [.f,.f,.f] (dh a0))),(1,.var 147 (kM [] (fM a1))),(2,.var 211 (kM [.z,.z,.z,.z] (cV gK)))],3⟩ ?_ ?_
 .refine gC Hj ?_ ?_<;>intro H
  .exact ai H
  refine gC H ?_ ?_<;>intro H
  .exact ai H
  refine aa H λr2 q2 H=>nG (ca (hF:=BP.h q2)) ?_
  exact az H
 refine cC H ?_ ?_<;>intro H
 .refine aa H λr3 q3 H=>nA (cu (hF:=dY q3)) ?_
  cases H
  exact bD
 refine yQ [0,1,2,3,4,5] (h:=?_)
 refine wkb ?_
 refine aa H λr4 q4 H=>Bb rfl (ca (hF:=yv.h q4)) ?_
 refine wkb ?_
 refine Ed rfl (bsx (bs rfl rfl rfl rfl rfl rfl rfl rfl) rfl) ?_
 refine wkb ?_
 refine aa H λr5 q5 H=>Bb rfl (cu (hF:=dY q5)) ?_
 refine wkb ?_
 refine Ed rfl (spx 100178) ?_
 refine wkb ?_
 refine wI ?_
 cases H
 exact bD
theorem y8{a0:ag}{r:bm}(H:jW a0 a1=ς r):FnU prog 250 [.agg (aM a0),.agg (cP a1)] [.agg (qM [.o,.o,.o,.o] (cV r))]:=by
 refine ee func250 (hN:=ntmps250) (h:=?_)
 refine wI ?_
 refine aa H λv1 Hj H=>jR ⟨[(2,tP 0),(3,tP 1),(4,tP 2),(21,tB v1)],[(0,.var 140 (kM [.f,.f,.f] (dh a0))),(1,.var 147 (kM [] (fM a1))),(2,.var 211 (kM [.z,.z,.z,.z] (cV gK)))],3⟩ ?_ ?_
 .refine gC Hj ?_ ?_<;>intro H
  .exact ai H
  refine gC H ?_ ?_<;>intro H
  .exact ai H
  refine aa H λr2 q2 H=>nG (ca (hF:=m9.h q2)) ?_
  exact ai H
 refine cC H ?_ ?_<;>intro H
 .refine aa H λr3 q3 H=>nA (cu (hF:=dY q3)) ?_
  cases H
  exact bD
 refine aa H λv4 Hj H=>jR ⟨[(2,tP 0),(3,tP 1),(4,tP 2),(42,tB v4)],[(0,.var 140 (kM [.f,.f,.f] (dh a0))),(1,.var 147 (kM [] (fM a1))),(2,.var 211 (kM [.z,.z,.z,.z] (cV gK)))],3⟩ ?_ ?_
 .exact az Hj
 refine cC H ?_ ?_<;>intro H
 .refine aa H λr5 q5 H=>nA (cu (hF:=dY q5)) ?_
  cases H
  exact bD
 refine yQ [0,1,2,3,4,5] (h:=?_)
 refine wkb ?_
 refine aa H λr6 q6 H=>Bb rfl (ca (hF:=yv.h q6)) ?_
 refine wkb ?_
 refine Ed rfl (bsx (bs rfl rfl rfl rfl rfl rfl rfl rfl) rfl) ?_
 refine wkb ?_
 refine aa H λr7 q7 H=>Bb rfl (cu (hF:=dY q7)) ?_
 refine wkb ?_
 refine Ed rfl (spx 100180) ?_
 refine wkb ?_
 refine wI ?_
 cases H
 exact bD
theorem CU{a0:ag}{r:bm}(H:m0 a0 a1=ς r):FnU prog 251 [.agg (aM a0),.agg (cP a1)] [.agg (qM [.o,.o,.o,.o] (cV r))]:=by
 refine ee func251 (hN:=ntmps251) (h:=?_)
 refine wI ?_
 refine aa H λv1 Hj H=>jR ⟨[(2,tP 0),(3,tP 1),(4,tP 2),(32,tB v1)],[(0,.var 140 (kM [.f,.f,.f] (dh a0))),(1,.var 147 (kM [] (fM a1))),(2,.var 211 (kM [.z,.z,.z,.z] (cV gK)))],3⟩ ?_ ?_
 .refine gC Hj ?_ ?_<;>intro H
  .exact ai H
  refine gC H ?_ ?_<;>intro H
  .exact ai H
  refine aa H λr2 q2 H=>nG (ca (hF:=m9.h q2)) ?_
  exact az H
 refine cC H ?_ ?_<;>intro H
 .refine aa H λr3 q3 H=>nA (cu (hF:=dY q3)) ?_
  cases H
  exact bD
 refine aa H λv8 Hj H=>jB ⟨[(2,tP 0),(3,tP 1),(4,tP 2),(5,tI v8)],[(0,.var 140 (kM [.f,.f,.f] (dh a0))),(1,.var 147 (kM [] (fM a1))),(2,.var 211 (kM [.z,.z,.z,.z] (cV gK)))],3⟩ ?_ ?_
 .refine iT Hj (λq=>⟨[(2,tP 0),(3,tP 1),(4,tP 2),(5,tI q.1),(37,.v (.c (.d η (.l (a0.aC.ar.map an))))),(38,tI (a0.aC.ar.length:Int)),(39,tI q.2)],[(0,.var 140 (kM [.f,.f,.f] (dh a0))),(1,.var 147 (kM [] (fM a1))),(2,.var 211 (kM [.z,.z,.z,.z] (cV gK)))],3⟩) ?_
  rintro⟨v4,v5⟩ o H
  refine ad ?_
  refine cC H ?_ ?_<;>intro H
  .refine aa H λx9 hx9 H=>nA (xdT (enc:=an) hx9) ?_
   refine aa H λv10 Hj H=>jA ⟨[(2,tP 0),(3,tP 1),(4,tP 2),(5,tI v10),(37,.v (.c (.d η (.l (a0.aC.ar.map an))))),(38,tI (a0.aC.ar.length:Int)),(39,tI v5)],[(0,.var 140 (kM [.f,.f,.f] (dh a0))),(1,.var 147 (kM [] (fM a1))),(2,.var 211 (kM [.z,.z,.z,.z] (cV gK)))],4⟩ ?_ ?_
   .exact az Hj
   exact aN H
  exact aE H
 refine aa H λr11 q11 H=>nA (ca (hF:=FF.h q11)) ?_
 refine aa H λr12 q12 H=>nA (ca (hF:=Bc.h q12)) ?_
 refine aa H λr13 q13 H=>nA (cu (hF:=dY q13)) ?_
 cases H
 exact bD
theorem En{a0:ag}{r:bm}(H:oK a0 a1=ς r):FnU prog 165 [.agg (aM a0),.agg (cP a1)] [.agg (qM [.o,.o,.o,.o] (cV r))]:=by
 refine ee func165 (hN:=ntmps165) (h:=?_)
 refine wI ?_
 refine aa H λr1 q1 H=>nA (ca (hF:=wh.h q1)) ?_
 refine cC H ?_ ?_<;>intro H
 .refine cC H ?_ ?_<;>intro H
  .refine aa H λr2 q2 H=>nA (cu (hF:=Ek q2)) ?_
   cases H
   exact bD
  refine cC H ?_ ?_<;>intro H
  .refine aa H λr3 q3 H=>nA (cu (hF:=BN q3)) ?_
   cases H
   exact bD
  refine cC H ?_ ?_<;>intro H
  .refine aa H λr4 q4 H=>nA (cu (hF:=y8 q4)) ?_
   cases H
   exact bD
  refine cC H ?_ ?_<;>intro H
  .refine aa H λr5 q5 H=>nA (cu (hF:=CU q5)) ?_
   cases H
   exact bD
  refine aa H λr6 q6 H=>nA (cu (hF:=dY q6)) ?_
  cases H
  exact bD
 refine aa H λr7 q7 H=>nA (cu (hF:=dY q7)) ?_
 cases H
 exact bD
end Go.AM
