/- A part. -/
import Derived.Test.YtigcecmbknoijaaGreatDoorI0
import Derived.Test.YtigcecmbknoijaaGreatDoorM0
import Derived.Test.YtigcecmbknoijaaGreatDoorS27
set_option linter.unusedVariables false
set_option linter.unusedSimpArgs false
open Option renaming some->ς,none->ξ
open Bool renaming true->ζ,false->η
open True renaming intro->θ
open Option renaming bind->ZW
namespace Go.AM
open Go.Proofs
open Tryz
attribute [local irreducible] AWN NS AWO AWR AWC DR DZ cM eN iter
set_option maxRecDepth 100000
set_option maxHeartbeats 40000000
def gB(r3:List bV):(ByteArray×Int)->Option (cH (ByteArray×Int) (ByteArray))
 |(v4,v5)=>cond (ltB v5 (r3.length:Int)) (ZW (cond (ltB 0 v5) (cond (eT v4 (⟨#[32]⟩:ByteArray)) (ς (v4++(⟨#[32]⟩:ByteArray))) ξ) (ς v4)) λ(v14:ByteArray)=>ZW (ix r3 v5) λx15=>ZW (fC x15.GP) λr16=>cond (eT v14 r16) (cond (eT (v14++r16) (⟨#[62]⟩:ByteArray)) (ZW (ix r3 v5) λx17=>ZW (fC x17.GO) λr18=>cond (eT ((v14++r16)++(⟨#[62]⟩:ByteArray)) r18) (cond (eT (((v14++r16)++(⟨#[62]⟩:ByteArray))++r18) (⟨#[58]⟩:ByteArray)) (ZW (ix r3 v5) λx19=>ZW (fC x19.dV) λr20=>cond (eT ((((v14++r16)++(⟨#[62]⟩:ByteArray))++r18)++(⟨#[58]⟩:ByteArray)) r20) (ς (.next (((((v14++r16)++(⟨#[62]⟩:ByteArray))++r18)++(⟨#[58]⟩:ByteArray))++r20,WR (v5+1)))) ξ) ξ) ξ) ξ) ξ) (ς (.done v4))
def gD(r23:List Int):(ByteArray×Int)->Option (cH (ByteArray×Int) (ByteArray))
 |(v24,v25)=>cond (ltB v25 (r23.length:Int)) (ZW (ix r23 v25) λx30=>ZW (cond (ltB 0 v25) (cond (eT v24 (⟨#[32]⟩:ByteArray)) (ς (v24++(⟨#[32]⟩:ByteArray))) ξ) (ς v24)) λ(v31:ByteArray)=>ZW (fC x30) λr32=>cond (eT v31 r32) (ς (.next (v31++r32,WR (v25+1)))) ξ) (ς (.done v24))
def zy58(a0:List Int):Option Bool:=
 ZW (QA a0) λr1=>cond r1 (ς ζ) (ZW (zy1 a0) λr2=>ZW (kv a0) λr3=>ZW (iter (gB r3) FU (⟨#[]⟩,0)) λ(v13:ByteArray)=>ZW (cond (eqB (r3.length:Int) 0) (ς ⟨#[45]⟩) (ς v13)) λ(v21:ByteArray)=>ZW (zy57 a0) λr22=>ZW (yR r22) λr23=>ZW (iter (gD r23) FU (⟨#[]⟩,0)) λ(v29:ByteArray)=>ZW (mF r2) λr33=>ZW (fC r2.bN) λr34=>cond (eT r34 (⟨#[43]⟩:ByteArray)) (ZW (kA r2) λr35=>ZW (fC r35) λr36=>cond (eT (r34++(⟨#[43]⟩:ByteArray)) r36) (cond (eT ((r34++(⟨#[43]⟩:ByteArray))++r36) (⟨#[43]⟩:ByteArray)) (ZW (fC r2.fj) λr37=>cond (eT (((r34++(⟨#[43]⟩:ByteArray))++r36)++(⟨#[43]⟩:ByteArray)) r37) (cond (eT ((((r34++(⟨#[43]⟩:ByteArray))++r36)++(⟨#[43]⟩:ByteArray))++r37) (⟨#[61]⟩:ByteArray)) (ZW (fC r2.fL) λr38=>cond (eT (((((r34++(⟨#[43]⟩:ByteArray))++r36)++(⟨#[43]⟩:ByteArray))++r37)++(⟨#[61]⟩:ByteArray)) r38) (ZW (cond (strB r33 ((((((r34++(⟨#[43]⟩:ByteArray))++r36)++(⟨#[43]⟩:ByteArray))++r37)++(⟨#[61]⟩:ByteArray))++r38)) (ZW (kN r3) λr40=>cond (strB r40 v21) (ZW (mH r22) λr41=>ς (strB r41 v29)) (ς η)) (ς η)) λ(v39:Bool)=>ς v39) ξ) ξ) ξ) ξ) ξ) ξ)
instance uP{a0:List Int}{r:Bool}:FC prog (zy58 a0=ς r) 3 [aL (a0.map eU8)] [.c (.d (.b r))]:=⟨λH=>by
 refine fI func3 ntmps3 ?_
 refine aa H λr1 q1 H=>nA (ca (hF:=lbig_c.h q1)) ?_
 refine cC H ?_ ?_<;>intro H
 .exact ao H
 refine aa H λr2 q2 H=>sA (cwv [] [(210,0)] 1 (zy2.h q2)) ?_
 refine aa H λr3 q3 H=>nA (ca (hF:=Gb.h q3)) ?_
 refine aa H λv13 Hj H=>jB ⟨[(0,.v (.c (.d η (.l (a0.map eU8))))),(3,tP 1),(4,.v (.c (.w 2 r3.length))),(5,tS v13)],(oM [.n 0] 1 26 (du r2)++[(2,w32 r3)]),3⟩ ?_ ?_
 .refine iT Hj (λq=>⟨[(0,.v (.c (.d η (.l (a0.map eU8))))),(3,tP 1),(4,.v (.c (.w 2 r3.length))),(5,tS q.1),(6,tI q.2)],(oM [.n 0] 1 26 (du r2)++[(2,w32 r3)]),3⟩) ?_
  rintro⟨v4,v5⟩ o H
  refine ad ?_
  refine cC H ?_ ?_<;>intro H
  .refine aa H λv14 Hj H=>jA ⟨[(0,.v (.c (.d η (.l (a0.map eU8))))),(3,tP 1),(4,.v (.c (.w 2 r3.length))),(5,tS v14),(6,tI v5)],(oM [.n 0] 1 26 (du r2)++[(2,w32 r3)]),3⟩ ?_ ?_
   .refine cC Hj ?_ ?_<;>intro H
    .obtain⟨h,H⟩:=rq H
     refine nA (saT h) ?_
     exact ai H
    exact ai H
   refine dI ?_
   refine aa H λx15 hx15 H=>dA (xwT hx15) ?_
   refine dA (oe (he:=js _ hx15)) ?_
   refine aa H λr16 q16 H=>dA (ca (hF:=Gc.h q16)) ?_
   obtain⟨h,H⟩:=rq H
   refine dA (saT h) ?_
   obtain⟨h,H⟩:=rq H
   refine dA (saT h) ?_
   refine aa H λx17 hx17 H=>dA (xwT hx17) ?_
   refine dA (oe (he:=js _ hx17)) ?_
   refine aa H λr18 q18 H=>dA (ca (hF:=Gc.h q18)) ?_
   obtain⟨h,H⟩:=rq H
   refine dA (saT h) ?_
   obtain⟨h,H⟩:=rq H
   refine dA (saT h) ?_
   refine aa H λx19 hx19 H=>dA (xwT hx19) ?_
   refine dA (oe (he:=js _ hx19)) ?_
   refine aa H λr20 q20 H=>dA (ca (hF:=Gc.h q20)) ?_
   obtain⟨h,H⟩:=rq H
   refine dA (saT h) ?_
   refine wI ?_
   exact aN H
  exact aE H
 refine aa H λv21 Hj H=>jA ⟨[(0,.v (.c (.d η (.l (a0.map eU8))))),(3,tP 1),(4,.v (.c (.w 2 r3.length))),(5,tS v21)],(oM [.n 0] 1 26 (du r2)++[(2,w32 r3)]),3⟩ ?_ ?_
 .exact az Hj
 refine aa H λr22 q22 H=>sA (cwv [] [(210,3),(211,4),(212,5)] 6 (Iy.h q22)) ?_
 refine aa H λr23 q23 H=>nA (ca (hF:=Xf.h q23)) ?_
 refine aa H λv29 Hj H=>jB ⟨[(3,tP 1),(4,.v (.c (.w 2 r3.length))),(5,tS v21),(7,tP 6),(8,tS v29)],(oM [.n 0] 1 26 (du r2)++(oM [.t,.n 3,.t,.n 4,.n 5] 6 43 (bw r22)++[(2,w32 r3)])),8⟩ ?_ ?_
 .refine iT Hj (λq=>⟨[(3,tP 1),(4,.v (.c (.w 2 r3.length))),(5,tS v21),(7,tP 6),(8,tS q.1),(57,.v (.c (.w 7 r23.length))),(58,tI (r23.length:Int)),(59,tI q.2)],(oM [.n 0] 1 26 (du r2)++(oM [.t,.n 3,.t,.n 4,.n 5] 6 43 (bw r22)++[(2,w32 r3),(7,w3 r23)])),8⟩) ?_
  rintro⟨v24,v25⟩ o H
  refine ad ?_
  refine cC H ?_ ?_<;>intro H
  .refine aa H λx30 hx30 H=>nA (xwT hx30) ?_
   refine nA (oe (he:=js _ hx30)) ?_
   refine aa H λv31 Hj H=>jA ⟨[(3,tP 1),(4,.v (.c (.w 2 r3.length))),(5,tS v21),(7,tP 6),(8,tS v31),(10,tI x30),(57,.v (.c (.w 7 r23.length))),(58,tI (r23.length:Int)),(59,tI v25)],(oM [.n 0] 1 26 (du r2)++(oM [.t,.n 3,.t,.n 4,.n 5] 6 43 (bw r22)++[(2,w32 r3),(7,w3 r23)])),8⟩ ?_ ?_
   .refine cC Hj ?_ ?_<;>intro H
    .obtain⟨h,H⟩:=rq H
     refine nA (saT h) ?_
     exact ai H
    exact ai H
   refine aa H λr32 q32 H=>nA (ca (hF:=Gc.h q32)) ?_
   obtain⟨h,H⟩:=rq H
   refine nA (saT h) ?_
   exact aN H
  exact aE H
 refine dI ?_
 refine aa H λr33 q33 H=>dA (ca (hF:=Nm.h q33)) ?_
 refine aa H λr34 q34 H=>dA (ca (hF:=Gc.h q34)) ?_
 obtain⟨h,H⟩:=rq H
 refine dA (saT h) ?_
 refine aa H λr35 q35 H=>dA (ca (hF:=Oi.h q35)) ?_
 refine aa H λr36 q36 H=>dA (ca (hF:=Gc.h q36)) ?_
 obtain⟨h,H⟩:=rq H
 refine dA (saT h) ?_
 obtain⟨h,H⟩:=rq H
 refine dA (saT h) ?_
 refine aa H λr37 q37 H=>dA (ca (hF:=Gc.h q37)) ?_
 obtain⟨h,H⟩:=rq H
 refine dA (saT h) ?_
 obtain⟨h,H⟩:=rq H
 refine dA (saT h) ?_
 refine aa H λr38 q38 H=>dA (ca (hF:=Gc.h q38)) ?_
 obtain⟨h,H⟩:=rq H
 refine dA (saT h) ?_
 refine aa H λv39 Hj H=>yl ⟨[(2,tB v39)],[],8⟩ ?_ ?_
 .have H:=Hj
  refine wI ?_
  refine dC H ?_ ?_<;>intro H
  .refine aa H λr40 q40 H=>dG (ca (hF:=JF.h q40)) ?_
   refine dC H ?_ ?_<;>intro H
   .refine aa H λr41 q41 H=>dG (ca (hF:=Nq.h q41)) ?_
    refine wI ?_
    exact ai H
   refine wI ?_
   exact ai H
  refine wI ?_
  exact ai H
 refine wI ?_
 cases H
 exact dK⟩
def lS(a0:List Int):Option Bool:=
 ZW (QA a0) λr1=>cond r1 (ς ζ) (ZW (zy54 a0) λr2=>ZW (Aw (WR (r2.bB+1)) 4) λr3=>ZW (zy41 a0) λr4=>ZW (jZ a0) λr5=>ZW (lU a0) λr6=>ZW (kr r6) λr7=>ZW (lV a0) λr8=>ZW (cond (eqB (r6.length:Int) 0) (cond (!strB r7 (⟨#[45]⟩:ByteArray)) (ς ζ) (cond (ltB 0 (r6.length:Int)) (cond (!eqB (r7.size:Int) (WR (2*(r6.length:Int)))) (ς ζ) (ZW (gX r8) λr10=>ς (!(booB (strB r10 (⟨#[45]⟩:ByteArray)) (eqB (r8.aV.length:Int) 0))))) (ZW (gX r8) λr11=>ς (!(booB (strB r11 (⟨#[45]⟩:ByteArray)) (eqB (r8.aV.length:Int) 0)))))) (cond (ltB 0 (r6.length:Int)) (cond (!eqB (r7.size:Int) (WR (2*(r6.length:Int)))) (ς ζ) (ZW (gX r8) λr12=>ς (!(booB (strB r12 (⟨#[45]⟩:ByteArray)) (eqB (r8.aV.length:Int) 0))))) (ZW (gX r8) λr13=>ς (!(booB (strB r13 (⟨#[45]⟩:ByteArray)) (eqB (r8.aV.length:Int) 0)))))) λ(v9:Bool)=>cond v9 (ς η) (ZW (iG r2) λr14=>ZW (iG {r2 with bg:=WR (r2.bg+1)}) λr15=>ZW (cond (!strB r14 r15) (cond (eqB r3 r2.bB) (ZW (gY r4) λr17=>ZW (gY {r4 with aZ:=WR (r4.aZ+1)}) λr18=>cond (!strB r17 r18) (ZW (gH r5) λr19=>ZW (gH {r5 with dm:=!r5.dm}) λr20=>ς (!strB r19 r20)) (ς η)) (ZW (iG r2) λr21=>ZW (iG {r2 with bB:=r3}) λr22=>cond (!strB r21 r22) (ZW (gY r4) λr23=>ZW (gY {r4 with aZ:=WR (r4.aZ+1)}) λr24=>cond (!strB r23 r24) (ZW (gH r5) λr25=>ZW (gH {r5 with dm:=!r5.dm}) λr26=>ς (!strB r25 r26)) (ς η)) (ς η))) (ς η)) λ(v16:Bool)=>ς v16))
instance zy59{a0:List Int}{r:Bool}:FC prog (lS a0=ς r) 4 [aL (a0.map eU8)] [.c (.d (.b r))]:=⟨λH=>by
 refine fI func4 ntmps4 ?_
 refine aa H λr1 q1 H=>nA (ca (hF:=lbig_c.h q1)) ?_
 refine cC H ?_ ?_<;>intro H
 .exact ao H
 refine aa H λr2 q2 H=>nA (ca (hF:=zy55.h q2)) ?_
 refine aa H λr3 q3 H=>nA (ca (hF:=sMod_c.h q3)) ?_
 refine aa H λr4 q4 H=>nA (ca (hF:=zy42.h q4)) ?_
 refine aa H λr5 q5 H=>nA (ca (hF:=zy52.h q5)) ?_
 refine aa H λr6 q6 H=>nA (ca (hF:=Ip.h q6)) ?_
 refine aa H λr7 q7 H=>nA (ca (hF:=No.h q7)) ?_
 refine aa H λr8 q8 H=>sA (cwv [] [(210,8),(211,9),(212,10)] 11 (Iv.h q8)) ?_
 refine dI ?_
 refine aa H λv9 Hj H=>yl ⟨[(3,tP 0),(4,tP 1),(5,tP 2),(6,tP 3),(7,tP 4),(8,tP 5),(9,tP 6),(77,tB v9)],[(0,.var 60 (kM [.t,.t] (fy r2))),(1,.var 60 (kM [.t,.t] (fy {r2 with bB:=r3}))),(2,.var 60 (kM [.t,.t] (fy {r2 with bg:=WR (r2.bg+1)}))),(3,.var 76 (kM [.t,.t,.t] (df r4))),(4,.var 76 (kM [.t,.t,.t] (df {r4 with aZ:=WR (r4.aZ+1)}))),(5,.var 85 (kM [.t] (pY r5))),(6,.var 85 (kM [.t] (pY {r5 with dm:=!r5.dm})))],12⟩ ?_ ?_
 .have H:=Hj
  refine wI ?_
  refine dC H ?_ ?_<;>intro H
  .refine dC H ?_ ?_<;>intro H
   .refine wI ?_
    exact ai H
   refine dC H ?_ ?_<;>intro H
   .refine dC H ?_ ?_<;>intro H
    .refine wI ?_
     exact ai H
    refine aa H λr10 q10 H=>dG (ca (hF:=Nn.h q10)) ?_
    refine wI ?_
    exact ai H
   refine aa H λr11 q11 H=>dG (ca (hF:=Nn.h q11)) ?_
   refine wI ?_
   exact ai H
  refine dC H ?_ ?_<;>intro H
  .refine dC H ?_ ?_<;>intro H
   .refine wI ?_
    exact ai H
   refine aa H λr12 q12 H=>dG (ca (hF:=Nn.h q12)) ?_
   refine wI ?_
   exact ai H
  refine aa H λr13 q13 H=>dG (ca (hF:=Nn.h q13)) ?_
  refine wI ?_
  exact ai H
 refine wI ?_
 refine cC H ?_ ?_<;>intro H
 .refine wI ?_
  exact ao H
 refine dI ?_
 refine aa H λr14 q14 H=>dA (ca (hF:=OI.h q14)) ?_
 refine aa H λr15 q15 H=>dA (ca (hF:=OI.h q15)) ?_
 refine aa H λv16 Hj H=>yl ⟨[(2,tB v16)],[],12⟩ ?_ ?_
 .have H:=Hj
  refine wI ?_
  refine dC H ?_ ?_<;>intro H
  .refine dC H ?_ ?_<;>intro H
   .refine aa H λr17 q17 H=>dG (ca (hF:=Np.h q17)) ?_
    refine aa H λr18 q18 H=>dG (ca (hF:=Np.h q18)) ?_
    refine dC H ?_ ?_<;>intro H
    .refine aa H λr19 q19 H=>dG (ca (hF:=Aq.h q19)) ?_
     refine aa H λr20 q20 H=>dG (ca (hF:=Aq.h q20)) ?_
     refine wI ?_
     exact ai H
    refine wI ?_
    exact ai H
   refine aa H λr21 q21 H=>dG (ca (hF:=OI.h q21)) ?_
   refine aa H λr22 q22 H=>dG (ca (hF:=OI.h q22)) ?_
   refine dC H ?_ ?_<;>intro H
   .refine aa H λr23 q23 H=>dG (ca (hF:=Np.h q23)) ?_
    refine aa H λr24 q24 H=>dG (ca (hF:=Np.h q24)) ?_
    refine dC H ?_ ?_<;>intro H
    .refine aa H λr25 q25 H=>dG (ca (hF:=Aq.h q25)) ?_
     refine aa H λr26 q26 H=>dG (ca (hF:=Aq.h q26)) ?_
     refine wI ?_
     exact ai H
    refine wI ?_
    exact ai H
   refine wI ?_
   exact ai H
  refine wI ?_
  exact ai H
 refine wI ?_
 cases H
 exact dK⟩
end Go.AM
