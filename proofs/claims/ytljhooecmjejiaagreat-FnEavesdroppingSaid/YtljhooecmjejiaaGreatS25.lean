/- A part. -/
import Derived.Test.YtljhooecmjejiaaGreatS22
set_option linter.unusedVariables false
open Option renaming bind→Vj
namespace Go.AM
open Go.Proofs
attribute [local irreducible] AWN NS AWO AWR AWC DR cZ ey
set_option maxRecDepth 100000
set_option maxHeartbeats 40000000
def xB (a0:aE) (a1:ab):Option (df×aE):=
 Vj (Bf 1 ((a1.am.length:Nat):Int)) fun r1=>Vj (bS a0 r1) fun r2=>Vj (bS r2.2 34) fun r3=>bif eqB r3.1 0 then(some ({dy with aR:=5,cB:=r2.1},r3.2)) else(Vj (bif eqB r3.1 1 then(some (eqB r3.1 1)) else(some (eqB r3.1 2))) fun(v4:Bool)=>bif v4 then(Vj (bS r3.2 (WR (((a1.dZ.aZ.length:Nat):Int)+1))) fun r5=>some ((⟨6,r2.1,r5.1,[],mG⟩:df),r5.2)) else(bif eqB r3.1 3 then(some ({dy with aR:=7,cB:=r2.1},r3.2)) else(Vj (bif eqB r3.1 4 then(some (eqB r3.1 4)) else(some (eqB r3.1 5))) fun(v6:Bool)=>bif v6 then(Vj (bS r3.2 4) fun r7=>Vj (tL r7.2 r7.1) fun r8=>some ((⟨8,r2.1,0,r8.1,mG⟩:df),r8.2)) else(bif eqB r3.1 6 then(Vj (bS r3.2 (WR (((a1.dZ.aZ.length:Nat):Int)+1))) fun r9=>some ({dy with aR:=9,cB:=r9.1},r9.2)) else(Vj (bif eqB r3.1 7 then(some (eqB r3.1 7)) else(some (eqB r3.1 8))) fun(v10:Bool)=>bif v10 then(Vj (bS r3.2 (WR (((a1.dZ.aZ.length:Nat):Int)+1))) fun r11=>some ({dy with aR:=10,cB:=r11.1},r11.2)) else(bif eqB r3.1 9 then(Vj (bS r3.2 2) fun r12=>some ({dy with aR:=11,cB:=r12.1},r12.2)) else(bif eqB r3.1 10 then(Vj (bS r3.2 2) fun r13=>some ({dy with aR:=12,cB:=r13.1},r13.2)) else(Vj (bif eqB r3.1 11 then(some (eqB r3.1 11)) else(some (eqB r3.1 12))) fun(v14:Bool)=>bif v14 then(bif ltB 0 ((a1.am.length:Nat):Int) then(Vj (ux r3.2 a1) fun r15=>some ({r15.1 with aQ:=[]},r15.2)) else(Vj (bif ltB 0 ((a1.ay.length:Nat):Int) then(Vj (fZ r3.2 4) fun r21=>some (!r21.1,r21.2)) else(some (false,r3.2))) fun((v16,v20):Bool×aE)=>bif v16 then(Vj (Bg ((a1.ay.length:Nat):Int) 3) fun r22=>Vj (bS v20 r22) fun r23=>Vj (bS r23.2 12) fun r24=>bif eqB r24.1 0 then(some ({dy with aR:=3,cB:=r23.1},r24.2)) else(bif eqB r24.1 1 then(some ({dy with aR:=4,cB:=r23.1},r24.2)) else(some ({dy with aR:=2,cB:=r23.1},r24.2)))) else(some ({dy with aR:=1},v20)))) else(Vj (bif ltB 0 ((a1.ay.length:Nat):Int) then(Vj (fZ r3.2 4) fun r30=>some (!r30.1,r30.2)) else(some (false,r3.2))) fun((v25,v29):Bool×aE)=>bif v25 then(Vj (Bg ((a1.ay.length:Nat):Int) 3) fun r31=>Vj (bS v29 r31) fun r32=>Vj (bS r32.2 12) fun r33=>bif eqB r33.1 0 then(some ({dy with aR:=3,cB:=r32.1},r33.2)) else(bif eqB r33.1 1 then(some ({dy with aR:=4,cB:=r32.1},r33.2)) else(some ({dy with aR:=2,cB:=r32.1},r33.2)))) else(some ({dy with aR:=1},v29)))))))))))
theorem IY {a0:aE} {a1:ab} {r:df×aE} (H:xB a0 a1=some r):FnV Tryz.prog 151 [(200,.var 143 (kM [.f] (bg a0)))] [tP 200,.v (.agg (kM [.f,.f,.f,.f,.f] (aH a1)))] [(200,.var 143 (kM [.f] (bg r.2)))] (.v (.agg (kM [.t,.n 210] (eN r.1)))) [(210,n5 r.1.bk.bC.aT.aQ)]:=by
 refine fV Tryz.func151 Tryz.ntmps151 ?_
 obtain⟨r1,q1,H⟩:=ob H
 refine nA (ca (hF:=ym q1)) ?_
 obtain⟨r2,q2,H⟩:=ob H
 refine sA (cw (o:=200) (bz q2)) ?_
 obtain⟨r3,q3,H⟩:=ob H
 refine sA (cw (o:=200) (bz q3)) ?_
 refine cC H ?_ ?_<;>intro H
 ·cases H
  refine bV ((eP (o:=211) (j:=3))) ?_
  refine bV ((c7 (o:=211) (j:=23) 5 1 true)) ?_
  refine bV (wS 212 210) ?_
  refine bV ((wB 210 (([]:List Int).length))) ?_
  exact bU
 ·obtain⟨v4,Hj,H⟩:=ob H
  refine jA ⟨[(0,tP 200),(3,tP 210),(4,tP 211),(5,tI r2.1),(14,tI r3.1),(19,tB v4)],[(200,.var 143 (kM [.f] (bg r3.2))),(210,.var 34 (kM [.f,.f,.f,.f,.f] (aH a1))),(211,.var 80 (kM [.z,.z] (eN dy)))],212⟩ ?_ ?_
  ·have H:=Hj
   refine cC H ?_ ?_<;>intro H
   ·cases H
    exact wo
   ·cases H
    exact wo
  refine cC H ?_ ?_<;>intro H
  ·obtain⟨r5,q5,H⟩:=ob H
   refine sA (cw (o:=200) (bz q5)) ?_
   cases H
   refine bV ((eP (o:=211) (j:=3))) ?_
   refine bV ((c7 (o:=211) (j:=23) 5 1 true)) ?_
   refine bV (wS 212 210) ?_
   refine bV ((wB 210 (([]:List Int).length))) ?_
   exact bU
  ·refine cC H ?_ ?_<;>intro H
   ·cases H
    refine bV ((eP (o:=211) (j:=3))) ?_
    refine bV ((c7 (o:=211) (j:=23) 5 1 true)) ?_
    refine bV (wS 212 210) ?_
    refine bV ((wB 210 (([]:List Int).length))) ?_
    exact bU
   ·obtain⟨v6,Hj,H⟩:=ob H
    refine jA ⟨[(0,tP 200),(3,tP 210),(4,tP 211),(5,tI r2.1),(14,tI r3.1),(35,tB v6)],[(200,.var 143 (kM [.f] (bg r3.2))),(210,.var 34 (kM [.f,.f,.f,.f,.f] (aH a1))),(211,.var 80 (kM [.z,.z] (eN dy)))],212⟩ ?_ ?_
    ·have H:=Hj
     refine cC H ?_ ?_<;>intro H
     ·cases H
      exact wo
     ·cases H
      exact wo
    refine cC H ?_ ?_<;>intro H
    ·obtain⟨r7,q7,H⟩:=ob H
     refine sA (cw (o:=200) (bz q7)) ?_
     obtain⟨r8,q8,H⟩:=ob H
     refine sA (cw (o:=200) (By q8)) ?_
     cases H
     refine bV ((aV (o:=212))) ?_
     refine bV ((cI (k:=42))) ?_
     refine bV ((cI (k:=43))) ?_
     refine bV ((dx (o:=211))) ?_
     refine bV ((c7 (o:=211) (j:=23) 5 1 true)) ?_
     refine bV (wS 213 210) ?_
     refine bV ((wB 210 (([]:List Int).length))) ?_
     exact bU
    ·refine cC H ?_ ?_<;>intro H
     ·obtain⟨r9,q9,H⟩:=ob H
      refine sA (cw (o:=200) (bz q9)) ?_
      cases H
      refine bV ((eP (o:=211) (j:=3))) ?_
      refine bV ((c7 (o:=211) (j:=23) 5 1 true)) ?_
      refine bV (wS 212 210) ?_
      refine bV ((wB 210 (([]:List Int).length))) ?_
      exact bU
     ·obtain⟨v10,Hj,H⟩:=ob H
      refine jA ⟨[(0,tP 200),(3,tP 210),(4,tP 211),(14,tI r3.1),(54,tB v10)],[(200,.var 143 (kM [.f] (bg r3.2))),(210,.var 34 (kM [.f,.f,.f,.f,.f] (aH a1))),(211,.var 80 (kM [.z,.z] (eN dy)))],212⟩ ?_ ?_
      ·have H:=Hj
       refine cC H ?_ ?_<;>intro H
       ·cases H
        exact wo
       ·cases H
        exact wo
      refine cC H ?_ ?_<;>intro H
      ·obtain⟨r11,q11,H⟩:=ob H
       refine sA (cw (o:=200) (bz q11)) ?_
       cases H
       refine bV ((eP (o:=211) (j:=3))) ?_
       refine bV ((c7 (o:=211) (j:=23) 5 1 true)) ?_
       refine bV (wS 212 210) ?_
       refine bV ((wB 210 (([]:List Int).length))) ?_
       exact bU
      ·refine cC H ?_ ?_<;>intro H
       ·obtain⟨r12,q12,H⟩:=ob H
        refine sA (cw (o:=200) (bz q12)) ?_
        cases H
        refine bV ((eP (o:=211) (j:=3))) ?_
        refine bV ((c7 (o:=211) (j:=23) 5 1 true)) ?_
        refine bV (wS 212 210) ?_
        refine bV ((wB 210 (([]:List Int).length))) ?_
        exact bU
       ·refine cC H ?_ ?_<;>intro H
        ·obtain⟨r13,q13,H⟩:=ob H
         refine sA (cw (o:=200) (bz q13)) ?_
         cases H
         refine bV ((eP (o:=211) (j:=3))) ?_
         refine bV ((c7 (o:=211) (j:=23) 5 1 true)) ?_
         refine bV (wS 212 210) ?_
         refine bV ((wB 210 (([]:List Int).length))) ?_
         exact bU
        ·obtain⟨v14,Hj,H⟩:=ob H
         refine jA ⟨[(0,tP 200),(3,tP 210),(4,tP 211),(75,tB v14)],[(200,.var 143 (kM [.f] (bg r3.2))),(210,.var 34 (kM [.f,.f,.f,.f,.f] (aH a1))),(211,.var 80 (kM [.z,.z] (eN dy)))],212⟩ ?_ ?_
         ·have H:=Hj
          refine cC H ?_ ?_<;>intro H
          ·cases H
           exact wo
          ·cases H
           exact wo
         refine cC H ?_ ?_<;>intro H
         ·refine cC H ?_ ?_<;>intro H
          ·obtain⟨r15,q15,H⟩:=ob H
           refine sA (cwv [(200,200)] [(210,212)] 213 (Hu q15)) ?_
           cases H
           refine bV ((eP (o:=211) (j:=3))) ?_
           refine bV (wS 212 210) ?_
           exact bU
          ·obtain⟨⟨v16,v20⟩,Hj,H⟩:=ob H
           refine jR ⟨[(0,tP 200),(3,tP 210),(4,tP 211),(93,tB v16)],[(200,.var 143 (kM [.f] (bg v20))),(210,.var 34 (kM [.f,.f,.f,.f,.f] (aH a1))),(211,.var 80 (kM [.z,.z] (eN dy)))],212⟩ ?_ ?_
           ·have H:=Hj
            refine gC H ?_ ?_<;>intro H
            ·obtain⟨r21,q21,H⟩:=ob H
             refine sG (cw (o:=200) (fK q21)) ?_
             cases H
             exact wo
            ·cases H
             exact wo
           refine cC H ?_ ?_<;>intro H
           ·obtain⟨r22,q22,H⟩:=ob H
            refine nA (ca (hF:=yn q22)) ?_
            obtain⟨r23,q23,H⟩:=ob H
            refine sA (cw (o:=200) (bz q23)) ?_
            obtain⟨r24,q24,H⟩:=ob H
            refine sA (cw (o:=200) (bz q24)) ?_
            refine cC H ?_ ?_<;>intro H
            ·cases H
             refine bV ((eP (o:=211) (j:=3))) ?_
             refine bV ((c7 (o:=211) (j:=23) 5 1 true)) ?_
             refine bV (wS 212 210) ?_
             refine bV ((wB 210 (([]:List Int).length))) ?_
             exact bU
            ·refine cC H ?_ ?_<;>intro H
             ·cases H
              refine bV ((eP (o:=211) (j:=3))) ?_
              refine bV ((c7 (o:=211) (j:=23) 5 1 true)) ?_
              refine bV (wS 212 210) ?_
              refine bV ((wB 210 (([]:List Int).length))) ?_
              exact bU
             ·cases H
              refine bV ((eP (o:=211) (j:=3))) ?_
              refine bV ((c7 (o:=211) (j:=23) 5 1 true)) ?_
              refine bV (wS 212 210) ?_
              refine bV ((wB 210 (([]:List Int).length))) ?_
              exact bU
           ·cases H
            refine bV ((eP (o:=211) (j:=3))) ?_
            refine bV ((c7 (o:=211) (j:=23) 5 1 true)) ?_
            refine bV (wS 212 210) ?_
            refine bV ((wB 210 (([]:List Int).length))) ?_
            exact bU
         ·obtain⟨⟨v25,v29⟩,Hj,H⟩:=ob H
          refine jR ⟨[(0,tP 200),(3,tP 210),(4,tP 211),(93,tB v25)],[(200,.var 143 (kM [.f] (bg v29))),(210,.var 34 (kM [.f,.f,.f,.f,.f] (aH a1))),(211,.var 80 (kM [.z,.z] (eN dy)))],212⟩ ?_ ?_
          ·have H:=Hj
           refine gC H ?_ ?_<;>intro H
           ·obtain⟨r30,q30,H⟩:=ob H
            refine sG (cw (o:=200) (fK q30)) ?_
            cases H
            exact wo
           ·cases H
            exact wo
          refine cC H ?_ ?_<;>intro H
          ·obtain⟨r31,q31,H⟩:=ob H
           refine nA (ca (hF:=yn q31)) ?_
           obtain⟨r32,q32,H⟩:=ob H
           refine sA (cw (o:=200) (bz q32)) ?_
           obtain⟨r33,q33,H⟩:=ob H
           refine sA (cw (o:=200) (bz q33)) ?_
           refine cC H ?_ ?_<;>intro H
           ·cases H
            refine bV ((eP (o:=211) (j:=3))) ?_
            refine bV ((c7 (o:=211) (j:=23) 5 1 true)) ?_
            refine bV (wS 212 210) ?_
            refine bV ((wB 210 (([]:List Int).length))) ?_
            exact bU
           ·refine cC H ?_ ?_<;>intro H
            ·cases H
             refine bV ((eP (o:=211) (j:=3))) ?_
             refine bV ((c7 (o:=211) (j:=23) 5 1 true)) ?_
             refine bV (wS 212 210) ?_
             refine bV ((wB 210 (([]:List Int).length))) ?_
             exact bU
            ·cases H
             refine bV ((eP (o:=211) (j:=3))) ?_
             refine bV ((c7 (o:=211) (j:=23) 5 1 true)) ?_
             refine bV (wS 212 210) ?_
             refine bV ((wB 210 (([]:List Int).length))) ?_
             exact bU
          ·cases H
           refine bV ((eP (o:=211) (j:=3))) ?_
           refine bV ((c7 (o:=211) (j:=23) 5 1 true)) ?_
           refine bV (wS 212 210) ?_
           refine bV ((wB 210 (([]:List Int).length))) ?_
           exact bU
end Go.AM
