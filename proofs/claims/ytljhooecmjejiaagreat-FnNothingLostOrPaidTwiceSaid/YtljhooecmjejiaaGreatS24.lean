/- A part. -/
import Derived.Test.YtljhooecmjejiaaGreatS22
set_option linter.unusedVariables false
open Option renaming bind→Un
namespace Go.AM
open Go.Proofs
attribute [local irreducible] AWN NS AWO AWR AWC DR cZ eE
set_option maxRecDepth 100000
set_option maxHeartbeats 40000000
def wF (a0:aH) (a1:ab):Option (cX×aH):=
 Un (Ah 1 ((a1.ai.length:Nat):Int)) fun r1=>Un (bZ a0 r1) fun r2=>Un (bZ r2.2 34) fun r3=>bif eqB r3.1 0 then(some ({dv with aP:=5,cr:=r2.1},r3.2)) else(Un (bif eqB r3.1 1 then(some (eqB r3.1 1)) else(some (eqB r3.1 2))) fun(v4:Bool)=>bif v4 then(Un (bZ r3.2 (WR (((a1.dW.aX.length:Nat):Int)+1))) fun r5=>some ((⟨6,r2.1,r5.1,[],mr⟩:cX),r5.2)) else(bif eqB r3.1 3 then(some ({dv with aP:=7,cr:=r2.1},r3.2)) else(Un (bif eqB r3.1 4 then(some (eqB r3.1 4)) else(some (eqB r3.1 5))) fun(v6:Bool)=>bif v6 then(Un (bZ r3.2 4) fun r7=>Un (sY r7.2 r7.1) fun r8=>some ((⟨8,r2.1,0,r8.1,mr⟩:cX),r8.2)) else(bif eqB r3.1 6 then(Un (bZ r3.2 (WR (((a1.dW.aX.length:Nat):Int)+1))) fun r9=>some ({dv with aP:=9,cr:=r9.1},r9.2)) else(Un (bif eqB r3.1 7 then(some (eqB r3.1 7)) else(some (eqB r3.1 8))) fun(v10:Bool)=>bif v10 then(Un (bZ r3.2 (WR (((a1.dW.aX.length:Nat):Int)+1))) fun r11=>some ({dv with aP:=10,cr:=r11.1},r11.2)) else(bif eqB r3.1 9 then(Un (bZ r3.2 2) fun r12=>some ({dv with aP:=11,cr:=r12.1},r12.2)) else(bif eqB r3.1 10 then(Un (bZ r3.2 2) fun r13=>some ({dv with aP:=12,cr:=r13.1},r13.2)) else(Un (bif eqB r3.1 11 then(some (eqB r3.1 11)) else(some (eqB r3.1 12))) fun(v14:Bool)=>bif v14 then(bif ltB 0 ((a1.ai.length:Nat):Int) then(Un (tN r3.2 a1) fun r15=>some ({r15.1 with aN:=[]},r15.2)) else(Un (bif ltB 0 ((a1.aQ.length:Nat):Int) then(Un (gb r3.2 4) fun r21=>some (!r21.1,r21.2)) else(some (false,r3.2))) fun((v16,v20):Bool×aH)=>bif v16 then(Un (Ai ((a1.aQ.length:Nat):Int) 3) fun r22=>Un (bZ v20 r22) fun r23=>Un (bZ r23.2 12) fun r24=>bif eqB r24.1 0 then(some ({dv with aP:=3,cr:=r23.1},r24.2)) else(bif eqB r24.1 1 then(some ({dv with aP:=4,cr:=r23.1},r24.2)) else(some ({dv with aP:=2,cr:=r23.1},r24.2)))) else(some ({dv with aP:=1},v20)))) else(Un (bif ltB 0 ((a1.aQ.length:Nat):Int) then(Un (gb r3.2 4) fun r30=>some (!r30.1,r30.2)) else(some (false,r3.2))) fun((v25,v29):Bool×aH)=>bif v25 then(Un (Ai ((a1.aQ.length:Nat):Int) 3) fun r31=>Un (bZ v29 r31) fun r32=>Un (bZ r32.2 12) fun r33=>bif eqB r33.1 0 then(some ({dv with aP:=3,cr:=r32.1},r33.2)) else(bif eqB r33.1 1 then(some ({dv with aP:=4,cr:=r32.1},r33.2)) else(some ({dv with aP:=2,cr:=r32.1},r33.2)))) else(some ({dv with aP:=1},v29)))))))))))
theorem HL {a0:aH} {a1:ab} {r:cX×aH} (H:wF a0 a1=some r):FnV Tryz.prog 151 [(200,.var 143 (kM [.f] (bI a0)))] [tP 200,.v (.agg (kM [.f,.f,.f,.f,.f] (aO a1)))] [(200,.var 143 (kM [.f] (bI r.2)))] (.v (.agg (kM [.t,.n 210] (eA r.1)))) [(210,n5 r.1.bk.b7.aZ.aN)]:=by
 refine fV Tryz.func151 Tryz.ntmps151 ?_
 obtain⟨r1,q1,H⟩:=ob H
 refine nA (ca (hF:=xo q1)) ?_
 obtain⟨r2,q2,H⟩:=ob H
 refine sA (cw (o:=200) (bL q2)) ?_
 obtain⟨r3,q3,H⟩:=ob H
 refine sA (cw (o:=200) (bL q3)) ?_
 refine cC H ?_ ?_<;>intro H
 ·cases H
  refine bU ((eH (o:=211) (j:=3))) ?_
  refine bU ((c8 (o:=211) (j:=23) 5 1 true)) ?_
  refine bU (wS 212 210) ?_
  refine bU ((wB 210 (([]:List Int).length))) ?_
  exact bV
 ·obtain⟨v4,Hj,H⟩:=ob H
  refine jA ⟨[(0,tP 200),(3,tP 210),(4,tP 211),(5,tI r2.1),(14,tI r3.1),(19,tB v4)],[(200,.var 143 (kM [.f] (bI r3.2))),(210,.var 34 (kM [.f,.f,.f,.f,.f] (aO a1))),(211,.var 80 (kM [.z,.z] (eA dv)))],212⟩ ?_ ?_
  ·have H:=Hj
   refine cC H ?_ ?_<;>intro H
   ·cases H
    exact wo
   ·cases H
    exact wo
  refine cC H ?_ ?_<;>intro H
  ·obtain⟨r5,q5,H⟩:=ob H
   refine sA (cw (o:=200) (bL q5)) ?_
   cases H
   refine bU ((eH (o:=211) (j:=3))) ?_
   refine bU ((c8 (o:=211) (j:=23) 5 1 true)) ?_
   refine bU (wS 212 210) ?_
   refine bU ((wB 210 (([]:List Int).length))) ?_
   exact bV
  ·refine cC H ?_ ?_<;>intro H
   ·cases H
    refine bU ((eH (o:=211) (j:=3))) ?_
    refine bU ((c8 (o:=211) (j:=23) 5 1 true)) ?_
    refine bU (wS 212 210) ?_
    refine bU ((wB 210 (([]:List Int).length))) ?_
    exact bV
   ·obtain⟨v6,Hj,H⟩:=ob H
    refine jA ⟨[(0,tP 200),(3,tP 210),(4,tP 211),(5,tI r2.1),(14,tI r3.1),(35,tB v6)],[(200,.var 143 (kM [.f] (bI r3.2))),(210,.var 34 (kM [.f,.f,.f,.f,.f] (aO a1))),(211,.var 80 (kM [.z,.z] (eA dv)))],212⟩ ?_ ?_
    ·have H:=Hj
     refine cC H ?_ ?_<;>intro H
     ·cases H
      exact wo
     ·cases H
      exact wo
    refine cC H ?_ ?_<;>intro H
    ·obtain⟨r7,q7,H⟩:=ob H
     refine sA (cw (o:=200) (bL q7)) ?_
     obtain⟨r8,q8,H⟩:=ob H
     refine sA (cw (o:=200) (AA q8)) ?_
     cases H
     refine bU ((aT (o:=212))) ?_
     refine bU ((cA (k:=42))) ?_
     refine bU ((cA (k:=43))) ?_
     refine bU ((dr (o:=211))) ?_
     refine bU ((c8 (o:=211) (j:=23) 5 1 true)) ?_
     refine bU (wS 213 210) ?_
     refine bU ((wB 210 (([]:List Int).length))) ?_
     exact bV
    ·refine cC H ?_ ?_<;>intro H
     ·obtain⟨r9,q9,H⟩:=ob H
      refine sA (cw (o:=200) (bL q9)) ?_
      cases H
      refine bU ((eH (o:=211) (j:=3))) ?_
      refine bU ((c8 (o:=211) (j:=23) 5 1 true)) ?_
      refine bU (wS 212 210) ?_
      refine bU ((wB 210 (([]:List Int).length))) ?_
      exact bV
     ·obtain⟨v10,Hj,H⟩:=ob H
      refine jA ⟨[(0,tP 200),(3,tP 210),(4,tP 211),(14,tI r3.1),(54,tB v10)],[(200,.var 143 (kM [.f] (bI r3.2))),(210,.var 34 (kM [.f,.f,.f,.f,.f] (aO a1))),(211,.var 80 (kM [.z,.z] (eA dv)))],212⟩ ?_ ?_
      ·have H:=Hj
       refine cC H ?_ ?_<;>intro H
       ·cases H
        exact wo
       ·cases H
        exact wo
      refine cC H ?_ ?_<;>intro H
      ·obtain⟨r11,q11,H⟩:=ob H
       refine sA (cw (o:=200) (bL q11)) ?_
       cases H
       refine bU ((eH (o:=211) (j:=3))) ?_
       refine bU ((c8 (o:=211) (j:=23) 5 1 true)) ?_
       refine bU (wS 212 210) ?_
       refine bU ((wB 210 (([]:List Int).length))) ?_
       exact bV
      ·refine cC H ?_ ?_<;>intro H
       ·obtain⟨r12,q12,H⟩:=ob H
        refine sA (cw (o:=200) (bL q12)) ?_
        cases H
        refine bU ((eH (o:=211) (j:=3))) ?_
        refine bU ((c8 (o:=211) (j:=23) 5 1 true)) ?_
        refine bU (wS 212 210) ?_
        refine bU ((wB 210 (([]:List Int).length))) ?_
        exact bV
       ·refine cC H ?_ ?_<;>intro H
        ·obtain⟨r13,q13,H⟩:=ob H
         refine sA (cw (o:=200) (bL q13)) ?_
         cases H
         refine bU ((eH (o:=211) (j:=3))) ?_
         refine bU ((c8 (o:=211) (j:=23) 5 1 true)) ?_
         refine bU (wS 212 210) ?_
         refine bU ((wB 210 (([]:List Int).length))) ?_
         exact bV
        ·obtain⟨v14,Hj,H⟩:=ob H
         refine jA ⟨[(0,tP 200),(3,tP 210),(4,tP 211),(75,tB v14)],[(200,.var 143 (kM [.f] (bI r3.2))),(210,.var 34 (kM [.f,.f,.f,.f,.f] (aO a1))),(211,.var 80 (kM [.z,.z] (eA dv)))],212⟩ ?_ ?_
         ·have H:=Hj
          refine cC H ?_ ?_<;>intro H
          ·cases H
           exact wo
          ·cases H
           exact wo
         refine cC H ?_ ?_<;>intro H
         ·refine cC H ?_ ?_<;>intro H
          ·obtain⟨r15,q15,H⟩:=ob H
           refine sA (cwv [(200,200)] [(210,212)] 213 (Gg q15)) ?_
           cases H
           refine bU ((eH (o:=211) (j:=3))) ?_
           refine bU (wS 212 210) ?_
           exact bV
          ·obtain⟨⟨v16,v20⟩,Hj,H⟩:=ob H
           refine jR ⟨[(0,tP 200),(3,tP 210),(4,tP 211),(93,tB v16)],[(200,.var 143 (kM [.f] (bI v20))),(210,.var 34 (kM [.f,.f,.f,.f,.f] (aO a1))),(211,.var 80 (kM [.z,.z] (eA dv)))],212⟩ ?_ ?_
           ·have H:=Hj
            refine gC H ?_ ?_<;>intro H
            ·obtain⟨r21,q21,H⟩:=ob H
             refine sG (cw (o:=200) (f7 q21)) ?_
             cases H
             exact wo
            ·cases H
             exact wo
           refine cC H ?_ ?_<;>intro H
           ·obtain⟨r22,q22,H⟩:=ob H
            refine nA (ca (hF:=xp q22)) ?_
            obtain⟨r23,q23,H⟩:=ob H
            refine sA (cw (o:=200) (bL q23)) ?_
            obtain⟨r24,q24,H⟩:=ob H
            refine sA (cw (o:=200) (bL q24)) ?_
            refine cC H ?_ ?_<;>intro H
            ·cases H
             refine bU ((eH (o:=211) (j:=3))) ?_
             refine bU ((c8 (o:=211) (j:=23) 5 1 true)) ?_
             refine bU (wS 212 210) ?_
             refine bU ((wB 210 (([]:List Int).length))) ?_
             exact bV
            ·refine cC H ?_ ?_<;>intro H
             ·cases H
              refine bU ((eH (o:=211) (j:=3))) ?_
              refine bU ((c8 (o:=211) (j:=23) 5 1 true)) ?_
              refine bU (wS 212 210) ?_
              refine bU ((wB 210 (([]:List Int).length))) ?_
              exact bV
             ·cases H
              refine bU ((eH (o:=211) (j:=3))) ?_
              refine bU ((c8 (o:=211) (j:=23) 5 1 true)) ?_
              refine bU (wS 212 210) ?_
              refine bU ((wB 210 (([]:List Int).length))) ?_
              exact bV
           ·cases H
            refine bU ((eH (o:=211) (j:=3))) ?_
            refine bU ((c8 (o:=211) (j:=23) 5 1 true)) ?_
            refine bU (wS 212 210) ?_
            refine bU ((wB 210 (([]:List Int).length))) ?_
            exact bV
         ·obtain⟨⟨v25,v29⟩,Hj,H⟩:=ob H
          refine jR ⟨[(0,tP 200),(3,tP 210),(4,tP 211),(93,tB v25)],[(200,.var 143 (kM [.f] (bI v29))),(210,.var 34 (kM [.f,.f,.f,.f,.f] (aO a1))),(211,.var 80 (kM [.z,.z] (eA dv)))],212⟩ ?_ ?_
          ·have H:=Hj
           refine gC H ?_ ?_<;>intro H
           ·obtain⟨r30,q30,H⟩:=ob H
            refine sG (cw (o:=200) (f7 q30)) ?_
            cases H
            exact wo
           ·cases H
            exact wo
          refine cC H ?_ ?_<;>intro H
          ·obtain⟨r31,q31,H⟩:=ob H
           refine nA (ca (hF:=xp q31)) ?_
           obtain⟨r32,q32,H⟩:=ob H
           refine sA (cw (o:=200) (bL q32)) ?_
           obtain⟨r33,q33,H⟩:=ob H
           refine sA (cw (o:=200) (bL q33)) ?_
           refine cC H ?_ ?_<;>intro H
           ·cases H
            refine bU ((eH (o:=211) (j:=3))) ?_
            refine bU ((c8 (o:=211) (j:=23) 5 1 true)) ?_
            refine bU (wS 212 210) ?_
            refine bU ((wB 210 (([]:List Int).length))) ?_
            exact bV
           ·refine cC H ?_ ?_<;>intro H
            ·cases H
             refine bU ((eH (o:=211) (j:=3))) ?_
             refine bU ((c8 (o:=211) (j:=23) 5 1 true)) ?_
             refine bU (wS 212 210) ?_
             refine bU ((wB 210 (([]:List Int).length))) ?_
             exact bV
            ·cases H
             refine bU ((eH (o:=211) (j:=3))) ?_
             refine bU ((c8 (o:=211) (j:=23) 5 1 true)) ?_
             refine bU (wS 212 210) ?_
             refine bU ((wB 210 (([]:List Int).length))) ?_
             exact bV
          ·cases H
           refine bU ((eH (o:=211) (j:=3))) ?_
           refine bU ((c8 (o:=211) (j:=23) 5 1 true)) ?_
           refine bU (wS 212 210) ?_
           refine bU ((wB 210 (([]:List Int).length))) ?_
           exact bV
end Go.AM
