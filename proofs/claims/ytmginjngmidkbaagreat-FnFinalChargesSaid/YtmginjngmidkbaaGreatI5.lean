/- A part. -/
import Derived.Test.YtmginjngmidkbaaGreatI4
set_option linter.unusedVariables false
open Option renaming bind->abU
namespace Go.AM
open Go.Proofs
open Tryz
attribute [local irreducible] AWN NS AWO AWR AWC DR DZ dS gp iter
set_option maxRecDepth 100000
set_option maxHeartbeats 40000000
variable {a0 r a1:Int}
def iM (a0:ab):Int->Option (ct (Int) (Bool))
 |v7=>bif ltB v7 (a0.aT.length:Int) then(abU (ix a0.aT v7) λx8=>abU (cf x8.bm 0 (WR ((a0.av.length:Int)-1))) λr9=>abU (bif !r9 then(some true) else(abU (lr a0.ei x8.bg) λr11=>some (!r11))) λ(v10:Bool)=>bif v10 then(dn (some false)) else(some (.next (WR (v7+1))))) else(dn (bif leB 0 (a0.ei.a8.length:Int) then(abU (cf a0.dy 0 (WR ((md .i64 1 (a0.ei.a8.length:Int))-1))) λr12=>abU (bif r12 then(abU (cf a0.qO 0 100000) λr14=>bif r14 then(some (leB 0 a0.ki)) else(some false)) else(some false)) λ(v13:Bool)=>some v13) else none))
def iL (a0:ab):Int->Option (ct (Int) (Bool))
 |v5=>bif ltB v5 (a0.av.length:Int) then(abU (kt a0 v5) λr6=>bif !r6 then(dn (some false)) else(some (.next (WR (v5+1))))) else(dn (bif ltB 200 (a0.aT.length:Int) then(some false) else(iter (iM a0) FU 0)))
def kC (a0:ab):Option Bool:=
 abU (tQ a0.ei) λr1=>abU (bif !r1 then(some true) else(abU (kn a0.ev) λr3=>bif !r3 then(some true) else(some (eqB a0.ev.fB 0)))) λ(v2:Bool)=>bif v2 then(some false) else(abU (bif ltB 4 (a0.av.length:Int) then(some true) else(bif !eqB (a0.aF.length:Int) (a0.av.length:Int) then(some true) else(some (!eqB (a0.bk.length:Int) (a0.av.length:Int))))) λ(v4:Bool)=>bif v4 then(some false) else(iter (iL a0) FU 0))
instance Ba {a0:ab} {r:Bool}:FC prog (kC a0=some r) 15 [.agg (gv a0)] [.c (.d (.b r))]:=gF func15 ntmps15 (hb 10 21) (hb 26 43) (hl 0 47) (hl 2 62) (hb 74 81) (hb 92 2)
def rE (a0:ab):Option ab:=
 abU (Bh a0.ei) λr1=>abU (fR a0.av) λr2=>abU (fE a0.aF) λr3=>abU (fD a0.bk) λr4=>abU (fT a0.aT) λr5=>some (⟨r1,r2,r3,r4,r5,a0.dy,a0.ev,a0.qO,a0.ki⟩:ab)
instance E9 {a0:ab} {r:ab}:FC prog (rE a0=some r) 35 [.agg (gv a0)] [.agg (qM [.o,.o,.o,.o,.o] (bw r))]:=⟨λH=>by
 refine fI func35 ntmps35 ?_
 refine aa H λr1 q1 H=>nA (ca (hF:=NC.h q1)) ?_
 refine aa H λr2 q2 H=>sA (cwv [] [(210,3)] 4 (mG q2)) ?_
 refine aa H λr3 q3 H=>sA (cwv [] [(210,4)] 5 (lN q3)) ?_
 refine aa H λr4 q4 H=>sA (cwv [] [(210,5)] 6 (lM q4)) ?_
 refine aa H λr5 q5 H=>sA (cwv [] [(210,6)] 7 (mH q5)) ?_
 cases H
 exact bX⟩
def lI (a0:Int) (a1:Int) (a2:Int):Option cE:=
 abU (cf a2 0 999999) λr1=>bif !r1 then(some cr) else(abU (mR a0 a1) λr2=>abU (fc a0 [2,a1,a2]) λr3=>abU (fc a0 [3,a1]) λr4=>abU (fc a0 [4,a1,a2]) λr5=>abU (bif eqB r5 0 then(some 1) else(some r5)) λ(v6:Int)=>some (⟨a1,Int.tmod (WR (a2+r2)) 1000000,r3,r4,v6⟩:cE))
instance Ch {a2:Int} {r:cE}:FC prog (lI a0 a1 a2=some r) 337 [aI a0,aI a1,aI a2] [.agg (qM [] (eT r))]:=⟨λH=>by
 refine fI func337 ntmps337 ?_
 refine aa H λr1 q1 H=>nA (ca (hF:=iK.h q1)) ?_
 refine cC H ?_ ?_<;>intro H
 .exact ao H
 refine aa H λr2 q2 H=>nA (ca (hF:=Dq.h q2)) ?_
 refine nA (ir rfl rfl rfl (by decide)) ?_
 refine aa H λr3 q3 H=>nA (ca (hF:=ko.h q3)) ?_
 refine aa H λr4 q4 H=>nA (ca (hF:=ko.h q4)) ?_
 refine aa H λr5 q5 H=>nA (ca (hF:=ko.h q5)) ?_
 refine aa H λv6 Hj H=>jA ⟨[(6,tP 0),(7,tP 4)],[(0,.var 41 (kM [] (eT cr))),(4,.var 41 (kM [] (eT (⟨a1,Int.tmod (WR (a2+r2)) 1000000,r3,r4,v6⟩:cE))))],5⟩ ?_ ?_
 .exact az Hj
 cases H
 exact bX⟩
def qT (a0:aO) (a1:Int):Option (aO×cE):=
 abU (fK a0) λr1=>abU (bif !r1 then(some true) else(some (eqB a0.c8 999999))) λ(v2:Bool)=>bif v2 then(some (a0,cr)) else(abU (lI a0.fo a1 (WR (a0.c8+1))) λr3=>some ({a0 with c8:=WR (a0.c8+1)},r3))
instance Pf {a0:aO} {r:aO×cE}:FC prog (qT a0 a1=some r) 297 [.agg (dO a0),aI a1] [.agg (qM [] (sL r.1)),.agg (qM [] (eT r.2))]:=gF func297 ntmps297 (hb 9 13) (hz 4)
def oB (a0:ah) (a1:aH):Option bI:=
 abU (ot a0.bE.ID (WR (a0.bE.c8+1))) λr1=>abU (qT a0.bE r1) λr2=>bif(eqB r2.1.ID.dZ a0.bE.ID.dZ&&(eqB r2.1.ID.bW a0.bE.ID.bW&&(eqB r2.1.fo a0.bE.fo&&(eqB r2.1.c8 a0.bE.c8&&true)))) then(abU (dL a0 []) λr3=>some r3) else(abU (dL {a0 with bE:=r2.1,aK:=r2.2,bL:=r2.1.c8} [(⟨2,a1.bg,r2.1.c8,0,0,r2.2,0⟩:aH)]) λr4=>some r4)
instance Q6 {a0:ah} {a1:aH} {r:bI}:FC prog (oB a0 a1=some r) 224 [.agg (bZ a0),.agg (cZ a1)] [.agg (qM [.o,.o,.o,.o] (eh r))]:=gF func224 ntmps224 (hz 1)
def kF (a1:List Int):(Int×Int)->Option (ct (Int×Int) (Int))
 |(v1,v2)=>bif ltB v2 (a1.length:Int) then(abU (ix a1 v2) λx6=>abU (pJ v1 x6) λr7=>some (.next (r7,WR (v2+1)))) else(some (.done v1))
def wj (a0:Int) (a1:List Int):Option Int:=
 abU (iter (kF a1) FU (a0,0)) λ(v5:Int)=>some v5
instance Up {a1:List Int} :FC prog (wj a0 a1=some r) 296 [aI a0,aL (a1.map eI)] [.c (.d (.i .i64 r))]:=gF func296 ntmps296 (hm 0 0 9) (he 0 0 9)
def qr (a0:Int) (a1:fJ):Option Int:=
 abU (wj a0 a1.Steps) λr1=>some r1
instance Wx {a1:fJ} :FC prog (qr a0 a1=some r) 219 [aI a0,.agg (HE a1)] [.c (.d (.i .i64 r))]:=gF func219 ntmps219
def sR (a0:Int) (a1:aH):Option Int:=
 abU (oF) λr1=>abU (qr a0 r1) λr2=>abU (fc r2 [23,a1.bh,a1.bg,a1.ag,a1.aX,a1.bW]) λr3=>some r3
instance Xt {a1:aH} :FC prog (sR a0 a1=some r) 199 [aI a0,.agg (cZ a1)] [.c (.d (.i .i64 r))]:=gF func199 ntmps199
def jV (a1:Int) (a2:List aH):(Int×ab)->Option (ct (Int×ab) (ab))
 |(v1,v12)=>bif ltB v1 (a2.length:Int) then(abU (ix a2 v1) λx26=>abU (qy v12 {fL with bm:=a1,bg:=x26.bg,bA:=x26}) λr27=>some (.next (WR (v1+1),r27))) else(some (.done v12))
def kV (a0:ab) (a1:Int) (a2:List aH):Option ab:=
 abU (iter (jV a1 a2) FU (0,a0)) λ(v25:ab)=>some v25
theorem xf {a0:ab} {a2:List aH} {r:ab} (H:kV a0 a1 a2=some r):FnV prog 145 (nI a0) [tP 200,tI a1,.v (.c (.d true (.l (a2.map cZ))))] (nI r) (.tup []) []:=by
 refine fV func145 ntmps145 ?_
 refine aa H λv25 Hj H=>jB ⟨[],(nI v25),210⟩ ?_ ?_
 .refine iT Hj (λq=>⟨[(0,tP 200),(1,tI a1),(8,.v (.c (.d true (.l (a2.map cZ))))),(9,tI (a2.length:Int)),(10,tI q.1)],(nI q.2),210⟩) ?_
  rintro⟨v1,v12⟩ o H
  refine ad ?_
  refine cC H ?_ ?_<;>intro H
  .refine aa H λx26 hx26 H=>nA (xdT (enc:=cZ) hx26) ?_
   refine aa H λr27 q27 H=>sA (cwu m0 [] 211 (Jv q27)) ?_
   exact aN H
  exact aE H
 cases H
 exact mO
def kJ (a1:Int) (a2:aY):(Int×ab)->Option (ct (Int×ab) (ab))
 |(v2,v13)=>bif ltB v2 (a2.dE.length:Int) then(abU (ix a2.dE v2) λx27=>abU (qy v13 (⟨a1,true,false,x27.bg,x27,eF⟩:bS)) λr28=>some (.next (WR (v2+1),r28))) else(some (.done v13))
def gM (a0:ab) (a1:Int) (a2:aY):Option ab:=
 abU (ix a0.av a1) λx1=>abU (iter (kJ a1 a2) FU (0,{a0 with av:=(a0.av.set (a1).toNat a2.bm)})) λ(v26:ab)=>some v26
theorem sV {a0:ab} {a2:aY} {r:ab} (H:gM a0 a1 a2=some r):FnV prog 146 (nI a0) [tP 200,tI a1,.v (.agg (kM [.t,.t,.t] (cd a2)))] (nI r) (.tup []) []:=by
 refine fV func146 ntmps146 ?_
 refine zI (List.range 9) ?_
 refine aa H λx1 hx1 H=>zA (xwT hx1) ?_
 refine zB bK (fQ rfl (soT (enc:=c9) (a':=a2.bm) hx1)) bK ?_
 refine aa H λv26 Hj H=>jB ⟨[],(nI v26),210⟩ ?_ ?_
 .refine iT Hj (λq=>⟨[(0,tP 200),(1,tI a1),(17,.v (.c (.d true (.l (a2.dE.map cZ))))),(18,tI (a2.dE.length:Int)),(19,tI q.1)],(nI q.2),210⟩) ?_ (by refine an (wB 190 ((a0.av.set (a1).toNat a2.bm).length)) ?_;exact wo)
  rintro⟨v2,v13⟩ o H
  refine ad ?_
  refine cC H ?_ ?_<;>intro H
  .refine aa H λx27 hx27 H=>nA (xdT (enc:=cZ) hx27) ?_
   refine aa H λr28 q28 H=>sA (cwu m0 [] 211 (Jv q28)) ?_
   exact aN H
  exact aE H
 cases H
 exact mO
def sa (a0:Int) (a1:Int):Option Int:=
 abU (uQ a1) λr1=>abU (qr a0 r1) λr2=>some r2
instance CT:FC prog (sa a0 a1=some r) 136 [aI a0,aI a1] [.c (.d (.i .i64 r))]:=gF func136 ntmps136
def wg (a0:Int) (a1:bv):Option Bool:=
 abU (nX a0 a1.cY a1.fU a1.bb) λr1=>some (eqB a1.jE r1)
instance Xu {a1:bv} {r:Bool}:FC prog (wg a0 a1=some r) 198 [aI a0,.agg (eQ a1)] [.c (.d (.b r))]:=gF func198 ntmps198
def wm (a0:Int) (a1:bv):Option (List Int):=
 abU (pJ a0 (WR ((WR (2*a1.fU))+a1.cY))) λr1=>abU (A8 r1 a1.bb) λr2=>some r2
instance xU {a1:bv} {r:List Int}:FC prog (wm a0 a1=some r) 135 [aI a0,.agg (eQ a1)] [.c (.own 5 1 (r.map eU8) r.length)]:=gF func135 ntmps135
def kE (a0:Int) (a1:Int) (a2:Int):Option Int:=
 abU (Q5 a2 1000000) λr1=>abU (mR a0 a1) λr2=>abU (Q5 (WR (r1-r2)) 1000000) λr3=>some r3
instance Bg {a2:Int} :FC prog (kE a0 a1 a2=some r) 200 [aI a0,aI a1,aI a2] [.c (.d (.i .i64 r))]:=gF func200 ntmps200
def p9 (a0:Int) (a1:Int) (a2:cE):Option Int:=
 abU (kE a0 a2.eC a2.gm) λr1=>abU (fc a0 [2,a2.eC,r1]) λr2=>bif !eqB a2.jE r2 then(some 1) else(bif leB r1 a1 then(some 2) else(bif ltB (WR (a1+1000)) r1 then(some 3) else(some 0)))
instance Ds {a2:cE} :FC prog (p9 a0 a1 a2=some r) 119 [aI a0,aI a1,.agg (me a2)] [.c (.d (.i .i64 r))]:=gF func119 ntmps119
def mF (a0:lC) (a1:cE):Option (lC×iv):=
 abU (oy a0) λr1=>bif !r1 then(some (a0,{eP with Code:=1})) else(abU (p9 a0.fo a0.dv a1) λr2=>abU (bif eqB r2 0 then(abU (kE a0.fo a1.eC a1.gm) λr8=>abU (fc a0.fo [3,a1.eC]) λr9=>abU (lI a0.fo a1.eC r8) λr10=>some (r8,(⟨r2,r9,r10.fo,0⟩:iv))) else(abU (bif eqB r2 2 then(some (eqB r2 2)) else(some (eqB r2 3))) λ(v11:Bool)=>abU (bif v11 then(abU (ry a0.fo a1.eC a0.dv) λr13=>some r13) else(some 0)) λ(v12:Int)=>some (a0.dv,{eP with Code:=r2,OK:=v12}))) λ((v6,v7):Int×iv)=>some ({a0 with dv:=v6},v7))
instance KE {a0:lC} {a1:cE} {r:lC×iv}:FC prog (mF a0 a1=some r) 305 [.agg (EE a0),.agg (me a1)] [.agg (qM [] (xH r.1)),.agg (qM [] (gN r.2))]:=⟨λH=>by
 refine fI func305 ntmps305 ?_
 refine aa H λr1 q1 H=>nA (ca (hF:=EV.h q1)) ?_
 refine cC H ?_ ?_<;>intro H
 .exact ao H
 refine aa H λr2 q2 H=>nA (ca (hF:=Ds.h q2)) ?_
 obtain⟨⟨v6,v7⟩,Hj,H⟩:=ob H
 refine jA ⟨[(2,tP 0),(4,tP 2),(5,tP 3),(7,tP 4)],[(0,.var 89 (kM [] (xH {a0 with dv:=v6}))),(2,.var 89 (kM [] (xH KD))),(3,.var 274 (kM [] (gN eP))),(4,.var 274 (kM [] (gN v7)))],5⟩ ?_ ?_
 .refine cC Hj ?_ ?_<;>intro H
  .refine aa H λr8 q8 H=>nA (ca (hF:=Bg.h q8)) ?_
   refine aa H λr9 q9 H=>nA (ca (hF:=ko.h q9)) ?_
   refine aa H λr10 q10 H=>nA (ca (hF:=Ch.h q10)) ?_
   exact ai H
  refine aa H λv11 Hj H=>jA ⟨[(2,tP 0),(3,tP 1),(4,tP 2),(5,tP 3),(7,tP 4),(49,tB v11)],[(0,.var 89 (kM [] (xH a0))),(1,.var 41 (kM [] (eT a1))),(2,.var 89 (kM [] (xH KD))),(3,.var 274 (kM [] (gN eP))),(4,.var 274 (kM [] (gN {eP with Code:=r2})))],5⟩ ?_ ?_
  .exact az Hj
  refine aa H λv12 Hj H=>jA ⟨[(2,tP 0),(4,tP 2),(5,tP 3),(7,tP 4)],[(0,.var 89 (kM [] (xH a0))),(2,.var 89 (kM [] (xH KD))),(3,.var 274 (kM [] (gN eP))),(4,.var 274 (kM [] (gN {eP with Code:=r2,OK:=v12})))],5⟩ ?_ ?_
  .refine cC Hj ?_ ?_<;>intro H
   .refine aa H λr13 q13 H=>nA (ca (hF:=E6.h q13)) ?_
    exact ai H
   exact ai H
  exact ai H
 refine zI (List.range 4) ?_
 refine wA (spx 100526) ?_
 refine wA (spx 100525) ?_
 cases H
 exact bX⟩
def EX (a0:Int) (a1:Int) (a2:Int) (a3:List Int):Option bv:=
 abU (pJ a0 (WR ((WR (2*a2))+a1))) λr1=>abU (A9 r1 a3) λr2=>abU (nX a0 a1 a2 r2) λr3=>some (⟨a1,a2,r2,r3⟩:bv)
instance ZM {a2:Int} {a3:List Int} {r:bv}:FC prog (EX a0 a1 a2 a3=some r) 340 [aI a0,aI a1,aI a2,aL (a3.map eU8)] [.agg (qM [.o] (pI r))]:=gF func340 ntmps340
end Go.AM
