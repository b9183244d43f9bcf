/- A part. -/
import Derived.Test.YtmginjngmidkbaaGreatS6
set_option linter.unusedVariables false
open Option renaming bind->abU
namespace Go.AM
open Go.Proofs
open Tryz
attribute [local irreducible] AWN NS AWO AWR AWC DR ea gL
set_option maxRecDepth 100000
set_option maxHeartbeats 40000000
variable {a0 a1 r:Int}
def xc (a0:ab) (a1:Int):Option Bool:=
 abU (ix a0.av a1) λx1=>abU (ix a0.aF a1) λx2=>abU (oH x1) λr3=>abU (bif !r3 then(some true) else(abU (kr x2) λr5=>bif !r5 then(some true) else(abU (ix a0.bG a1) λx6=>abU (g9 x6) λr7=>bif !r7 then(some true) else(bif !(eqB x1.df.ID.dN x2.bA.ID.dN&&(eqB x1.df.ID.bL x2.bA.ID.bL&&true)) then(some true) else(some (!eqB x1.df.eP x2.bA.eP)))))) λ(v4:Bool)=>bif v4 then(some false) else(abU (bif ltB x1.be (a0.eo.aX.length:Int) then(bif ltB x2.be (a0.eo.aX.length:Int) then(bif eqB x2.bT.aG a1 then(abU (ix a0.bG a1) λx9=>abU (fT x9 x2.bT) λr10=>some r10) else(some false)) else(some false)) else(some false)) λ(v8:Bool)=>some v8)
theorem Lg {a0:ab} {r:Bool} (H:xc a0 a1=some r):Fn prog 122 [.agg (iy a0),aI a1] [.c (.d (.b r))]:=by
 refine fI func122 ntmps122 ?_
 refine aa H λx1 hx1 H=>nA (xdT (enc:=cS) hx1) ?_
 refine aa H λx2 hx2 H=>nA (xdT (enc:=bU) hx2) ?_
 refine aa H λr3 q3 H=>nA (ca (hF:=DI q3)) ?_
 refine aa H λv4 Hj H=>jR ⟨[(1,tI a1),(2,tP 0),(5,tP 1),(6,tP 2),(51,tB v4)],[(0,.var 34 (kM [.f,.f,.f,.f,.f] (aU a0))),(1,.var 93 (kM [.f,.f] (dt x1))),(2,.var 75 (kM [.f,.f,.f] (ct x2)))],3⟩ ?_ ?_
 .refine gC Hj ?_ ?_<;>intro H
  .exact ai H
  refine aa H λr5 q5 H=>nG (ca (hF:=tV q5)) ?_
  refine gC H ?_ ?_<;>intro H
  .exact ai H
  refine aa H λx6 hx6 H=>nG (xdT (enc:=cN) hx6) ?_
  refine aa H λr7 q7 H=>nG (ca (hF:=kT q7)) ?_
  exact az H
 refine cC H ?_ ?_<;>intro H
 .exact ao H
 refine dI ?_
 refine aa H λv8 Hj H=>fA ⟨[(4,tB v8)],[],0⟩ ?_ ?_
 .have H:=Hj
  refine wI ?_
  refine dC H ?_ ?_<;>intro H
  .refine dC H ?_ ?_<;>intro H
   .refine dC H ?_ ?_<;>intro H
    .refine aa H λx9 hx9 H=>dG (xdT (enc:=cN) hx9) ?_
     refine aa H λr10 q10 H=>dG (ca (hF:=jT q10)) ?_
     refine wI ?_
     exact ai H
    refine wI ?_
    exact ai H
   refine wI ?_
   exact ai H
  refine wI ?_
  exact ai H
 refine wI ?_
 exact ao H
def iG (a0:ab):Int->Option (cq (Int) (Bool))
 |v6=>bif ltB v6 (a0.aK.length:Int) then(abU (ix a0.aK v6) λx7=>abU (dB x7.bk 0 (WR ((a0.av.length:Int)-1))) λr8=>abU (bif !r8 then(some true) else(abU (ix a0.aK v6) λx10=>abU (dB x10.be 0 (WR ((a0.eo.aX.length:Int)-1))) λr11=>some (!r11))) λ(v9:Bool)=>bif v9 then(dn (some false)) else(some (.next (WR (v6+1))))) else(dn (bif leB 0 (a0.eo.aX.length:Int) then(abU (dB a0.dv 0 (WR ((lJ .i64 1 (a0.eo.aX.length:Int))-1))) λr12=>abU (bif r12 then(abU (dB a0.qz 0 100000) λr14=>bif r14 then(some (leB 0 a0.jr)) else(some false)) else(some false)) λ(v13:Bool)=>some v13) else none))
def iF (a0:ab):Int->Option (cq (Int) (Bool))
 |v4=>bif ltB v4 (a0.av.length:Int) then(abU (xc a0 v4) λr5=>bif !r5 then(dn (some false)) else(some (.next (WR (v4+1))))) else(dn (iter (iG a0) FU 0))
def mT (a0:ab):Option Bool:=
 abU (qq a0.eo) λr1=>abU (bif !r1 then(some true) else(abU (lQ a0.ef) λr3=>bif !r3 then(some true) else(bif eqB a0.ef.fj 0 then(some true) else(bif ltB 4 (a0.av.length:Int) then(some true) else(bif !eqB (a0.aF.length:Int) (a0.av.length:Int) then(some true) else(bif !eqB (a0.bG.length:Int) (a0.av.length:Int) then(some true) else(some (ltB 200 (a0.aK.length:Int))))))))) λ(v2:Bool)=>bif v2 then(some false) else(iter (iF a0) FU 0)
theorem Ct {a0:ab} {r:Bool} (H:mT a0=some r):Fn prog 63 [.agg (iy a0)] [.c (.d (.b r))]:=by
 refine fI func63 ntmps63 ?_
 refine aa H λr1 q1 H=>nA (ca (hF:=AH q1)) ?_
 refine aa H λv2 Hj H=>jR ⟨[(1,tP 0),(50,tB v2)],[(0,.var 34 (kM [.f,.f,.f,.f,.f] (aU a0)))],1⟩ ?_ ?_
 .refine gC Hj ?_ ?_<;>intro H
  .exact ai H
  refine aa H λr3 q3 H=>nG (ca (hF:=sT q3)) ?_
  exact az H
 refine cC H ?_ ?_<;>intro H
 .exact ao H
 refine iT H (λq=>⟨[(1,tP 0),(3,tI q)],[(0,.var 34 (kM [.f,.f,.f,.f,.f] (aU a0)))],1⟩) ?_
 rintro v4 o H
 refine ad ?_
 refine cC H ?_ ?_<;>intro H
 .refine aa H λr5 q5 H=>nA (ca (hF:=Lg q5)) ?_
  refine cC H ?_ ?_<;>intro H
  .exact aQ H
  exact aN H
 refine aR H λH=>?_
 refine iT H (λq=>⟨[(1,tP 0),(4,tI q)],[(0,.var 34 (kM [.f,.f,.f,.f,.f] (aU a0)))],1⟩) ?_
 rintro v6 o H
 refine ad ?_
 refine cC H ?_ ?_<;>intro H
 .refine dI ?_
  refine aa H λx7 hx7 H=>dA (xdT (enc:=dr) hx7) ?_
  refine aa H λr8 q8 H=>dA (ca (hF:=cm q8)) ?_
  refine aa H λv9 Hj H=>fA ⟨[(1,tP 0),(4,tI v6),(95,tB v9)],[(0,.var 34 (kM [.f,.f,.f,.f,.f] (aU a0)))],1⟩ ?_ ?_
  .have H:=Hj
   refine wI ?_
   refine dC H ?_ ?_<;>intro H
   .refine wI ?_
    exact ai H
   refine aa H λx10 hx10 H=>dG (xdT (enc:=dr) hx10) ?_
   refine aa H λr11 q11 H=>dG (ca (hF:=cm q11)) ?_
   refine wI ?_
   exact ai H
  refine wI ?_
  refine cC H ?_ ?_<;>intro H
  .refine wI ?_
   exact aQ H
  refine wI ?_
  exact aN H
 refine aR H λH=>?_
 refine dI ?_
 obtain⟨h,H⟩:=rq H
 refine dA (Ig h rfl rfl rfl rfl) ?_
 refine aa H λr12 q12 H=>dA (ca (hF:=cm q12)) ?_
 refine aa H λv13 Hj H=>fA ⟨[(2,tB v13)],[],0⟩ ?_ ?_
 .have H:=Hj
  refine wI ?_
  refine dC H ?_ ?_<;>intro H
  .refine aa H λr14 q14 H=>dG (ca (hF:=cm q14)) ?_
   refine dC H ?_ ?_<;>intro H
   .refine wI ?_
    exact ai H
   refine wI ?_
   exact ai H
  refine wI ?_
  exact ai H
 refine wI ?_
 exact ao H
def sY (a0:Int) (a1:bp):Option Bool:=
 abU (D7 a0 a1) λr1=>some (eqB a1.iM r1)
theorem CB {a1:bp} {r:Bool} (H:sY a0 a1=some r):Fn prog 125 [aI a0,.agg (eh a1)] [.c (.d (.b r))]:=by
 refine fI func125 ntmps125 ?_
 refine dI ?_
 refine aa H λr1 q1 H=>dA (ca (hF:=Nt q1)) ?_
 refine wI ?_
 exact ao H
def lE (a1:fF):(Int×Int)->Option (cq (Int×Int) (Int))
 |(v1,v2)=>bif ltB v2 (a1.Steps.length:Int) then(abU (ix a1.Steps v2) λx6=>abU (pD v1 x6) λr7=>some (.next (r7,WR (v2+1)))) else(some (.done v1))
def qr (a0:Int) (a1:fF):Option Int:=
 abU (iter (lE a1) FU (a0,0)) λ(v5:Int)=>some v5
theorem AI {a1:fF} (H:qr a0 a1=some r):Fn prog 209 [aI a0,.agg (IU a1)] [.c (.d (.i .i64 r))]:=by
 refine fI func209 ntmps209 ?_
 refine aa H λv5 Hj H=>jB ⟨[(5,tI v5)],[],0⟩ ?_ ?_
 .refine iT Hj (λq=>⟨[(3,tP 0),(5,tI q.1),(6,tI q.2)],[(0,.var 172 [.d false (.l (a1.Steps.map eI))])],1⟩) ?_
  rintro⟨v1,v2⟩ o H
  refine ad ?_
  refine cC H ?_ ?_<;>intro H
  .refine aa H λx6 hx6 H=>nA (xdT (enc:=eI) hx6) ?_
   refine aa H λr7 q7 H=>nA (ca (hF:=wR q7)) ?_
   exact aN H
  exact aE H
 exact ao H
def rX (a0:Int) (a1:Int):Option Int:=
 abU (uX a1) λr1=>abU (qr a0 r1) λr2=>some r2
theorem y9 (H:rX a0 a1=some r):Fn prog 126 [aI a0,aI a1] [.c (.d (.i .i64 r))]:=by
 refine fI func126 ntmps126 ?_
 refine aa H λr1 q1 H=>nA (ca (hF:=E6 q1)) ?_
 refine aa H λr2 q2 H=>nA (ca (hF:=AI q2)) ?_
 exact ao H
def sX (a0:Int) (a1:aD):Option Int:=
 abU (oX) λr1=>abU (qr a0 r1) λr2=>abU (fa r2 [23,a1.a8,a1.be,a1.ag,a1.aT,a1.bL]) λr3=>some r3
theorem Cz {a1:aD} (H:sX a0 a1=some r):Fn prog 211 [aI a0,.agg (c9 a1)] [.c (.d (.i .i64 r))]:=by
 refine fI func211 ntmps211 ?_
 refine dI ?_
 refine aa H λr1 q1 H=>dA (ca (hF:=Aq q1)) ?_
 refine aa H λr2 q2 H=>dA (ca (hF:=AI q2)) ?_
 refine aa H λr3 q3 H=>dA (ca (hF:=eS q3)) ?_
 refine wI ?_
 exact ao H
def kt (a0:Int) (a1:Int) (a2:Int):Option Int:=
 abU (Iw a2 1000000) λr1=>abU (mB a0 a1) λr2=>abU (Iw (WR (r1-r2)) 1000000) λr3=>some r3
theorem ue {a2:Int} (H:kt a0 a1 a2=some r):Fn prog 212 [aI a0,aI a1,aI a2] [.c (.d (.i .i64 r))]:=by
 refine fI func212 ntmps212 ?_
 refine aa H λr1 q1 H=>nA (ca (hF:=Bh q1)) ?_
 refine aa H λr2 q2 H=>nA (ca (hF:=xI q2)) ?_
 refine aa H λr3 q3 H=>nA (ca (hF:=Bh q3)) ?_
 exact ao H
def mE (a0:Int) (a1:Int) (a2:cA):Option Int:=
 abU (kt a0 a2.er a2.fY) λr1=>abU (fa a0 [2,a2.er,r1]) λr2=>bif !eqB a2.iM r2 then(some 1) else(bif leB r1 a1 then(some 2) else(bif ltB a1 (WR (r1-1000)) then(some 3) else(some 0)))
theorem xL {a2:cA} (H:mE a0 a1 a2=some r):Fn prog 128 [aI a0,aI a1,.agg (lK a2)] [.c (.d (.i .i64 r))]:=by
 refine fI func128 ntmps128 ?_
 refine aa H λr1 q1 H=>nA (ca (hF:=ue q1)) ?_
 refine dI ?_
 refine aa H λr2 q2 H=>dA (ca (hF:=eS q2)) ?_
 refine wI ?_
 exact ay H
def Ho (a0:Int) (a1:Int) (a2:Int) (a3:List Int):Option bp:=
 abU (pD a0 (WR ((WR (2*a2))+a1))) λr1=>abU (Cs r1 a3) λr2=>abU (D7 a0 (⟨a1,a2,r2,0⟩:bp)) λr3=>some (⟨a1,a2,r2,r3⟩:bp)
theorem OP {a2:Int} {a3:List Int} {r:bp} (H:Ho a0 a1 a2 a3=some r):Fn prog 313 [aI a0,aI a1,aI a2,aL (a3.map eU8)] [.agg (qM [.o] (pf r))]:=by
 refine fI func313 ntmps313 ?_
 refine aa H λr1 q1 H=>nA (ca (hF:=wR q1)) ?_
 refine aa H λr2 q2 H=>nA (ca (hF:=OM q2)) ?_
 refine aa H λr3 q3 H=>nA (ca (hF:=Nt q3)) ?_
 exact ao H
def iI (a0:Int) (a1:Int) (a2:Int):Option cA:=
 abU (dB a2 0 999999) λr1=>bif !r1 then(some cg) else(abU (mB a0 a1) λr2=>abU (Iw (WR (a2+r2)) 1000000) λr3=>abU (fa a0 [2,a1,a2]) λr4=>abU (fa a0 [3,a1]) λr5=>abU (fa a0 [4,a1,a2]) λr6=>abU (Hi 1 r6) λr7=>some (⟨a1,r3,r4,r5,r7⟩:cA))
theorem lR {a2:Int} {r:cA} (H:iI a0 a1 a2=some r):Fn prog 314 [aI a0,aI a1,aI a2] [.agg (qM [] (ei r))]:=by
 refine fI func314 ntmps314 ?_
 refine aa H λr1 q1 H=>nA (ca (hF:=cm q1)) ?_
 refine cC H ?_ ?_<;>intro H
 .exact ao H
 refine aa H λr2 q2 H=>nA (ca (hF:=xI q2)) ?_
 refine aa H λr3 q3 H=>nA (ca (hF:=Bh q3)) ?_
 refine aa H λr4 q4 H=>nA (ca (hF:=eS q4)) ?_
 refine aa H λr5 q5 H=>nA (ca (hF:=eS q5)) ?_
 refine aa H λr6 q6 H=>nA (ca (hF:=eS q6)) ?_
 refine aa H λr7 q7 H=>nA (ca (hF:=DL q7)) ?_
 exact ao H
def Ac (a0:bm):Option (cA×bm):=
 abU (Bt a0) λr1=>abU (cI r1.2 50) λr2=>abU (Lj r2.2) λr3=>abU (iI r1.1 r2.1 r3.1) λr4=>abU (cI r3.2 8) λr5=>abU (bif eqB r5.1 0 then(abU (Ab r5.2) λr16=>some (r16.2,{r4 with iM:=r16.1})) else(abU (bif eqB r5.1 1 then(abU (Bp r5.2 [WR (r4.fY+1),-1,1000000,WR (r4.fY+1000000)]) λr24=>some (r24.2,{r4 with fY:=r24.1})) else(abU (bif eqB r5.1 2 then(some (WR (r4.er+1))) else(some r4.er)) λ(v25:Int)=>some (r5.2,{r4 with er:=v25}))) λ((v22,v23):bm×cA)=>some (v22,v23))) λ((v14,v15):bm×cA)=>some (v15,v14)
theorem Ns {a0:bm} {r:cA×bm} (H:Ac a0=some r):FnW prog 316 (.var 135 (kM [.f] (ci a0))) [tP 200] (.var 135 (kM [.f] (ci r.2))) [.agg (qM [] (ei r.1))]:=by
 refine fW func316 ntmps316 ?_
 refine aa H λr1 q1 H=>sA (cw (o:=200) (Nr q1)) ?_
 refine aa H λr2 q2 H=>sA (cw (o:=200) (cp q2)) ?_
 refine aa H λr3 q3 H=>sA (cw (o:=200) (VH q3)) ?_
 refine aa H λr4 q4 H=>nA (ca (hF:=lR q4)) ?_
 refine aa H λr5 q5 H=>sA (cw (o:=200) (cp q5)) ?_
 obtain⟨⟨v14,v15⟩,Hj,H⟩:=ob H
 refine jA ⟨[(2,tP 210),(5,tP 211)],[(200,.var 135 (kM [.f] (ci v14))),(210,.var 41 (kM [] (ei cg))),(211,.var 41 (kM [] (ei v15)))],212⟩ ?_ ?_
 .refine cC Hj ?_ ?_<;>intro H
  .refine aa H λr16 q16 H=>sA (cw (o:=200) (D6 q16)) ?_
   exact ai H
  obtain⟨⟨v22,v23⟩,Hj,H⟩:=ob H
  refine jA ⟨[(2,tP 210),(5,tP 211)],[(200,.var 135 (kM [.f] (ci v22))),(210,.var 41 (kM [] (ei cg))),(211,.var 41 (kM [] (ei v23)))],212⟩ ?_ ?_
  .refine cC Hj ?_ ?_<;>intro H
   .refine aa H λr24 q24 H=>bQ (bb (o:=212)) ?_
    refine bQ (b7 (k:=31)) ?_
    refine sA (cw (o:=200) (CL q24)) ?_
    exact ai H
   refine aa H λv25 Hj H=>jA ⟨[(2,tP 210),(5,tP 211)],[(200,.var 135 (kM [.f] (ci r5.2))),(210,.var 41 (kM [] (ei cg))),(211,.var 41 (kM [] (ei {r4 with er:=v25})))],212⟩ ?_ ?_
   .exact az Hj
   exact ai H
  exact ai H
 cases H
 exact f4
def zp (a0:ah):Option Bool:=
 abU (bif !eqB a0.bj 1 then(some true) else(abU (kr a0) λr2=>some (!r2))) λ(v1:Bool)=>some v1
theorem HI {a0:ah} {r:Bool} (H:zp a0=some r):Fn prog 320 [.agg (bU a0)] [.c (.d (.b r))]:=by
 refine fI func320 ntmps320 ?_
 refine aa H λv1 Hj H=>jR ⟨[(2,tB v1)],[],0⟩ ?_ ?_
 .refine gC Hj ?_ ?_<;>intro H
  .exact ai H
  refine aa H λr2 q2 H=>nG (ca (hF:=tV q2)) ?_
  exact ai H
 exact ao H
def lT (a0:bN) (a1:Int):(Int×Int)->Option (cq (Int×Int) (Int))
 |(v1,v2)=>abU (bif ltB v2 a0.fo then(some (ltB v2 6)) else(some false)) λ(v10:Bool)=>bif v10 then(abU (qp a0 v2) λr11=>abU (bif r11 then(bif ltB v1 0 then(some true) else(abU (i7 v2 a1) λr13=>abU (i7 v1 a1) λr14=>some (ltB r14 r13))) else(some false)) λ(v12:Bool)=>abU (bif v12 then(some v2) else(some v1)) λ(v15:Int)=>some (.next (v15,WR (v2+1)))) else(some (.done v1))
def mA (a0:bN) (a1:Int):Option Int:=
 abU (iter (lT a0 a1) FU (-1,0)) λ(v9:Int)=>some v9
theorem xH {a0:bN} (H:mA a0 a1=some r):Fn prog 273 [.agg (nR a0),aI a1] [.c (.d (.i .i64 r))]:=by
 refine fI func273 ntmps273 ?_
 refine aa H λv9 Hj H=>jB ⟨[(5,tI v9)],[],0⟩ ?_ ?_
 .refine iT Hj (λq=>⟨[(1,tI a1),(2,tP 0),(5,tI q.1),(6,tI q.2)],[(0,.var 32 (kM [] (eR a0)))],1⟩) ?_
  rintro⟨v1,v2⟩ o H
  refine ad ?_
  refine aa H λv10 Hj H=>jR ⟨[(1,tI a1),(2,tP 0),(5,tI v1),(6,tI v2),(14,tB v10)],[(0,.var 32 (kM [] (eR a0)))],1⟩ ?_ ?_
  .exact az Hj
  refine cC H ?_ ?_<;>intro H
  .refine aa H λr11 q11 H=>nA (ca (hF:=AG q11)) ?_
   refine aa H λv12 Hj H=>jR ⟨[(1,tI a1),(2,tP 0),(5,tI v1),(6,tI v2),(32,tB v12)],[(0,.var 32 (kM [] (eR a0)))],1⟩ ?_ ?_
   .refine gC Hj ?_ ?_<;>intro H
    .refine gC H ?_ ?_<;>intro H
     .exact ai H
     refine aa H λr13 q13 H=>nG (ca (hF:=qY q13)) ?_
     refine aa H λr14 q14 H=>nG (ca (hF:=qY q14)) ?_
     exact ai H
    exact ai H
   refine aa H λv15 Hj H=>jA ⟨[(1,tI a1),(2,tP 0),(5,tI v15),(6,tI v2)],[(0,.var 32 (kM [] (eR a0)))],1⟩ ?_ ?_
   .exact az Hj
   exact aN H
  exact aE H
 exact ao H
end Go.AM
