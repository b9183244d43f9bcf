/- A part. -/
import Derived.Test.YtljhooecmjejiaaGreatS6
set_option linter.unusedVariables false
open Option renaming bind→Vj
namespace Go.AM
open Go.Proofs
attribute [local irreducible] AWN NS AWO AWR AWC DR cZ ey
set_option maxRecDepth 100000
set_option maxHeartbeats 40000000
def uz (a0:aE):Option (Int×aE):=
 Vj (fZ a0 10) fun r1=>bif r1.1 then(Vj (vU r1.2 [-1,2147483647,2147483648]) fun r2=>some (r2.1,r2.2)) else(Vj (fZ r1.2 4) fun r3=>bif r3.1 then(Vj (vU r3.2 [0,1,2147483646]) fun r4=>some (r4.1,r4.2)) else(Vj (bS r3.2 1000000) fun r5=>Vj (bS r5.2 2000) fun r6=>some (WR (r5.1*r6.1),r6.2)))
theorem yA {a0:aE} {r:Int×aE} (H:uz a0=some r):FnW Tryz.prog 318 (.var 143 (kM [.f] (bg a0))) [tP 200] (.var 143 (kM [.f] (bg r.2))) [.c (.d (.i .i64 r.1))]:=by
 refine fW Tryz.func318 Tryz.ntmps318 ?_
 obtain⟨r1,q1,H⟩:=ob H
 refine sA (cw (o:=200) (fK q1)) ?_
 refine cC H ?_ ?_<;>intro H
 ·obtain⟨r2,q2,H⟩:=ob H
  refine bT (aV (o:=210)) ?_
  refine bT (cI (k:=6)) ?_
  refine sA (cw (o:=200) (xq q2)) ?_
  cases H
  exact eu
 ·obtain⟨r3,q3,H⟩:=ob H
  refine sA (cw (o:=200) (fK q3)) ?_
  refine cC H ?_ ?_<;>intro H
  ·obtain⟨r4,q4,H⟩:=ob H
   refine bT (aV (o:=210)) ?_
   refine bT (cI (k:=11)) ?_
   refine sA (cw (o:=200) (xq q4)) ?_
   cases H
   exact eu
  ·obtain⟨r5,q5,H⟩:=ob H
   refine sA (cw (o:=200) (bz q5)) ?_
   obtain⟨r6,q6,H⟩:=ob H
   refine sA (cw (o:=200) (bz q6)) ?_
   cases H
   exact eu
def Fh (a0:aE):Option (Int×aE):=
 Vj (fZ a0 6) fun r1=>bif r1.1 then(Vj (vU r1.2 [0,999999,1000000,-1,998999]) fun r2=>some (r2.1,r2.2)) else(Vj (bS r1.2 40) fun r3=>some (r3.1,r3.2))
theorem OG {a0:aE} {r:Int×aE} (H:Fh a0=some r):FnW Tryz.prog 342 (.var 143 (kM [.f] (bg a0))) [tP 200] (.var 143 (kM [.f] (bg r.2))) [.c (.d (.i .i64 r.1))]:=by
 refine fW Tryz.func342 Tryz.ntmps342 ?_
 obtain⟨r1,q1,H⟩:=ob H
 refine sA (cw (o:=200) (fK q1)) ?_
 refine cC H ?_ ?_<;>intro H
 ·obtain⟨r2,q2,H⟩:=ob H
  refine bT (aV (o:=210)) ?_
  refine bT (cI (k:=6)) ?_
  refine sA (cw (o:=200) (xq q2)) ?_
  cases H
  exact eu
 ·obtain⟨r3,q3,H⟩:=ob H
  refine sA (cw (o:=200) (bz q3)) ?_
  cases H
  exact eu
def kK (a0:az):Option Bool:=
 Vj (cH a0.bi 2 3) fun r1=>Vj (bif r1 then(Vj (fG a0.aK) fun r3=>some (!r3)) else(some false)) fun(v2:Bool)=>bif v2 then(some false) else(Vj (kR a0.dw) fun r4=>Vj (bif r4 then(Vj (cH a0.bi 0 3) fun r6=>bif r6 then(Vj (cH a0.aX 0 5) fun r7=>bif r7 then(Vj (cH a0.aa 0 999999) fun r8=>bif r8 then(Vj (cH a0.aO 0 999999) fun r9=>bif r9 then(Vj (cH a0.aK 0 2147483646) fun r10=>bif r10 then(Vj (cH a0.f7 0 3) fun r11=>bif r11 then(Vj (gG a0.bM) fun r12=>some r12) else(some false)) else(some false)) else(some false)) else(some false)) else(some false)) else(some false)) else(some false)) fun(v5:Bool)=>some v5)
theorem yk {a0:az} {r:Bool} (H:kK a0=some r):Fn Tryz.prog 186 [.agg (dE a0)] [.c (.d (.b r))]:=by
 refine fI Tryz.func186 Tryz.ntmps186 ?_
 obtain⟨r1,q1,H⟩:=ob H
 refine nA (ca (hF:=bL q1)) ?_
 obtain⟨v2,Hj,H⟩:=ob H
 refine jR ⟨[(1,tP 0),(11,tB v2)],[(0,.var 45 (kM [.f,.f] (dr a0)))],1⟩ ?_ ?_
 ·have H:=Hj
  refine gC H ?_ ?_<;>intro H
  ·obtain⟨r3,q3,H⟩:=ob H
   refine nG (ca (hF:=gm q3)) ?_
   cases H
   exact wo
  ·cases H
   exact wo
 refine cC H ?_ ?_<;>intro H
 ·cases H
  exact ah
 ·obtain⟨r4,q4,H⟩:=ob H
  refine nA (ca (hF:=tz q4)) ?_
  obtain⟨v5,Hj,H⟩:=ob H
  refine jR ⟨[(2,tB v5)],[],0⟩ ?_ ?_
  ·have H:=Hj
   refine gC H ?_ ?_<;>intro H
   ·obtain⟨r6,q6,H⟩:=ob H
    refine nG (ca (hF:=bL q6)) ?_
    refine gC H ?_ ?_<;>intro H
    ·obtain⟨r7,q7,H⟩:=ob H
     refine nG (ca (hF:=bL q7)) ?_
     refine gC H ?_ ?_<;>intro H
     ·obtain⟨r8,q8,H⟩:=ob H
      refine nG (ca (hF:=bL q8)) ?_
      refine gC H ?_ ?_<;>intro H
      ·obtain⟨r9,q9,H⟩:=ob H
       refine nG (ca (hF:=bL q9)) ?_
       refine gC H ?_ ?_<;>intro H
       ·obtain⟨r10,q10,H⟩:=ob H
        refine nG (ca (hF:=bL q10)) ?_
        refine gC H ?_ ?_<;>intro H
        ·obtain⟨r11,q11,H⟩:=ob H
         refine nG (ca (hF:=bL q11)) ?_
         refine gC H ?_ ?_<;>intro H
         ·obtain⟨r12,q12,H⟩:=ob H
          refine nG (ca (hF:=oB q12)) ?_
          cases H
          exact wo
         ·cases H
          exact wo
        ·cases H
         exact wo
       ·cases H
        exact wo
      ·cases H
       exact wo
     ·cases H
      exact wo
    ·cases H
     exact wo
   ·cases H
    exact wo
  cases H
  exact ah
def ik (a0:ag):Int→Option (cp (Int) (Bool))
 |v5=>bif ltB v5 ((a0.aq.aw.length:Nat):Int) then(Vj (ix a0.aq.aw v5) fun x6=>Vj (ix a0.ax (WR (x6.cT-1))) fun x7=>Vj (mt x6.aQ x7.aQ) fun r8=>bif !r8 then(dn (some false)) else(some (.next (WR (v5+1))))) else(dn (Vj (lP a0.aq.aw) fun r9=>Vj (hO a0.bW) fun r10=>some (leB r9 r10)))
def mc (a0:ag):Int→Option (cp (Int) (Bool))
 |v1=>bif ltB v1 ((a0.ax.length:Nat):Int) then(Vj (ix a0.ax v1) fun x2=>bif ltB 60 ((x2.aQ.length:Nat):Int) then(dn (some false)) else(some (.next (WR (v1+1))))) else(dn (Vj (bif ltB 24 ((a0.ax.length:Nat):Int) then(some true) else(Vj (iH a0.aq) fun r4=>bif !r4 then(some true) else(some (ltB (WR (((a0.ax.length:Nat):Int)+1)) a0.aq.bm)))) fun(v3:Bool)=>bif v3 then(some false) else(iter (ik a0) FU 0)))
def rI (a0:ag):Option Bool:=
 iter (mc a0) FU 0
theorem Fd {a0:ag} {r:Bool} (H:rI a0=some r):Fn Tryz.prog 248 [.agg (bZ a0)] [.c (.d (.b r))]:=by
 refine fI Tryz.func248 Tryz.ntmps248 ?_
 refine iT H (fun q=>⟨[(1,tP 0),(3,tI q)],[(0,.var 60 (kM [.f,.f,.f] (cF a0)))],1⟩) ?_
 rintro v1 o H
 try dsimp only
 refine wI ?_
 refine cC H ?_ ?_<;>intro H
 ·obtain⟨x2,hx2,H⟩:=ob H
  refine nA (xdT (enc:=dQ) hx2) ?_
  refine cC H ?_ ?_<;>intro H
  ·obtain⟨r0,Hd,rfl⟩:=dnE H
   refine ks (fun hq=>?_)
   have H:=Hd.trans (congrArg some hq)
   refine wI ?_
   cases H
   exact ah
  ·cases H
   refine dU ?_
   exact wo
 ·obtain⟨r0,Hd,rfl⟩:=dnE H
  refine dT (fun hq=>?_)
  have H:=Hd.trans (congrArg some hq)
  refine wI ?_
  obtain⟨v3,Hj,H⟩:=ob H
  refine jR ⟨[(1,tP 0),(40,tB v3)],[(0,.var 60 (kM [.f,.f,.f] (cF a0)))],1⟩ ?_ ?_
  ·have H:=Hj
   refine gC H ?_ ?_<;>intro H
   ·cases H
    exact wo
   ·obtain⟨r4,q4,H⟩:=ob H
    refine nG (ca (hF:=lN q4)) ?_
    refine gC H ?_ ?_<;>intro H
    ·cases H
     exact wo
    ·cases H
     exact wo
  refine cC H ?_ ?_<;>intro H
  ·cases H
   exact ah
  ·refine iT H (fun q=>⟨[(1,tP 0),(4,tI q)],[(0,.var 60 (kM [.f,.f,.f] (cF a0)))],1⟩) ?_
   rintro v5 o H
   try dsimp only
   refine wI ?_
   refine cC H ?_ ?_<;>intro H
   ·obtain⟨x6,hx6,H⟩:=ob H
    refine nA (xdT (enc:=aG) hx6) ?_
    refine dI ?_
    obtain⟨x7,hx7,H⟩:=ob H
    refine dA (xdT (enc:=dQ) hx7) ?_
    obtain⟨r8,q8,H⟩:=ob H
    refine dA (ca (hF:=vc q8)) ?_
    refine wI ?_
    refine cC H ?_ ?_<;>intro H
    ·obtain⟨r0,Hd,rfl⟩:=dnE H
     refine ks (fun hq=>?_)
     have H:=Hd.trans (congrArg some hq)
     refine wI ?_
     cases H
     exact ah
    ·cases H
     refine dU ?_
     exact wo
   ·obtain⟨r0,Hd,rfl⟩:=dnE H
    refine dT (fun hq=>?_)
    have H:=Hd.trans (congrArg some hq)
    refine wI ?_
    refine dI ?_
    obtain⟨r9,q9,H⟩:=ob H
    refine dA (ca (hF:=pA q9)) ?_
    obtain⟨r10,q10,H⟩:=ob H
    refine dA (ca (hF:=pm q10)) ?_
    refine wI ?_
    cases H
    exact ah
def lj (a0:bD) (a1:bD):Option Bool:=
 Vj (bif eqB a0.aN a1.aN then(bif booB a0.eh a1.eh then(bif booB a0.cq a1.cq then(bif eqB a0.aX a1.aX then(bif(eqB a0.aY.aR a1.aY.aR&&(eqB a0.aY.aX a1.aY.aX&&(eqB a0.aY.aa a1.aY.aa&&(eqB a0.aY.aO a1.aY.aO&&(eqB a0.aY.bN a1.aY.bN&&(eqB a0.aY.bR.eQ a1.aY.bR.eQ&&(eqB a0.aY.bR.gx a1.aY.bR.gx&&(eqB a0.aY.bR.gV a1.aY.bR.gV&&(eqB a0.aY.bR.uW a1.aY.bR.uW&&(eqB a0.aY.bR.eY a1.aY.bR.eY&&(eqB a0.aY.gV a1.aY.gV&&true))))))))))) then(Vj (o8 a0.bC a1.bC) fun r2=>some r2) else(some false)) else(some false)) else(some false)) else(some false)) else(some false)) fun(v1:Bool)=>some v1
theorem yy {a0:bD} {a1:bD} {r:Bool} (H:lj a0 a1=some r):Fn Tryz.prog 319 [.agg (dK a0),.agg (dK a1)] [.c (.d (.b r))]:=by
 refine fI Tryz.func319 Tryz.ntmps319 ?_
 obtain⟨v1,Hj,H⟩:=ob H
 refine jR ⟨[(4,tB v1)],[],0⟩ ?_ ?_
 ·have H:=Hj
  refine gC H ?_ ?_<;>intro H
  ·refine gC H ?_ ?_<;>intro H
   ·refine gC H ?_ ?_<;>intro H
    ·refine gC H ?_ ?_<;>intro H
     ·refine gC H ?_ ?_<;>intro H
      ·obtain⟨r2,q2,H⟩:=ob H
       refine nG (ca (hF:=Cn q2)) ?_
       cases H
       exact wo
      ·cases H
       exact wo
     ·cases H
      exact wo
    ·cases H
     exact wo
   ·cases H
    exact wo
  ·cases H
   exact wo
 cases H
 exact ah
def iM (a1:Int) (a2:Bool) (a3:List aA):(Int×ab)→Option (cp (Int×ab) (ab))
 |(v1,v12)=>bif ltB v1 ((a3.length:Nat):Int) then(Vj (ix a3 v1) fun x27=>Vj (ix a3 v1) fun x28=>Vj (eT v12 (⟨a1,a2,false,x27.aX,x28,ee⟩:bD)) fun r29=>some (.next (WR (v1+1),r29))) else(some (.done v12))
def iL (a0:ab) (a1:Int) (a2:Bool) (a3:List aA):Option ab:=
 Vj (iter (iM a1 a2 a3) FU (0,a0)) fun(v26:ab)=>some v26
theorem p9 {a0:ab} {a1:Int} {a2:Bool} {a3:List aA} {r:ab} (H:iL a0 a1 a2 a3=some r):FnV Tryz.prog 284 (nS a0) [tP 200,tI a1,tB a2,.v (.c (.d true (.l (a3.map eb))))] (nS r) (.tup []) []:=by
 refine fV Tryz.func284 Tryz.ntmps284 ?_
 obtain⟨v26,Hj,H⟩:=ob H
 refine jB ⟨[],(nS v26),210⟩ ?_ ?_
 ·refine iT Hj (fun q=>⟨[(0,tP 200),(1,tI a1),(2,tB a2),(3,.v (.c (.d true (.l (a3.map eb))))),(8,tI q.1)],(nS q.2),210⟩) ?_
  rintro⟨v1,v12⟩ o H
  try dsimp only
  refine wI ?_
  refine cC H ?_ ?_<;>intro H
  ·refine zI (List.range 14) ?_
   obtain⟨x27,hx27,H⟩:=ob H
   refine zA (xdT (enc:=eb) hx27) ?_
   obtain⟨x28,hx28,H⟩:=ob H
   refine zA (xdT (enc:=eb) hx28) ?_
   obtain⟨r29,q29,H⟩:=ob H
   refine zB bO (f8 rfl (cwu m0 [] 210 (oQ q29))) bO ?_
   cases H
   refine dU ?_
   exact wo
  ·cases H
   refine dT (fun hq=>?_)
   cases hq
   refine wI ?_
   exact wo
 cases H
 exact sW
def oN (a0:ag) (a1:aj):Option bY:=
 Vj (gh a0) fun r1=>Vj (jI a1) fun r2=>some {cY with aJ:=r1,dX:=r2}
theorem vW {a0:ag} {a1:aj} {r:bY} (H:oN a0 a1=some r):Fn Tryz.prog 324 [.agg (bZ a0),.agg (dB a1)] [.agg (qM [.o,.o,.o,.o,.o,.o] (ci r))]:=by
 refine fI Tryz.func324 Tryz.ntmps324 ?_
 refine zI (List.range 8) ?_
 obtain⟨r1,q1,H⟩:=ob H
 refine zA (ca (hF:=fX q1)) ?_
 obtain⟨r2,q2,H⟩:=ob H
 refine zA (ca (hF:=kf q2)) ?_
 refine wA (spx 100336) ?_
 cases H
 refine cG (wB 7 (([]:List aA).length)) ?_
 refine cG (wB 8 (([]:List ao).length)) ?_
 exact ah
def nD (a0:aj) (a1:dh):Option (aj×dh):=
 Vj (eE a0 a1) fun r1=>bif !r1 then(Vj (jI a0) fun r2=>some (r2,a1)) else(Vj (EN a0 a1.au a1.er) fun r3=>some (r3.1,(⟨a1.au,WR (a1.cL-a1.er),0⟩:dh)))
theorem Bk {a0:aj} {a1:dh} {r:aj×dh} (H:nD a0 a1=some r):Fn Tryz.prog 325 [.agg (dB a0),.agg (ue a1)] [.agg (qM [.o] (cS r.1)),.agg (qM [] (oZ r.2))]:=by
 refine fI Tryz.func325 Tryz.ntmps325 ?_
 obtain⟨r1,q1,H⟩:=ob H
 refine nA (ca (hF:=gQ q1)) ?_
 refine cC H ?_ ?_<;>intro H
 ·refine zI (List.range 5) ?_
  obtain⟨r2,q2,H⟩:=ob H
  refine zA (ca (hF:=kf q2)) ?_
  refine wA (spx 100346) ?_
  refine wA (spx 100345) ?_
  cases H
  exact ah
 ·obtain⟨r3,q3,H⟩:=ob H
  refine nA (ca (hF:=Ot q3)) ?_
  refine zI (List.range 11) ?_
  refine wA (spx 100348) ?_
  refine wA (spx 100347) ?_
  cases H
  exact ah
def kU (a0:ag) (a1:Int):Option Int:=
 Vj (kT a0) fun r1=>Vj (hO a0.bW) fun r2=>Vj (Bf 0 (WR ((WR (r1+a1))-r2))) fun r3=>some r3
theorem tD {a0:ag} {a1:Int} {r:Int} (H:kU a0 a1=some r):Fn Tryz.prog 352 [.agg (bZ a0),aI a1] [.c (.d (.i .i64 r))]:=by
 refine fI Tryz.func352 Tryz.ntmps352 ?_
 refine dI ?_
 obtain⟨r1,q1,H⟩:=ob H
 refine dA (ca (hF:=uT q1)) ?_
 obtain⟨r2,q2,H⟩:=ob H
 refine dA (ca (hF:=pm q2)) ?_
 obtain⟨r3,q3,H⟩:=ob H
 refine dA (ca (hF:=ym q3)) ?_
 refine wI ?_
 cases H
 exact ah
end Go.AM
