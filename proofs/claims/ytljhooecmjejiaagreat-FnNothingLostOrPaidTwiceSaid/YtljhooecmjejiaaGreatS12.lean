/- A part. -/
import Derived.Test.YtljhooecmjejiaaGreatS6
set_option linter.unusedVariables false
open Option renaming bind→Un
namespace Go.AM
open Go.Proofs
attribute [local irreducible] AWN NS AWO AWR AWC DR cZ eE
set_option maxRecDepth 100000
set_option maxHeartbeats 40000000
def tO (a0:aH):Option (Int×aH):=
 Un (gb a0 10) fun r1=>bif r1.1 then(Un (u6 r1.2 [-1,2147483647,2147483648]) fun r2=>some (r2.1,r2.2)) else(Un (gb r1.2 4) fun r3=>bif r3.1 then(Un (u6 r3.2 [0,1,2147483646]) fun r4=>some (r4.1,r4.2)) else(Un (bZ r3.2 1000000) fun r5=>Un (bZ r5.2 2000) fun r6=>some (WR (r5.1*r6.1),r6.2)))
theorem xE {a0:aH} {r:Int×aH} (H:tO a0=some r):FnW Tryz.prog 318 (.var 143 (kM [.f] (bI a0))) [tP 200] (.var 143 (kM [.f] (bI r.2))) [.c (.d (.i .i64 r.1))]:=by
 refine fW Tryz.func318 Tryz.ntmps318 ?_
 obtain⟨r1,q1,H⟩:=ob H
 refine sA (cw (o:=200) (f7 q1)) ?_
 refine cC H ?_ ?_<;>intro H
 ·obtain⟨r2,q2,H⟩:=ob H
  refine bR (aT (o:=210)) ?_
  refine bR (cA (k:=6)) ?_
  refine sA (cw (o:=200) (wu q2)) ?_
  cases H
  exact eB
 ·obtain⟨r3,q3,H⟩:=ob H
  refine sA (cw (o:=200) (f7 q3)) ?_
  refine cC H ?_ ?_<;>intro H
  ·obtain⟨r4,q4,H⟩:=ob H
   refine bR (aT (o:=210)) ?_
   refine bR (cA (k:=11)) ?_
   refine sA (cw (o:=200) (wu q4)) ?_
   cases H
   exact eB
  ·obtain⟨r5,q5,H⟩:=ob H
   refine sA (cw (o:=200) (bL q5)) ?_
   obtain⟨r6,q6,H⟩:=ob H
   refine sA (cw (o:=200) (bL q6)) ?_
   cases H
   exact eB
def D1 (a0:aH):Option (Int×aH):=
 Un (gb a0 6) fun r1=>bif r1.1 then(Un (u6 r1.2 [0,999999,1000000,-1,998999]) fun r2=>some (r2.1,r2.2)) else(Un (bZ r1.2 40) fun r3=>some (r3.1,r3.2))
theorem Nr {a0:aH} {r:Int×aH} (H:D1 a0=some r):FnW Tryz.prog 342 (.var 143 (kM [.f] (bI a0))) [tP 200] (.var 143 (kM [.f] (bI r.2))) [.c (.d (.i .i64 r.1))]:=by
 refine fW Tryz.func342 Tryz.ntmps342 ?_
 obtain⟨r1,q1,H⟩:=ob H
 refine sA (cw (o:=200) (f7 q1)) ?_
 refine cC H ?_ ?_<;>intro H
 ·obtain⟨r2,q2,H⟩:=ob H
  refine bR (aT (o:=210)) ?_
  refine bR (cA (k:=6)) ?_
  refine sA (cw (o:=200) (wu q2)) ?_
  cases H
  exact eB
 ·obtain⟨r3,q3,H⟩:=ob H
  refine sA (cw (o:=200) (bL q3)) ?_
  cases H
  exact eB
def ku (a0:ay):Option Bool:=
 Un (cz a0.bg 2 3) fun r1=>Un (bif r1 then(Un (fD a0.aJ) fun r3=>some (!r3)) else(some false)) fun(v2:Bool)=>bif v2 then(some false) else(Un (kA a0.dq) fun r4=>Un (bif r4 then(Un (cz a0.bg 0 3) fun r6=>bif r6 then(Un (cz a0.aU 0 5) fun r7=>bif r7 then(Un (cz a0.aa 0 999999) fun r8=>bif r8 then(Un (cz a0.aR 0 999999) fun r9=>bif r9 then(Un (cz a0.aJ 0 2147483646) fun r10=>bif r10 then(Un (cz a0.fU 0 3) fun r11=>bif r11 then(Un (gH a0.bi) fun r12=>some r12) else(some false)) else(some false)) else(some false)) else(some false)) else(some false)) else(some false)) else(some false)) fun(v5:Bool)=>some v5)
theorem xm {a0:ay} {r:Bool} (H:ku a0=some r):Fn Tryz.prog 186 [.agg (c7 a0)] [.c (.d (.b r))]:=by
 refine fI Tryz.func186 Tryz.ntmps186 ?_
 obtain⟨r1,q1,H⟩:=ob H
 refine nA (ca (hF:=bK q1)) ?_
 obtain⟨v2,Hj,H⟩:=ob H
 refine jR ⟨[(1,tP 0),(11,tB v2)],[(0,.var 45 (kM [.f,.f] (df a0)))],1⟩ ?_ ?_
 ·have H:=Hj
  refine gC H ?_ ?_<;>intro H
  ·obtain⟨r3,q3,H⟩:=ob H
   refine nG (ca (hF:=gj q3)) ?_
   cases H
   exact wo
  ·cases H
   exact wo
 refine cC H ?_ ?_<;>intro H
 ·cases H
  exact ah
 ·obtain⟨r4,q4,H⟩:=ob H
  refine nA (ca (hF:=sN q4)) ?_
  obtain⟨v5,Hj,H⟩:=ob H
  refine jR ⟨[(2,tB v5)],[],0⟩ ?_ ?_
  ·have H:=Hj
   refine gC H ?_ ?_<;>intro H
   ·obtain⟨r6,q6,H⟩:=ob H
    refine nG (ca (hF:=bK q6)) ?_
    refine gC H ?_ ?_<;>intro H
    ·obtain⟨r7,q7,H⟩:=ob H
     refine nG (ca (hF:=bK q7)) ?_
     refine gC H ?_ ?_<;>intro H
     ·obtain⟨r8,q8,H⟩:=ob H
      refine nG (ca (hF:=bK q8)) ?_
      refine gC H ?_ ?_<;>intro H
      ·obtain⟨r9,q9,H⟩:=ob H
       refine nG (ca (hF:=bK q9)) ?_
       refine gC H ?_ ?_<;>intro H
       ·obtain⟨r10,q10,H⟩:=ob H
        refine nG (ca (hF:=bK q10)) ?_
        refine gC H ?_ ?_<;>intro H
        ·obtain⟨r11,q11,H⟩:=ob H
         refine nG (ca (hF:=bK q11)) ?_
         refine gC H ?_ ?_<;>intro H
         ·obtain⟨r12,q12,H⟩:=ob H
          refine nG (ca (hF:=n0 q12)) ?_
          cases H
          exact wo
         ·cases H
          exact wo
        ·cases H
         exact wo
       ·cases H
        exact wo
      ·cases H
       exact wo
     ·cases H
      exact wo
    ·cases H
     exact wo
   ·cases H
    exact wo
  cases H
  exact ah
def ij (a0:ag):Int→Option (cB (Int) (Bool))
 |v5=>bif ltB v5 ((a0.an.aw.length:Nat):Int) then(Un (ix a0.an.aw v5) fun x6=>Un (ix a0.ao (WR (x6.cO-1))) fun x7=>Un (lY x6.aN x7.aN) fun r8=>bif !r8 then(dn (some false)) else(some (.next (WR (v5+1))))) else(dn (Un (lB a0.an.aw) fun r9=>Un (g9 a0.bO) fun r10=>some (leB r9 r10)))
def lO (a0:ag):Int→Option (cB (Int) (Bool))
 |v1=>bif ltB v1 ((a0.ao.length:Nat):Int) then(Un (ix a0.ao v1) fun x2=>bif ltB 60 ((x2.aN.length:Nat):Int) then(dn (some false)) else(some (.next (WR (v1+1))))) else(dn (Un (bif ltB 24 ((a0.ao.length:Nat):Int) then(some true) else(Un (iD a0.an) fun r4=>bif !r4 then(some true) else(some (ltB (WR (((a0.ao.length:Nat):Int)+1)) a0.an.bj)))) fun(v3:Bool)=>bif v3 then(some false) else(iter (ij a0) FU 0)))
def qU (a0:ag):Option Bool:=
 iter (lO a0) FU 0
theorem DW {a0:ag} {r:Bool} (H:qU a0=some r):Fn Tryz.prog 248 [.agg (bS a0)] [.c (.d (.b r))]:=by
 refine fI Tryz.func248 Tryz.ntmps248 ?_
 refine iT H (fun q=>⟨[(1,tP 0),(3,tI q)],[(0,.var 60 (kM [.f,.f,.f] (cy a0)))],1⟩) ?_
 rintro v1 o H
 try dsimp only
 refine wI ?_
 refine cC H ?_ ?_<;>intro H
 ·obtain⟨x2,hx2,H⟩:=ob H
  refine nA (xdT (enc:=cj) hx2) ?_
  refine cC H ?_ ?_<;>intro H
  ·obtain⟨r0,Hd,rfl⟩:=dnE H
   refine lT (fun hq=>?_)
   have H:=Hd.trans (congrArg some hq)
   refine wI ?_
   cases H
   exact ah
  ·cases H
   refine ee ?_
   exact wo
 ·obtain⟨r0,Hd,rfl⟩:=dnE H
  refine ed (fun hq=>?_)
  have H:=Hd.trans (congrArg some hq)
  refine wI ?_
  obtain⟨v3,Hj,H⟩:=ob H
  refine jR ⟨[(1,tP 0),(40,tB v3)],[(0,.var 60 (kM [.f,.f,.f] (cy a0)))],1⟩ ?_ ?_
  ·have H:=Hj
   refine gC H ?_ ?_<;>intro H
   ·cases H
    exact wo
   ·obtain⟨r4,q4,H⟩:=ob H
    refine nG (ca (hF:=ly q4)) ?_
    refine gC H ?_ ?_<;>intro H
    ·cases H
     exact wo
    ·cases H
     exact wo
  refine cC H ?_ ?_<;>intro H
  ·cases H
   exact ah
  ·refine iT H (fun q=>⟨[(1,tP 0),(4,tI q)],[(0,.var 60 (kM [.f,.f,.f] (cy a0)))],1⟩) ?_
   rintro v5 o H
   try dsimp only
   refine wI ?_
   refine cC H ?_ ?_<;>intro H
   ·obtain⟨x6,hx6,H⟩:=ob H
    refine nA (xdT (enc:=aE) hx6) ?_
    refine dI ?_
    obtain⟨x7,hx7,H⟩:=ob H
    refine dA (xdT (enc:=cj) hx7) ?_
    obtain⟨r8,q8,H⟩:=ob H
    refine dA (ca (hF:=ut q8)) ?_
    refine wI ?_
    refine cC H ?_ ?_<;>intro H
    ·obtain⟨r0,Hd,rfl⟩:=dnE H
     refine lT (fun hq=>?_)
     have H:=Hd.trans (congrArg some hq)
     refine wI ?_
     cases H
     exact ah
    ·cases H
     refine ee ?_
     exact wo
   ·obtain⟨r0,Hd,rfl⟩:=dnE H
    refine ed (fun hq=>?_)
    have H:=Hd.trans (congrArg some hq)
    refine wI ?_
    refine dI ?_
    obtain⟨r9,q9,H⟩:=ob H
    refine dA (ca (hF:=o8 q9)) ?_
    obtain⟨r10,q10,H⟩:=ob H
    refine dA (ca (hF:=oX q10)) ?_
    refine wI ?_
    cases H
    exact ah
def kU (a0:bJ) (a1:bJ):Option Bool:=
 Un (bif eqB a0.a9 a1.a9 then(bif booB a0.eb a1.eb then(bif booB a0.di a1.di then(bif eqB a0.aU a1.aU then(bif(eqB a0.aV.aP a1.aV.aP&&(eqB a0.aV.aU a1.aV.aU&&(eqB a0.aV.aa a1.aV.aa&&(eqB a0.aV.aR a1.aV.aR&&(eqB a0.aV.bM a1.aV.bM&&(eqB a0.aV.bQ.eJ a1.aV.bQ.eJ&&(eqB a0.aV.bQ.gx a1.aV.bQ.gx&&(eqB a0.aV.bQ.im a1.aV.bQ.im&&(eqB a0.aV.bQ.ug a1.aV.bQ.ug&&(eqB a0.aV.bQ.eP a1.aV.bQ.eP&&(eqB a0.aV.im a1.aV.im&&true))))))))))) then(Un (oO a0.b7 a1.b7) fun r2=>some r2) else(some false)) else(some false)) else(some false)) else(some false)) else(some false)) fun(v1:Bool)=>some v1
theorem xC {a0:bJ} {a1:bJ} {r:Bool} (H:kU a0 a1=some r):Fn Tryz.prog 319 [.agg (er a0),.agg (er a1)] [.c (.d (.b r))]:=by
 refine fI Tryz.func319 Tryz.ntmps319 ?_
 obtain⟨v1,Hj,H⟩:=ob H
 refine jR ⟨[(4,tB v1)],[],0⟩ ?_ ?_
 ·have H:=Hj
  refine gC H ?_ ?_<;>intro H
  ·refine gC H ?_ ?_<;>intro H
   ·refine gC H ?_ ?_<;>intro H
    ·refine gC H ?_ ?_<;>intro H
     ·refine gC H ?_ ?_<;>intro H
      ·obtain⟨r2,q2,H⟩:=ob H
       refine nG (ca (hF:=Bk q2)) ?_
       cases H
       exact wo
      ·cases H
       exact wo
     ·cases H
      exact wo
    ·cases H
     exact wo
   ·cases H
    exact wo
  ·cases H
   exact wo
 cases H
 exact ah
def iH (a1:Int) (a2:Bool) (a3:List az):(Int×ab)→Option (cB (Int×ab) (ab))
 |(v1,v12)=>bif ltB v1 ((a3.length:Nat):Int) then(Un (ix a3 v1) fun x27=>Un (ix a3 v1) fun x28=>Un (eM v12 (⟨a1,a2,false,x27.aU,x28,d8⟩:bJ)) fun r29=>some (.next (WR (v1+1),r29))) else(some (.done v12))
def iG (a0:ab) (a1:Int) (a2:Bool) (a3:List az):Option ab:=
 Un (iter (iH a1 a2 a3) FU (0,a0)) fun(v26:ab)=>some v26
theorem pM {a0:ab} {a1:Int} {a2:Bool} {a3:List az} {r:ab} (H:iG a0 a1 a2 a3=some r):FnV Tryz.prog 284 (nS a0) [tP 200,tI a1,tB a2,.v (.c (.d true (.l (a3.map d5))))] (nS r) (.tup []) []:=by
 refine fV Tryz.func284 Tryz.ntmps284 ?_
 obtain⟨v26,Hj,H⟩:=ob H
 refine jB ⟨[],(nS v26),210⟩ ?_ ?_
 ·refine iT Hj (fun q=>⟨[(0,tP 200),(1,tI a1),(2,tB a2),(3,.v (.c (.d true (.l (a3.map d5))))),(8,tI q.1)],(nS q.2),210⟩) ?_
  rintro⟨v1,v12⟩ o H
  try dsimp only
  refine wI ?_
  refine cC H ?_ ?_<;>intro H
  ·refine zI (List.range 14) ?_
   obtain⟨x27,hx27,H⟩:=ob H
   refine zA (xdT (enc:=d5) hx27) ?_
   obtain⟨x28,hx28,H⟩:=ob H
   refine zA (xdT (enc:=d5) hx28) ?_
   obtain⟨r29,q29,H⟩:=ob H
   refine zB bT (gq rfl (cwu m0 [] 210 (ow q29))) bT ?_
   cases H
   refine ee ?_
   exact wo
  ·cases H
   refine ed (fun hq=>?_)
   cases hq
   refine wI ?_
   exact wo
 cases H
 exact sb
def ot (a0:ag) (a1:aj):Option bX:=
 Un (ge a0) fun r1=>Un (jq a1) fun r2=>some {cU with aF:=r1,dQ:=r2}
theorem u9 {a0:ag} {a1:aj} {r:bX} (H:ot a0 a1=some r):Fn Tryz.prog 324 [.agg (bS a0),.agg (da a1)] [.agg (qM [.o,.o,.o,.o,.o,.o] (b9 r))]:=by
 refine fI Tryz.func324 Tryz.ntmps324 ?_
 refine zI (List.range 8) ?_
 obtain⟨r1,q1,H⟩:=ob H
 refine zA (ca (hF:=fQ q1)) ?_
 obtain⟨r2,q2,H⟩:=ob H
 refine zA (ca (hF:=jL q2)) ?_
 refine wA (spx 100336) ?_
 cases H
 refine cG (wB 7 (([]:List az).length)) ?_
 refine cG (wB 8 (([]:List av).length)) ?_
 exact ah
def nh (a0:aj) (a1:cY):Option (aj×cY):=
 Un (eu a0 a1) fun r1=>bif !r1 then(Un (jq a0) fun r2=>some (r2,a1)) else(Un (DC a0 a1.au a1.dX) fun r3=>some (r3.1,(⟨a1.au,WR (a1.cE-a1.dX),0⟩:cY)))
theorem Am {a0:aj} {a1:cY} {r:aj×cY} (H:nh a0 a1=some r):Fn Tryz.prog 325 [.agg (da a0),.agg (tu a1)] [.agg (qM [.o] (cM r.1)),.agg (qM [] (oG r.2))]:=by
 refine fI Tryz.func325 Tryz.ntmps325 ?_
 obtain⟨r1,q1,H⟩:=ob H
 refine nA (ca (hF:=gR q1)) ?_
 refine cC H ?_ ?_<;>intro H
 ·refine zI (List.range 5) ?_
  obtain⟨r2,q2,H⟩:=ob H
  refine zA (ca (hF:=jL q2)) ?_
  refine wA (spx 100346) ?_
  refine wA (spx 100345) ?_
  cases H
  exact ah
 ·obtain⟨r3,q3,H⟩:=ob H
  refine nA (ca (hF:=Nc q3)) ?_
  refine zI (List.range 11) ?_
  refine wA (spx 100348) ?_
  refine wA (spx 100347) ?_
  cases H
  exact ah
end Go.AM
