/- A part. -/
import Derived.Test.YtljhooecmjejiaaGreatS0
import Derived.Test.YtljhooecmjejiaaGreatS1
import Derived.Test.YtljhooecmjejiaaGreatS2
set_option linter.unusedVariables false
open Option renaming bind→Un
namespace Go.AM
open Go.Proofs
attribute [local irreducible] AWN NS AWO AWR AWC DR cZ eE
set_option maxRecDepth 100000
set_option maxHeartbeats 40000000
def iv (a0:a8):Int→Option (cB (Int) (Bool))
 |v1=>bif ltB v1 ((a0.aw.length:Nat):Int) then(Un (ix a0.aw v1) fun x2=>Un (bif !eqB x2.cO (WR ((WR (a0.bj-((a0.aw.length:Nat):Int)))+v1)) then(some true) else(Un (ix a0.aw v1) fun x4=>some (ltB 60 ((x4.aN.length:Nat):Int)))) fun(v3:Bool)=>bif v3 then(dn (some false)) else(some (.next (WR (v1+1))))) else(dn (Un (cz a0.bj 1 100000) fun r5=>Un (bif r5 then(bif leB ((a0.aw.length:Nat):Int) 8 then(some (leB 1 (WR (a0.bj-((a0.aw.length:Nat):Int))))) else(some false)) else(some false)) fun(v6:Bool)=>some v6))
def iD (a0:a8):Option Bool:=
 iter (iv a0) FU 0
theorem ly {a0:a8} {r:Bool} (H:iD a0=some r):Fn Tryz.prog 295 [.agg (ka a0)] [.c (.d (.b r))]:=by
 refine fI Tryz.func295 Tryz.ntmps295 ?_
 refine iT H (fun q=>⟨[(1,tP 0),(3,tI q)],[(0,.var 56 (kM [.f] (dT a0)))],1⟩) ?_
 rintro v1 o H
 try dsimp only
 refine wI ?_
 refine cC H ?_ ?_<;>intro H
 ·refine dI ?_
  obtain⟨x2,hx2,H⟩:=ob H
  refine dA (xdT (enc:=aE) hx2) ?_
  obtain⟨v3,Hj,H⟩:=ob H
  refine fR ⟨[(1,tP 0),(3,tI v1),(35,tB v3)],[(0,.var 56 (kM [.f] (dT a0)))],1⟩ ?_ ?_
  ·have H:=Hj
   refine wI ?_
   refine dC H ?_ ?_<;>intro H
   ·refine wI ?_
    cases H
    exact wo
   ·obtain⟨x4,hx4,H⟩:=ob H
    refine dG (xdT (enc:=aE) hx4) ?_
    refine wI ?_
    cases H
    exact wo
  refine wI ?_
  refine cC H ?_ ?_<;>intro H
  ·refine wI ?_
   obtain⟨r0,Hd,rfl⟩:=dnE H
   refine lT (fun hq=>?_)
   have H:=Hd.trans (congrArg some hq)
   refine wI ?_
   cases H
   exact ah
  ·refine wI ?_
   cases H
   refine ee ?_
   exact wo
 ·obtain⟨r0,Hd,rfl⟩:=dnE H
  refine ed (fun hq=>?_)
  have H:=Hd.trans (congrArg some hq)
  refine wI ?_
  obtain⟨r5,q5,H⟩:=ob H
  refine nA (ca (hF:=bK q5)) ?_
  obtain⟨v6,Hj,H⟩:=ob H
  refine jR ⟨[(2,tB v6)],[],0⟩ ?_ ?_
  ·have H:=Hj
   refine gC H ?_ ?_<;>intro H
   ·refine gC H ?_ ?_<;>intro H
    ·cases H
     exact wo
    ·cases H
     exact wo
   ·cases H
    exact wo
  cases H
  exact ah
def gQ (a0:aj):Int→Option (cB (Int) (Bool))
 |v1=>bif ltB v1 ((a0.aA.length:Nat):Int) then(Un (ix a0.aA v1) fun x2=>Un (bif ltB x2.au 0 then(some true) else(Un (ix a0.aA v1) fun x4=>Un (cz x4.ea 1 100000) fun r5=>bif !r5 then(some true) else(bif ltB 0 v1 then(Un (ix a0.aA (WR (v1-1))) fun x6=>Un (ix a0.aA v1) fun x7=>some (leB x7.au x6.au)) else(some false)))) fun(v3:Bool)=>bif v3 then(dn (some false)) else(some (.next (WR (v1+1))))) else(dn (Un (cz a0.eL 0 100000) fun r8=>Un (bif r8 then(Un (cz a0.bP 0 a0.eL) fun r10=>bif r10 then(Un (cz a0.d4 0 a0.eL) fun r11=>bif r11 then(bif leB ((a0.aA.length:Nat):Int) 8 then(Un (kN a0) fun r12=>some (eqB (WR ((WR (a0.bP+a0.d4))+r12)) a0.eL)) else(some false)) else(some false)) else(some false)) else(some false)) fun(v9:Bool)=>some v9))
def fo (a0:aj):Option Bool:=
 iter (gQ a0) FU 0
theorem iu {a0:aj} {r:Bool} (H:fo a0=some r):Fn Tryz.prog 188 [.agg (da a0)] [.c (.d (.b r))]:=by
 refine fI Tryz.func188 Tryz.ntmps188 ?_
 refine iT H (fun q=>⟨[(1,tP 0),(3,tI q)],[(0,.var 66 (kM [.f] (cM a0)))],1⟩) ?_
 rintro v1 o H
 try dsimp only
 refine wI ?_
 refine cC H ?_ ?_<;>intro H
 ·refine dI ?_
  obtain⟨x2,hx2,H⟩:=ob H
  refine dA (xdT (enc:=bm) hx2) ?_
  obtain⟨v3,Hj,H⟩:=ob H
  refine fR ⟨[(1,tP 0),(3,tI v1),(47,tB v3)],[(0,.var 66 (kM [.f] (cM a0)))],1⟩ ?_ ?_
  ·have H:=Hj
   refine wI ?_
   refine dC H ?_ ?_<;>intro H
   ·refine wI ?_
    cases H
    exact wo
   ·obtain⟨x4,hx4,H⟩:=ob H
    refine dG (xdT (enc:=bm) hx4) ?_
    obtain⟨r5,q5,H⟩:=ob H
    refine dG (ca (hF:=bK q5)) ?_
    refine dC H ?_ ?_<;>intro H
    ·refine wI ?_
     cases H
     exact wo
    ·refine dC H ?_ ?_<;>intro H
     ·obtain⟨x6,hx6,H⟩:=ob H
      refine dG (xdT (enc:=bm) hx6) ?_
      obtain⟨x7,hx7,H⟩:=ob H
      refine dG (xdT (enc:=bm) hx7) ?_
      refine wI ?_
      cases H
      exact wo
     ·refine wI ?_
      cases H
      exact wo
  refine wI ?_
  refine cC H ?_ ?_<;>intro H
  ·refine wI ?_
   obtain⟨r0,Hd,rfl⟩:=dnE H
   refine lT (fun hq=>?_)
   have H:=Hd.trans (congrArg some hq)
   refine wI ?_
   cases H
   exact ah
  ·refine wI ?_
   cases H
   refine ee ?_
   exact wo
 ·obtain⟨r0,Hd,rfl⟩:=dnE H
  refine ed (fun hq=>?_)
  have H:=Hd.trans (congrArg some hq)
  refine wI ?_
  refine dI ?_
  obtain⟨r8,q8,H⟩:=ob H
  refine dA (ca (hF:=bK q8)) ?_
  obtain⟨v9,Hj,H⟩:=ob H
  refine fR ⟨[(2,tB v9)],[],0⟩ ?_ ?_
  ·have H:=Hj
   refine wI ?_
   refine dC H ?_ ?_<;>intro H
   ·obtain⟨r10,q10,H⟩:=ob H
    refine dG (ca (hF:=bK q10)) ?_
    refine dC H ?_ ?_<;>intro H
    ·obtain⟨r11,q11,H⟩:=ob H
     refine dG (ca (hF:=bK q11)) ?_
     refine dC H ?_ ?_<;>intro H
     ·refine dC H ?_ ?_<;>intro H
      ·obtain⟨r12,q12,H⟩:=ob H
       refine dG (ca (hF:=xv q12)) ?_
       refine wI ?_
       cases H
       exact wo
      ·refine wI ?_
       cases H
       exact wo
     ·refine wI ?_
      cases H
      exact wo
    ·refine wI ?_
     cases H
     exact wo
   ·refine wI ?_
    cases H
    exact wo
  refine wI ?_
  cases H
  exact ah
def kK (a0:aj) (a1:Int):Option Int:=
 Un (mg a0 a1) fun r1=>bif ltB r1 0 then(some 0) else(Un (ix a0.aA r1) fun x2=>some x2.ea)
theorem sT {a0:aj} {a1:Int} {r:Int} (H:kK a0 a1=some r):Fn Tryz.prog 250 [.agg (da a0),aI a1] [.c (.d (.i .i64 r))]:=by
 refine fI Tryz.func250 Tryz.ntmps250 ?_
 obtain⟨r1,q1,H⟩:=ob H
 refine nA (ca (hF:=u5 q1)) ?_
 refine cC H ?_ ?_<;>intro H
 ·cases H
  exact ah
 ·obtain⟨x2,hx2,H⟩:=ob H
  refine nA (xdT (enc:=bm) hx2) ?_
  cases H
  exact ah
def gV (a0:ab) (a1:bJ):Option Bool:=
 Un (bif ltB ((a0.aQ.length:Nat):Int) 200 then(Un (cz a1.a9 0 (WR (((a0.ai.length:Nat):Int)-1))) fun r2=>bif r2 then(Un (cz a1.aU 0 (WR (((a0.dW.aX.length:Nat):Int)-1))) fun r3=>some r3) else(some false)) else(some false)) fun(v1:Bool)=>some v1
theorem s9 {a0:ab} {a1:bJ} {r:Bool} (H:gV a0 a1=some r):Fn Tryz.prog 233 [.agg (gD a0),.agg (er a1)] [.c (.d (.b r))]:=by
 refine fI Tryz.func233 Tryz.ntmps233 ?_
 obtain⟨v1,Hj,H⟩:=ob H
 refine jR ⟨[(4,tB v1)],[],0⟩ ?_ ?_
 ·have H:=Hj
  refine gC H ?_ ?_<;>intro H
  ·obtain⟨r2,q2,H⟩:=ob H
   refine nG (ca (hF:=bK q2)) ?_
   refine gC H ?_ ?_<;>intro H
   ·obtain⟨r3,q3,H⟩:=ob H
    refine nG (ca (hF:=bK q3)) ?_
    cases H
    exact wo
   ·cases H
    exact wo
  ·cases H
   exact wo
 cases H
 exact ah
def pJ (a0:bG) (a1:bG):Option Bool:=
 Un (bif eqB a0.c9 a1.c9 then(bif eqB a0.fx a1.fx then(bif eqB a0.im a1.im then(Un (lY a0.aN a1.aN) fun r2=>some r2) else(some false)) else(some false)) else(some false)) fun(v1:Bool)=>some v1
theorem yt {a0:bG} {a1:bG} {r:Bool} (H:pJ a0 a1=some r):Fn Tryz.prog 364 [.agg (fG a0),.agg (fG a1)] [.c (.d (.b r))]:=by
 refine fI Tryz.func364 Tryz.ntmps364 ?_
 obtain⟨v1,Hj,H⟩:=ob H
 refine jR ⟨[(4,tB v1)],[],0⟩ ?_ ?_
 ·have H:=Hj
  refine gC H ?_ ?_<;>intro H
  ·refine gC H ?_ ?_<;>intro H
   ·refine gC H ?_ ?_<;>intro H
    ·obtain⟨r2,q2,H⟩:=ob H
     refine nG (ca (hF:=ut q2)) ?_
     cases H
     exact wo
    ·cases H
     exact wo
   ·cases H
    exact wo
  ·cases H
   exact wo
 cases H
 exact ah
def fr (a0:aK) (a2:Int):(Int×List Int)→Option (cB (Int×List Int) (List Int))
 |(v3,v4)=>Un (bif ltB v3 ((a0.aX.length:Nat):Int) then(Un (cz a2 1 4) fun r9=>some r9) else(some false)) fun(v8:Bool)=>bif v8 then(bif cS 8 (v4++[v3]).length then(some (.next (WR (v3+1),(v4++[v3])))) else none) else(some (.done v4))
def nf (a0:aK) (a1:Int) (a2:Int):Option (List Int):=
 Un (mZ a0 a1) fun r1=>Un (bif eqB a2 1 then(some (ltB 0 ((r1.length:Nat):Int))) else(some false)) fun(v2:Bool)=>bif v2 then(some r1) else(Un (iter (fr a0 a2) FU (0,([]:List Int))) fun(v7:List Int)=>some v7)
theorem Aj {a0:aK} {a1:Int} {a2:Int} {r:List Int} (H:nf a0 a1 a2=some r):Fn Tryz.prog 367 [.agg (lf a0),aI a1,aI a2] [.c (.own 3 1 (r.map eI) r.length)]:=by
 refine fI Tryz.func367 Tryz.ntmps367 ?_
 obtain⟨r1,q1,H⟩:=ob H
 refine nA (ca (hF:=Ad q1)) ?_
 obtain⟨v2,Hj,H⟩:=ob H
 refine jR ⟨[(2,tI a2),(3,tP 0),(7,.v (.c (.w 1 r1.length))),(19,tB v2)],[(0,.var 26 [.d false (.l (a0.aX.map dP))]),(1,w3 r1)],2⟩ ?_ ?_
 ·have H:=Hj
  refine gC H ?_ ?_<;>intro H
  ·cases H
   exact wo
  ·cases H
   exact wo
 refine cC H ?_ ?_<;>intro H
 ·cases H
  exact ah
 ·obtain⟨v7,Hj,H⟩:=ob H
  refine jB ⟨[(8,.v (.c (.w 2 v7.length)))],[(2,w3 v7)],3⟩ ?_ ?_
  ·refine iT Hj (fun q=>⟨[(2,tI a2),(3,tP 0),(8,.v (.c (.w 2 q.2.length))),(9,tI q.1)],[(0,.var 26 [.d false (.l (a0.aX.map dP))]),(2,w3 q.2)],3⟩) ?_
   rintro⟨v3,v4⟩ o H
   try dsimp only
   refine wI ?_
   obtain⟨v8,Hj,H⟩:=ob H
   refine jR ⟨[(2,tI a2),(3,tP 0),(8,.v (.c (.w 2 v4.length))),(9,tI v3),(30,tB v8)],[(0,.var 26 [.d false (.l (a0.aX.map dP))]),(2,w3 v4)],3⟩ ?_ ?_
   ·have H:=Hj
    refine gC H ?_ ?_<;>intro H
    ·obtain⟨r9,q9,H⟩:=ob H
     refine nG (ca (hF:=bK q9)) ?_
     cases H
     exact wo
    ·cases H
     exact wo
   refine cC H ?_ ?_<;>intro H
   ·obtain⟨h,H⟩:=rq H
    refine sA (apT (enc:=eI) (ys:=v4) (zs:=[v3]) h) ?_
    cases H
    refine ee ?_
    exact wo
   ·cases H
    refine ed (fun hq=>?_)
    cases hq
    refine wI ?_
    exact wo
  cases H
  exact ah
def kC (a0:ag):Option Int:=
 Un (lB a0.an.aw) fun r1=>some r1
theorem uc {a0:ag} {r:Int} (H:kC a0=some r):Fn Tryz.prog 369 [.agg (bS a0)] [.c (.d (.i .i64 r))]:=by
 refine fI Tryz.func369 Tryz.ntmps369 ?_
 obtain⟨r1,q1,H⟩:=ob H
 refine nA (ca (hF:=o8 q1)) ?_
 cases H
 exact ah
def qa (a0:ab) (a1:Int):Option Bool:=
 Un (Ai ((a0.dW.aX.length:Nat):Int) 6) fun r1=>Un (cz a1 0 (WR (r1-1))) fun r2=>Un (bif r2 then(bif leB 0 a1 then(some (eqB (wU .i64 (A5 .i64 a0.dh a1) 1) 0)) else none) else(some false)) fun(v3:Bool)=>some v3
theorem xS {a0:ab} {a1:Int} {r:Bool} (H:qa a0 a1=some r):Fn Tryz.prog 289 [.agg (gD a0),aI a1] [.c (.d (.b r))]:=by
 refine fI Tryz.func289 Tryz.ntmps289 ?_
 obtain⟨r1,q1,H⟩:=ob H
 refine nA (ca (hF:=xp q1)) ?_
 obtain⟨r2,q2,H⟩:=ob H
 refine nA (ca (hF:=bK q2)) ?_
 obtain⟨v3,Hj,H⟩:=ob H
 refine jR ⟨[(4,tB v3)],[],0⟩ ?_ ?_
 ·have H:=Hj
  refine gC H ?_ ?_<;>intro H
  ·obtain⟨h,H⟩:=rq H
   refine nG (G1 h rfl rfl rfl rfl) ?_
   cases H
   exact wo
  ·cases H
   exact wo
 cases H
 exact ah
def iE (a0:az):Option Bool:=
 Un (cz a0.aP 1 8) fun r1=>Un (bif r1 then(Un (cz a0.aU 0 5) fun r3=>bif r3 then(Un (cz a0.aa 0 999999) fun r4=>bif r4 then(Un (cz a0.aR 0 999999) fun r5=>bif r5 then(Un (cz a0.bM 0 1000000000000) fun r6=>some r6) else(some false)) else(some false)) else(some false)) else(some false)) fun(v2:Bool)=>some v2
theorem qc {a0:az} {r:Bool} (H:iE a0=some r):Fn Tryz.prog 354 [.agg (d5 a0)] [.c (.d (.b r))]:=by
 refine fI Tryz.func354 Tryz.ntmps354 ?_
 obtain⟨r1,q1,H⟩:=ob H
 refine nA (ca (hF:=bK q1)) ?_
 obtain⟨v2,Hj,H⟩:=ob H
 refine jR ⟨[(2,tB v2)],[],0⟩ ?_ ?_
 ·have H:=Hj
  refine gC H ?_ ?_<;>intro H
  ·obtain⟨r3,q3,H⟩:=ob H
   refine nG (ca (hF:=bK q3)) ?_
   refine gC H ?_ ?_<;>intro H
   ·obtain⟨r4,q4,H⟩:=ob H
    refine nG (ca (hF:=bK q4)) ?_
    refine gC H ?_ ?_<;>intro H
    ·obtain⟨r5,q5,H⟩:=ob H
     refine nG (ca (hF:=bK q5)) ?_
     refine gC H ?_ ?_<;>intro H
     ·obtain⟨r6,q6,H⟩:=ob H
      refine nG (ca (hF:=bK q6)) ?_
      cases H
      exact wo
     ·cases H
      exact wo
    ·cases H
     exact wo
   ·cases H
    exact wo
  ·cases H
   exact wo
 cases H
 exact ah
end Go.AM
