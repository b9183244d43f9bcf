/- A part. -/
import Derived.Test.YtljhooecmjejiaaGreatS4
import Derived.Test.YtljhooecmjejiaaGreatS5
set_option linter.unusedVariables false
open Option renaming bind→Un
open List renaming range→SO
namespace Go.AM
open Go.Proofs
attribute [local irreducible] AWN NS AWO AWR AWC DR cZ eE
set_option maxRecDepth 100000
set_option maxHeartbeats 40000000
def wd (a0:aj) (a1:Int) (a2:Int):Option (aj×Int):=
 Un (jq a0) fun r1=>Un (fo a0) fun r2=>Un (bif !r2 then(some true) else(bif ltB a1 0 then(some true) else(Un (cz a2 1 100000) fun r4=>bif !r4 then(some true) else(bif eqB a0.bP 0 then(some true) else(bif leB 8 ((a0.aA.length:Nat):Int) then(Un (mg a0 a1) fun r5=>some (ltB r5 0)) else(some false)))))) fun(v3:Bool)=>bif v3 then(some (r1,0)) else(Un (Ai a2 a0.bP) fun r6=>Un (yM a0.aA a1 r6) fun r7=>some ({r1 with bP:=WR (a0.bP-r6),aA:=r7},r6))
theorem Hx {a0:aj} {a1:Int} {a2:Int} {r:aj×Int} (H:wd a0 a1 a2=some r):Fn Tryz.prog 380 [.agg (da a0),aI a1,aI a2] [.agg (qM [.o] (cM r.1)),.c (.d (.i .i64 r.2))]:=by
 refine fI Tryz.func380 Tryz.ntmps380 ?_
 obtain⟨r1,q1,H⟩:=ob H
 refine nA (ca (hF:=jL q1)) ?_
 obtain⟨r2,q2,H⟩:=ob H
 refine nA (ca (hF:=iu q2)) ?_
 obtain⟨v3,Hj,H⟩:=ob H
 refine jR ⟨[(1,tI a1),(2,tI a2),(3,tP 0),(6,tP 1),(8,tP 3),(39,tB v3)],(oM [.w 2] 3 66 (cM r1)++[(0,.var 66 (kM [.f] (cM a0))),(1,.var 66 (kM [.z] (cM lD)))]),4⟩ ?_ ?_
 ·have H:=Hj
  refine gC H ?_ ?_<;>intro H
  ·cases H
   exact wo
  ·refine gC H ?_ ?_<;>intro H
   ·cases H
    exact wo
   ·obtain⟨r4,q4,H⟩:=ob H
    refine nG (ca (hF:=bK q4)) ?_
    refine gC H ?_ ?_<;>intro H
    ·cases H
     exact wo
    ·refine gC H ?_ ?_<;>intro H
     ·cases H
      exact wo
     ·refine gC H ?_ ?_<;>intro H
      ·obtain⟨r5,q5,H⟩:=ob H
       refine nG (ca (hF:=u5 q5)) ?_
       cases H
       exact wo
      ·cases H
       exact wo
 refine cC H ?_ ?_<;>intro H
 ·cases H
  exact ah
 ·obtain⟨r6,q6,H⟩:=ob H
  refine nA (ca (hF:=xp q6)) ?_
  obtain⟨r7,q7,H⟩:=ob H
  refine nA (ca (hF:=KI q7)) ?_
  cases H
  exact ah
def mc (a0:a8) (a1:List Int):Option (a8×ae×Bool):=
 Un (jM a0) fun r1=>bif cS 1 (([]:List Int)++a1).length then(bif cS 1 (([]:List Int)++a1).length then(bif cS 32 (r1.aw++[(⟨a0.bj,(([]:List Int)++a1)⟩:ae)]).length then(Un (iD (⟨WR (a0.bj+1),(r1.aw++[(⟨a0.bj,(([]:List Int)++a1)⟩:ae)])⟩:a8)) fun r2=>bif !r2 then(Un (jM a0) fun r3=>some (r3,gM,false)) else(some ((⟨WR (a0.bj+1),(r1.aw++[(⟨a0.bj,(([]:List Int)++a1)⟩:ae)])⟩:a8),(⟨a0.bj,(([]:List Int)++a1)⟩:ae),true))) else none) else none) else none
theorem Aq {a0:a8} {a1:List Int} {r:a8×ae×Bool} (H:mc a0 a1=some r) (hflag:r.2.2=true):Fn Tryz.prog 353 [.agg (ka a0),aL (a1.map eU8)] [.agg (qM [.o] (dT r.1)),.agg (qM [.o] (ec r.2.1)),.c (.d (.b r.2.2))]:=by
 refine fI Tryz.func353 Tryz.ntmps353 ?_
 obtain⟨r1,q1,H⟩:=ob H
 refine nA (ca (hF:=iW q1)) ?_
 refine zI [0,1,2,3,6,4,5,7] ?_
 obtain⟨h,H⟩:=rq H
 refine wA (A4 (enc:=eU8) (ys:=([]:List Int)) (zs:=a1) [5] h) ?_
 refine wA (spx 100390) ?_
 refine jt (ds:=[5]) (by kernel_rfl) (by kernel_rfl) rfl ?_
 refine wI ?_
 refine zI (SO 12) ?_
 obtain⟨h,H⟩:=rq H
 refine wA (BA (enc:=eU8) (ys:=([]:List Int)) (zs:=a1) [8] h) ?_
 obtain⟨h,H⟩:=rq H
 refine qz (ds:=[8]) (by kernel_rfl) (by kernel_rfl) rfl (by kernel_rfl) bT (gq rfl (apT (enc:=aE) (ys:=r1.aw) (zs:=[(⟨a0.bj,(([]:List Int)++a1)⟩:ae)]) h)) bT rfl ?_
 refine wI ?_
 refine wA (spx 100389) ?_
 obtain⟨r2,q2,H⟩:=ob H
 refine nA (ca (hF:=ly q2)) ?_
 refine cC H ?_ ?_<;>intro H
 ·obtain⟨r3,q3,H⟩:=ob H
  refine nA (ca (hF:=iW q3)) ?_
  cases H
  cases hflag
 ·refine zI (SO 5) ?_
  refine wA (spx 100388) ?_
  refine wA (spx 100387) ?_
  cases H
  exact ah
theorem Ap {a0:a8} {a1:List Int} {r:a8×ae×Bool} (H:mc a0 a1=some r) (hflag:r.2.2=false):Fn Tryz.prog 353 [.agg (ka a0),aL (a1.map eU8)] [.agg (qM [.o] (dT r.1)),.agg (qM [.z] (ec r.2.1)),.c (.d (.b r.2.2))]:=by
 refine fI Tryz.func353 Tryz.ntmps353 ?_
 obtain⟨r1,q1,H⟩:=ob H
 refine nA (ca (hF:=iW q1)) ?_
 refine zI [0,1,2,3,6,4,5,7] ?_
 obtain⟨h,H⟩:=rq H
 refine wA (A4 (enc:=eU8) (ys:=([]:List Int)) (zs:=a1) [5] h) ?_
 refine wA (spx 100394) ?_
 refine jt (ds:=[5]) (by kernel_rfl) (by kernel_rfl) rfl ?_
 refine wI ?_
 refine zI (SO 12) ?_
 obtain⟨h,H⟩:=rq H
 refine wA (BA (enc:=eU8) (ys:=([]:List Int)) (zs:=a1) [8] h) ?_
 obtain⟨h,H⟩:=rq H
 refine qz (ds:=[8]) (by kernel_rfl) (by kernel_rfl) rfl (by kernel_rfl) bT (gq rfl (apT (enc:=aE) (ys:=r1.aw) (zs:=[(⟨a0.bj,(([]:List Int)++a1)⟩:ae)]) h)) bT rfl ?_
 refine wI ?_
 refine wA (spx 100393) ?_
 obtain⟨r2,q2,H⟩:=ob H
 refine nA (ca (hF:=ly q2)) ?_
 refine cC H ?_ ?_<;>intro H
 ·obtain⟨r3,q3,H⟩:=ob H
  refine nA (ca (hF:=iW q3)) ?_
  cases H
  exact ah
 ·refine zI (SO 5) ?_
  refine wA (spx 100392) ?_
  refine wA (spx 100391) ?_
  cases H
  cases hflag
def eW (a0:a8) (a1:Int):(Int×List ae)→Option (cB (Int×List ae) (List ae))
 |(v2,v3)=>bif ltB v2 ((a0.aw.length:Nat):Int) then(Un (ix a0.aw v2) fun x9=>Un (bif leB a1 x9.cO then(Un (ix a0.aw v2) fun x11=>Un (ix a0.aw v2) fun x12=>bif cS 1 (([]:List Int)++x12.aN).length then(bif cS 32 (v3++[(⟨x11.cO,(([]:List Int)++x12.aN)⟩:ae)]).length then(some (v3++[(⟨x11.cO,(([]:List Int)++x12.aN)⟩:ae)])) else none) else none) else(some v3)) fun(v10:List ae)=>some (.next (WR (v2+1),v10))) else(some (.done v3))
def it (a0:a8) (a1:Int):Option a8:=
 Un (jM a0) fun r1=>bif ltB a0.bj a1 then(some r1) else(Un (iter (eW a0 a1) FU (0,([]:List ae))) fun(v8:List ae)=>some (⟨r1.bj,v8⟩:a8))
theorem ua {a0:a8} {a1:Int} {r:a8} (H:it a0 a1=some r):Fn Tryz.prog 374 [.agg (ka a0),aI a1] [.agg (qM [.o] (dT r))]:=by
 refine fI Tryz.func374 Tryz.ntmps374 ?_
 obtain⟨r1,q1,H⟩:=ob H
 refine nA (ca (hF:=iW q1)) ?_
 refine cC H ?_ ?_<;>intro H
 ·cases H
  exact ah
 ·obtain⟨v8,Hj,H⟩:=ob H
  refine jB ⟨[(4,tP 1),(5,tP 3)],(oM [.w 4] 3 56 (dT (⟨r1.bj,v8⟩:a8))++[(1,.var 56 (kM [.z] (dT nu)))]),5⟩ ?_ ?_
  ·refine iT Hj (fun q=>⟨[(1,tI a1),(2,tP 0),(4,tP 1),(5,tP 3),(6,tI q.1)],(oM [.w 4] 3 56 (dT (⟨r1.bj,q.2⟩:a8))++[(0,.var 56 (kM [.f] (dT a0))),(1,.var 56 (kM [.z] (dT nu)))]),5⟩) ?_ (by refine aq (wB 4 (([]:List ae).length)) ?_;exact wo)
   rintro⟨v2,v3⟩ o H
   try dsimp only
   refine wI ?_
   refine cC H ?_ ?_<;>intro H
   ·obtain⟨x9,hx9,H⟩:=ob H
    refine nA (xdT (enc:=aE) hx9) ?_
    obtain⟨v10,Hj,H⟩:=ob H
    refine jA ⟨[(1,tI a1),(2,tP 0),(4,tP 1),(5,tP 3),(6,tI v2)],(oM [.w 4] 3 56 (dT (⟨r1.bj,v10⟩:a8))++[(0,.var 56 (kM [.f] (dT a0))),(1,.var 56 (kM [.z] (dT nu)))]),5⟩ ?_ ?_
    ·have H:=Hj
     refine cC H ?_ ?_<;>intro H
     ·refine zI (SO 21) ?_
      obtain⟨x11,hx11,H⟩:=ob H
      refine zA (xdT (enc:=aE) hx11) ?_
      obtain⟨x12,hx12,H⟩:=ob H
      refine zA (xdT (enc:=aE) hx12) ?_
      obtain⟨h,H⟩:=rq H
      refine wA (BA (enc:=eU8) (ys:=([]:List Int)) (zs:=x12.aN) [5] h) ?_
      obtain⟨h,H⟩:=rq H
      refine qz (ds:=[5]) (by kernel_rfl) (by kernel_rfl) rfl (by kernel_rfl) bT (gq rfl (apT (enc:=aE) (ys:=v3) (zs:=[(⟨x11.cO,(([]:List Int)++x12.aN)⟩:ae)]) h)) bT rfl ?_
      refine wI ?_
      refine wA (spx 100436) ?_
      cases H
      exact wo
     ·cases H
      exact wo
    cases H
    refine ee ?_
    exact wo
   ·cases H
    refine ed (fun hq=>?_)
    cases hq
    refine wI ?_
    exact wo
  cases H
  exact ah
def lK (a0:cY) (a1:Int):Option (cY×Bool):=
 Un (fE a0) fun r1=>Un (bif !r1 then(some true) else(Un (cz a1 0 (WR (a0.cE-a0.dX))) fun r3=>some (!r3))) fun(v2:Bool)=>bif v2 then(some (a0,false)) else(some ({a0 with dX:=WR (a0.dX+a1)},true))
theorem yr {a0:cY} {a1:Int} {r:cY×Bool} (H:lK a0 a1=some r):Fn Tryz.prog 375 [.agg (tu a0),aI a1] [.agg (qM [] (oG r.1)),.c (.d (.b r.2))]:=by
 refine fI Tryz.func375 Tryz.ntmps375 ?_
 obtain⟨r1,q1,H⟩:=ob H
 refine nA (ca (hF:=gZ q1)) ?_
 obtain⟨v2,Hj,H⟩:=ob H
 refine jR ⟨[(1,tI a1),(2,tP 0),(4,tP 1),(19,tB v2)],[(0,.var 58 (kM [] (oG a0))),(1,.var 58 (kM [] (oG yS)))],2⟩ ?_ ?_
 ·have H:=Hj
  refine gC H ?_ ?_<;>intro H
  ·cases H
   exact wo
  ·obtain⟨r3,q3,H⟩:=ob H
   refine nG (ca (hF:=bK q3)) ?_
   cases H
   exact wo
 refine cC H ?_ ?_<;>intro H
 ·cases H
  exact ah
 ·cases H
  exact ah
end Go.AM
