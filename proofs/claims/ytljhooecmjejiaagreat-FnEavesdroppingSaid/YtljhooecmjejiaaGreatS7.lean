/- A part. -/
import Derived.Test.YtljhooecmjejiaaGreatS3
import Derived.Test.YtljhooecmjejiaaGreatS4
set_option linter.unusedVariables false
open Option renaming bind→Vj
open List renaming range→TU
namespace Go.AM
open Go.Proofs
attribute [local irreducible] AWN NS AWO AWR AWC DR cZ ey
set_option maxRecDepth 100000
set_option maxHeartbeats 40000000
def my (a0:a9) (a1:List Int):Option (a9×ae×Bool):=
 Vj (kh a0) fun r1=>bif cM 1 (([]:List Int)++a1).length then(bif cM 1 (([]:List Int)++a1).length then(bif cM 32 (r1.aw++[(⟨a0.bm,(([]:List Int)++a1)⟩:ae)]).length then(Vj (iH (⟨WR (a0.bm+1),(r1.aw++[(⟨a0.bm,(([]:List Int)++a1)⟩:ae)])⟩:a9)) fun r2=>bif !r2 then(Vj (kh a0) fun r3=>some (r3,eF,false)) else(some ((⟨WR (a0.bm+1),(r1.aw++[(⟨a0.bm,(([]:List Int)++a1)⟩:ae)])⟩:a9),(⟨a0.bm,(([]:List Int)++a1)⟩:ae),true))) else none) else none) else none
theorem Bo {a0:a9} {a1:List Int} {r:a9×ae×Bool} (H:my a0 a1=some r) (hflag:r.2.2=true):Fn Tryz.prog 353 [.agg (kx a0),aL (a1.map eU8)] [.agg (qM [.o] (d5 r.1)),.agg (qM [.o] (du r.2.1)),.c (.d (.b r.2.2))]:=by
 refine fI Tryz.func353 Tryz.ntmps353 ?_
 obtain⟨r1,q1,H⟩:=ob H
 refine nA (ca (hF:=jf q1)) ?_
 refine zI [0,1,2,3,6,4,5,7] ?_
 obtain⟨h,H⟩:=rq H
 refine wA (B2 (enc:=eU8) (ys:=([]:List Int)) (zs:=a1) [5] h) ?_
 refine wA (spx 100390) ?_
 refine iV (ds:=[5]) (by kernel_rfl) (by kernel_rfl) rfl ?_
 refine wI ?_
 refine zI (TU 12) ?_
 obtain⟨h,H⟩:=rq H
 refine wA (CF (enc:=eU8) (ys:=([]:List Int)) (zs:=a1) [8] h) ?_
 obtain⟨h,H⟩:=rq H
 refine qT (ds:=[8]) (by kernel_rfl) (by kernel_rfl) rfl (by kernel_rfl) bO (f8 rfl (apT (enc:=aG) (ys:=r1.aw) (zs:=[(⟨a0.bm,(([]:List Int)++a1)⟩:ae)]) h)) bO rfl ?_
 refine wI ?_
 refine wA (spx 100389) ?_
 obtain⟨r2,q2,H⟩:=ob H
 refine nA (ca (hF:=lN q2)) ?_
 refine cC H ?_ ?_<;>intro H
 ·obtain⟨r3,q3,H⟩:=ob H
  refine nA (ca (hF:=jf q3)) ?_
  cases H
  cases hflag
 ·refine zI (TU 5) ?_
  refine wA (spx 100388) ?_
  refine wA (spx 100387) ?_
  cases H
  exact ah
theorem Bn {a0:a9} {a1:List Int} {r:a9×ae×Bool} (H:my a0 a1=some r) (hflag:r.2.2=false):Fn Tryz.prog 353 [.agg (kx a0),aL (a1.map eU8)] [.agg (qM [.o] (d5 r.1)),.agg (qM [.z] (du r.2.1)),.c (.d (.b r.2.2))]:=by
 refine fI Tryz.func353 Tryz.ntmps353 ?_
 obtain⟨r1,q1,H⟩:=ob H
 refine nA (ca (hF:=jf q1)) ?_
 refine zI [0,1,2,3,6,4,5,7] ?_
 obtain⟨h,H⟩:=rq H
 refine wA (B2 (enc:=eU8) (ys:=([]:List Int)) (zs:=a1) [5] h) ?_
 refine wA (spx 100394) ?_
 refine iV (ds:=[5]) (by kernel_rfl) (by kernel_rfl) rfl ?_
 refine wI ?_
 refine zI (TU 12) ?_
 obtain⟨h,H⟩:=rq H
 refine wA (CF (enc:=eU8) (ys:=([]:List Int)) (zs:=a1) [8] h) ?_
 obtain⟨h,H⟩:=rq H
 refine qT (ds:=[8]) (by kernel_rfl) (by kernel_rfl) rfl (by kernel_rfl) bO (f8 rfl (apT (enc:=aG) (ys:=r1.aw) (zs:=[(⟨a0.bm,(([]:List Int)++a1)⟩:ae)]) h)) bO rfl ?_
 refine wI ?_
 refine wA (spx 100393) ?_
 obtain⟨r2,q2,H⟩:=ob H
 refine nA (ca (hF:=lN q2)) ?_
 refine cC H ?_ ?_<;>intro H
 ·obtain⟨r3,q3,H⟩:=ob H
  refine nA (ca (hF:=jf q3)) ?_
  cases H
  exact ah
 ·refine zI (TU 5) ?_
  refine wA (spx 100392) ?_
  refine wA (spx 100391) ?_
  cases H
  cases hflag
def fk (a0:a9) (a1:Int):(Int×List ae)→Option (cp (Int×List ae) (List ae))
 |(v2,v3)=>bif ltB v2 ((a0.aw.length:Nat):Int) then(Vj (ix a0.aw v2) fun x9=>Vj (bif leB a1 x9.cT then(Vj (ix a0.aw v2) fun x11=>Vj (ix a0.aw v2) fun x12=>bif cM 1 (([]:List Int)++x12.aQ).length then(bif cM 32 (v3++[(⟨x11.cT,(([]:List Int)++x12.aQ)⟩:ae)]).length then(some (v3++[(⟨x11.cT,(([]:List Int)++x12.aQ)⟩:ae)])) else none) else none) else(some v3)) fun(v10:List ae)=>some (.next (WR (v2+1),v10))) else(some (.done v3))
def iv (a0:a9) (a1:Int):Option a9:=
 Vj (kh a0) fun r1=>bif ltB a0.bm a1 then(some r1) else(Vj (iter (fk a0 a1) FU (0,([]:List ae))) fun(v8:List ae)=>some (⟨r1.bm,v8⟩:a9))
theorem uR {a0:a9} {a1:Int} {r:a9} (H:iv a0 a1=some r):Fn Tryz.prog 374 [.agg (kx a0),aI a1] [.agg (qM [.o] (d5 r))]:=by
 refine fI Tryz.func374 Tryz.ntmps374 ?_
 obtain⟨r1,q1,H⟩:=ob H
 refine nA (ca (hF:=jf q1)) ?_
 refine cC H ?_ ?_<;>intro H
 ·cases H
  exact ah
 ·obtain⟨v8,Hj,H⟩:=ob H
  refine jB ⟨[(4,tP 1),(5,tP 3)],(oM [.w 4] 3 56 (d5 (⟨r1.bm,v8⟩:a9))++[(1,.var 56 (kM [.z] (d5 nO)))]),5⟩ ?_ ?_
  ·refine iT Hj (fun q=>⟨[(1,tI a1),(2,tP 0),(4,tP 1),(5,tP 3),(6,tI q.1)],(oM [.w 4] 3 56 (d5 (⟨r1.bm,q.2⟩:a9))++[(0,.var 56 (kM [.f] (d5 a0))),(1,.var 56 (kM [.z] (d5 nO)))]),5⟩) ?_ (by refine an (wB 4 (([]:List ae).length)) ?_;exact wo)
   rintro⟨v2,v3⟩ o H
   try dsimp only
   refine wI ?_
   refine cC H ?_ ?_<;>intro H
   ·obtain⟨x9,hx9,H⟩:=ob H
    refine nA (xdT (enc:=aG) hx9) ?_
    obtain⟨v10,Hj,H⟩:=ob H
    refine jA ⟨[(1,tI a1),(2,tP 0),(4,tP 1),(5,tP 3),(6,tI v2)],(oM [.w 4] 3 56 (d5 (⟨r1.bm,v10⟩:a9))++[(0,.var 56 (kM [.f] (d5 a0))),(1,.var 56 (kM [.z] (d5 nO)))]),5⟩ ?_ ?_
    ·have H:=Hj
     refine cC H ?_ ?_<;>intro H
     ·refine zI (TU 21) ?_
      obtain⟨x11,hx11,H⟩:=ob H
      refine zA (xdT (enc:=aG) hx11) ?_
      obtain⟨x12,hx12,H⟩:=ob H
      refine zA (xdT (enc:=aG) hx12) ?_
      obtain⟨h,H⟩:=rq H
      refine wA (CF (enc:=eU8) (ys:=([]:List Int)) (zs:=x12.aQ) [5] h) ?_
      obtain⟨h,H⟩:=rq H
      refine qT (ds:=[5]) (by kernel_rfl) (by kernel_rfl) rfl (by kernel_rfl) bO (f8 rfl (apT (enc:=aG) (ys:=v3) (zs:=[(⟨x11.cT,(([]:List Int)++x12.aQ)⟩:ae)]) h)) bO rfl ?_
      refine wI ?_
      refine wA (spx 100436) ?_
      cases H
      exact wo
     ·cases H
      exact wo
    cases H
    refine dU ?_
    exact wo
   ·cases H
    refine dT (fun hq=>?_)
    cases hq
    refine wI ?_
    exact wo
  cases H
  exact ah
def lX (a0:dh) (a1:Int):Option (dh×Bool):=
 Vj (fH a0) fun r1=>Vj (bif !r1 then(some true) else(Vj (cH a1 0 (WR (a0.cL-a0.er))) fun r3=>some (!r3))) fun(v2:Bool)=>bif v2 then(some (a0,false)) else(some ({a0 with er:=WR (a0.er+a1)},true))
theorem zl {a0:dh} {a1:Int} {r:dh×Bool} (H:lX a0 a1=some r):Fn Tryz.prog 375 [.agg (ue a0),aI a1] [.agg (qM [] (oZ r.1)),.c (.d (.b r.2))]:=by
 refine fI Tryz.func375 Tryz.ntmps375 ?_
 obtain⟨r1,q1,H⟩:=ob H
 refine nA (ca (hF:=g7 q1)) ?_
 obtain⟨v2,Hj,H⟩:=ob H
 refine jR ⟨[(1,tI a1),(2,tP 0),(4,tP 1),(19,tB v2)],[(0,.var 58 (kM [] (oZ a0))),(1,.var 58 (kM [] (oZ zV)))],2⟩ ?_ ?_
 ·have H:=Hj
  refine gC H ?_ ?_<;>intro H
  ·cases H
   exact wo
  ·obtain⟨r3,q3,H⟩:=ob H
   refine nG (ca (hF:=bL q3)) ?_
   cases H
   exact wo
 refine cC H ?_ ?_<;>intro H
 ·cases H
  exact ah
 ·cases H
  exact ah
end Go.AM
