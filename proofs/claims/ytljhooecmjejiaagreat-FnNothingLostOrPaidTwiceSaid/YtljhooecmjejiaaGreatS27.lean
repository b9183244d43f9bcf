/- A part. -/
import Derived.Test.YtljhooecmjejiaaGreatS24
import Derived.Test.YtljhooecmjejiaaGreatS26
set_option linter.unusedVariables false
open Option renaming bind→Un
namespace Go.AM
open Go.Proofs
attribute [local irreducible] AWN NS AWO AWR AWC DR cZ eE
set_option maxRecDepth 100000
set_option maxHeartbeats 40000000
def AN:(Int×List cX×aH×ab)→Option (cB (Int×List cX×aH×ab) (List cX×aH×ab))
 |(v4,v8,v19,v20)=>bif ltB 0 v4 then(Un (wF v19 v20) fun r51=>bif cS 224 (v8++[r51.1]).length then(Un (s7 v20) fun r52=>Un (tM r52 r51.1) fun r53=>Un (bif r53.1 then(some r53.2) else(some v20)) fun(v64:ab)=>some (.next (WR (v4-1),(v8++[r51.1]),r51.2,v64))) else none) else(some (.done (v8,v19,v20)))
def wG (a0:aH) (a1:Int):Option (ab×List cX×ab×aH):=
 Un (wD a0) fun r1=>Un (s7 r1.1) fun r2=>Un (bZ r1.2 a1) fun r3=>Un (iter (AN) FU (WR (3+r3.1),([]:List cX),r3.2,r2)) fun((v38,v49,v50):List cX×aH×ab)=>some (r1.1,v38,v50,v49)
theorem KP {a0:aH} {a1:Int} {r:ab×List cX×ab×aH} (H:wG a0 a1=some r):FnW Tryz.prog 90 (.var 143 (kM [.f] (bI a0))) [tP 200,tI a1] (.var 143 (kM [.f] (bI r.2.2.2))) [.agg (qM [.d,.d,.d,.d,.d] (aO r.1)),.c (.own 80 25 (r.2.1.map yE) r.2.1.length),.agg (qM [.d,.d,.d,.d,.d] (aO r.2.2.1))]:=by
 refine fW Tryz.func90 Tryz.ntmps90 ?_
 obtain⟨r1,q1,H⟩:=ob H
 refine sA (cwv [(200,200)] [(210,212),(211,213),(212,214),(213,215)] 216 (KN q1)) ?_
 obtain⟨r2,q2,H⟩:=ob H
 refine bR (ev 212) ?_
 refine bR (ev 213) ?_
 refine bR (ev 214) ?_
 refine bR (ev 215) ?_
 refine sA (cwv [] [(210,217),(211,218),(212,219),(213,220)] 221 (AJ q2)) ?_
 obtain⟨r3,q3,H⟩:=ob H
 refine sA (cw (o:=200) (bL q3)) ?_
 obtain⟨⟨v38,v49,v50⟩,Hj,H⟩:=ob H
 refine jB ⟨[(4,tP 210),(6,tP 211),(7,tP 216),(8,tP 221),(9,.v (.c (.w 222 v38.length)))],[(200,.var 143 (kM [.f] (bI v49))),(210,.var 34 (kM [.z,.z,.z,.z,.z] (aO {dt with dW:=(⟨[]⟩:aK)}))),(211,.var 34 (kM [.z,.z,.z,.z,.z] (aO {dt with dW:=(⟨[]⟩:aK)}))),(216,.var 34 (kM [.t,.t,.t,.t,.t] (aO r1.1))),(221,.var 34 (kM [.t,.t,.t,.t,.t] (aO v50))),(222,w80 v38)],223⟩ ?_ ?_
 ·refine iT Hj (fun q=>⟨[(0,tP 200),(4,tP 210),(6,tP 211),(7,tP 216),(8,tP 221),(9,.v (.c (.w 222 q.2.1.length))),(10,tI q.1)],[(200,.var 143 (kM [.f] (bI q.2.2.1))),(210,.var 34 (kM [.z,.z,.z,.z,.z] (aO {dt with dW:=(⟨[]⟩:aK)}))),(211,.var 34 (kM [.z,.z,.z,.z,.z] (aO {dt with dW:=(⟨[]⟩:aK)}))),(216,.var 34 (kM [.t,.t,.t,.t,.t] (aO r1.1))),(221,.var 34 (kM [.t,.t,.t,.t,.t] (aO q.2.2.2))),(222,w80 q.2.1)],223⟩) ?_ (by refine aq (ev 217) ?_;refine aq (ev 218) ?_;refine aq (ev 219) ?_;refine aq (ev 220) ?_;exact wo)
  rintro⟨v4,v8,v19,v20⟩ o H
  try dsimp only
  refine wI ?_
  refine cC H ?_ ?_<;>intro H
  ·obtain⟨r51,q51,H⟩:=ob H
   refine sA (cwv [(200,200)] [(210,223)] 224 (HL q51)) ?_
   refine aW (ev 223) ?_
   obtain⟨h,H⟩:=rq H
   refine sA (apT (enc:=yE) (ys:=v8) (zs:=[r51.1]) h) ?_
   obtain⟨r52,q52,H⟩:=ob H
   refine sA (cwv [] [(210,226),(211,227),(212,228),(213,229)] 230 (AJ q52)) ?_
   obtain⟨r53,q53,H⟩:=ob H
   refine sA (cwu [(190,226),(191,227),(192,228),(193,229),(200,230)] [] 231 (Gf q53)) ?_
   obtain⟨v64,Hj,H⟩:=ob H
   refine jA ⟨[(0,tP 200),(4,tP 210),(6,tP 211),(7,tP 216),(8,tP 221),(9,.v (.c (.w 222 ((v8++[r51.1]).length)))),(10,tI v4)],[(200,.var 143 (kM [.f] (bI r51.2))),(210,.var 34 (kM [.z,.z,.z,.z,.z] (aO {dt with dW:=(⟨[]⟩:aK)}))),(211,.var 34 (kM [.z,.z,.z,.z,.z] (aO {dt with dW:=(⟨[]⟩:aK)}))),(216,.var 34 (kM [.t,.t,.t,.t,.t] (aO r1.1))),(221,.var 34 (kM [.t,.t,.t,.t,.t] (aO v64))),(222,w80 (v8++[r51.1]))],223⟩ ?_ ?_
   ·have H:=Hj
    refine cC H ?_ ?_<;>intro H
    ·cases H
     refine aq (ev 226) ?_
     refine aq (ev 227) ?_
     refine aq (ev 228) ?_
     refine aq (ev 229) ?_
     exact wo
    ·cases H
     exact wo
   cases H
   refine ee ?_
   exact wo
  ·cases H
   refine ed (fun hq=>?_)
   cases hq
   refine wI ?_
   exact wo
 refine zI (List.range 6) ?_
 refine wA (spx 100488) ?_
 refine wA (spx 100487) ?_
 cases H
 exact eB
def s8 (a0:aH) (a1:Int):Option (ab×aH):=
 Un (wG a0 a1) fun r1=>some (r1.2.2.1,r1.2.2.2)
theorem Bu {a0:aH} {a1:Int} {r:ab×aH} (H:s8 a0 a1=some r):FnW Tryz.prog 42 (.var 143 (kM [.f] (bI a0))) [tP 200,tI a1] (.var 143 (kM [.f] (bI r.2))) [.agg (qM [.d,.d,.d,.d,.d] (aO r.1))]:=by
 refine fW Tryz.func42 Tryz.ntmps42 ?_
 obtain⟨r1,q1,H⟩:=ob H
 refine sA (cw (o:=200) (KP q1)) ?_
 cases H
 exact eB
def m9 (a0:List Int):Option ab:=
 Un (DT a0) fun r1=>Un (wv a0 50) fun r2=>Un (s8 r1 (WR (40+r2))) fun r3=>some r3.1
theorem Ae {a0:List Int} {r:ab} (H:m9 a0=some r):Fn Tryz.prog 8 [aL (a0.map eU8)] [.agg (qM [.d,.d,.d,.d,.d] (aO r))]:=by
 refine fI Tryz.func8 Tryz.ntmps8 ?_
 obtain⟨r1,q1,H⟩:=ob H
 refine nA (cn (Nq q1) rfl rfl trivial rfl rfl rfl) ?_
 obtain⟨r2,q2,H⟩:=ob H
 refine nA (ca (hF:=KL q2)) ?_
 obtain⟨r3,q3,H⟩:=ob H
 refine sA (cw (o:=1) (Bu q3)) ?_
 cases H
 exact ah
end Go.AM
