/- A part. -/
import Derived.Test.YtljhooecmjejiaaGreatS25
import Derived.Test.YtljhooecmjejiaaGreatS27
set_option linter.unusedVariables false
open Option renaming bind→Vj
namespace Go.AM
open Go.Proofs
attribute [local irreducible] AWN NS AWO AWR AWC DR cZ ey
set_option maxRecDepth 100000
set_option maxHeartbeats 40000000
def BK:(Int×List df×aE×ab)→Option (cp (Int×List df×aE×ab) (List df×aE×ab))
 |(v4,v8,v19,v20)=>bif ltB 0 v4 then(Vj (xB v19 v20) fun r51=>bif cM 224 (v8++[r51.1]).length then(Vj (tT v20) fun r52=>Vj (uw r52 r51.1) fun r53=>Vj (bif r53.1 then(some r53.2) else(some v20)) fun(v64:ab)=>some (.next (WR (v4-1),(v8++[r51.1]),r51.2,v64))) else none) else(some (.done (v8,v19,v20)))
def zR (a0:aE) (a1:Int):Option (ab×List df×ab×aE):=
 Vj (xz a0) fun r1=>Vj (tT r1.1) fun r2=>Vj (bS r1.2 a1) fun r3=>Vj (iter (BK) FU (WR (3+r3.1),([]:List df),r3.2,r2)) fun((v38,v49,v50):List df×aE×ab)=>some (r1.1,v38,v50,v49)
theorem L1 {a0:aE} {a1:Int} {r:ab×List df×ab×aE} (H:zR a0 a1=some r):FnW Tryz.prog 90 (.var 143 (kM [.f] (bg a0))) [tP 200,tI a1] (.var 143 (kM [.f] (bg r.2.2.2))) [.agg (qM [.d,.d,.d,.d,.d] (aH r.1)),.c (.own 80 25 (r.2.1.map zD) r.2.1.length),.agg (qM [.d,.d,.d,.d,.d] (aH r.2.2.1))]:=by
 refine fW Tryz.func90 Tryz.ntmps90 ?_
 obtain⟨r1,q1,H⟩:=ob H
 refine sA (cwv [(200,200)] [(210,212),(211,213),(212,214),(213,215)] 216 (LZ q1)) ?_
 obtain⟨r2,q2,H⟩:=ob H
 refine bT (eo 212) ?_
 refine bT (eo 213) ?_
 refine bT (eo 214) ?_
 refine bT (eo 215) ?_
 refine sA (cwv [] [(210,217),(211,218),(212,219),(213,220)] 221 (BH q2)) ?_
 obtain⟨r3,q3,H⟩:=ob H
 refine sA (cw (o:=200) (bz q3)) ?_
 obtain⟨⟨v38,v49,v50⟩,Hj,H⟩:=ob H
 refine jB ⟨[(4,tP 210),(6,tP 211),(7,tP 216),(8,tP 221),(9,.v (.c (.w 222 v38.length)))],[(200,.var 143 (kM [.f] (bg v49))),(210,.var 34 (kM [.z,.z,.z,.z,.z] (aH {cX with dZ:=(⟨[]⟩:aM)}))),(211,.var 34 (kM [.z,.z,.z,.z,.z] (aH {cX with dZ:=(⟨[]⟩:aM)}))),(216,.var 34 (kM [.t,.t,.t,.t,.t] (aH r1.1))),(221,.var 34 (kM [.t,.t,.t,.t,.t] (aH v50))),(222,w80 v38)],223⟩ ?_ ?_
 ·refine iT Hj (fun q=>⟨[(0,tP 200),(4,tP 210),(6,tP 211),(7,tP 216),(8,tP 221),(9,.v (.c (.w 222 q.2.1.length))),(10,tI q.1)],[(200,.var 143 (kM [.f] (bg q.2.2.1))),(210,.var 34 (kM [.z,.z,.z,.z,.z] (aH {cX with dZ:=(⟨[]⟩:aM)}))),(211,.var 34 (kM [.z,.z,.z,.z,.z] (aH {cX with dZ:=(⟨[]⟩:aM)}))),(216,.var 34 (kM [.t,.t,.t,.t,.t] (aH r1.1))),(221,.var 34 (kM [.t,.t,.t,.t,.t] (aH q.2.2.2))),(222,w80 q.2.1)],223⟩) ?_ (by refine an (eo 217) ?_;refine an (eo 218) ?_;refine an (eo 219) ?_;refine an (eo 220) ?_;exact wo)
  rintro⟨v4,v8,v19,v20⟩ o H
  try dsimp only
  refine wI ?_
  refine cC H ?_ ?_<;>intro H
  ·obtain⟨r51,q51,H⟩:=ob H
   refine sA (cwv [(200,200)] [(210,223)] 224 (IY q51)) ?_
   refine aW (eo 223) ?_
   obtain⟨h,H⟩:=rq H
   refine sA (apT (enc:=zD) (ys:=v8) (zs:=[r51.1]) h) ?_
   obtain⟨r52,q52,H⟩:=ob H
   refine sA (cwv [] [(210,226),(211,227),(212,228),(213,229)] 230 (BH q52)) ?_
   obtain⟨r53,q53,H⟩:=ob H
   refine sA (cwu [(190,226),(191,227),(192,228),(193,229),(200,230)] [] 231 (Ht q53)) ?_
   obtain⟨v64,Hj,H⟩:=ob H
   refine jA ⟨[(0,tP 200),(4,tP 210),(6,tP 211),(7,tP 216),(8,tP 221),(9,.v (.c (.w 222 ((v8++[r51.1]).length)))),(10,tI v4)],[(200,.var 143 (kM [.f] (bg r51.2))),(210,.var 34 (kM [.z,.z,.z,.z,.z] (aH {cX with dZ:=(⟨[]⟩:aM)}))),(211,.var 34 (kM [.z,.z,.z,.z,.z] (aH {cX with dZ:=(⟨[]⟩:aM)}))),(216,.var 34 (kM [.t,.t,.t,.t,.t] (aH r1.1))),(221,.var 34 (kM [.t,.t,.t,.t,.t] (aH v64))),(222,w80 (v8++[r51.1]))],223⟩ ?_ ?_
   ·have H:=Hj
    refine cC H ?_ ?_<;>intro H
    ·cases H
     refine an (eo 226) ?_
     refine an (eo 227) ?_
     refine an (eo 228) ?_
     refine an (eo 229) ?_
     exact wo
    ·cases H
     exact wo
   cases H
   refine dU ?_
   exact wo
  ·cases H
   refine dT (fun hq=>?_)
   cases hq
   refine wI ?_
   exact wo
 refine zI (List.range 6) ?_
 refine wA (spx 100488) ?_
 refine wA (spx 100487) ?_
 cases H
 exact eu
def pI (a0:aE) (a1:Int):Option (ab×aE):=
 Vj (zR a0 a1) fun r1=>some (r1.2.2.1,r1.2.2.2)
theorem Cy {a0:aE} {a1:Int} {r:ab×aE} (H:pI a0 a1=some r):FnW Tryz.prog 42 (.var 143 (kM [.f] (bg a0))) [tP 200,tI a1] (.var 143 (kM [.f] (bg r.2))) [.agg (qM [.d,.d,.d,.d,.d] (aH r.1))]:=by
 refine fW Tryz.func42 Tryz.ntmps42 ?_
 obtain⟨r1,q1,H⟩:=ob H
 refine sA (cw (o:=200) (L1 q1)) ?_
 cases H
 exact eu
def tW (r1:ab×aE):(Int×List bp×aE)→Option (cp (Int×List bp×aE) (List bp×aE))
 |(v3,v7,v8)=>bif ltB v3 ((v7.length:Nat):Int) then(Vj (bif ltB 0 ((r1.1.ai.length:Nat):Int) then(Vj (fZ v8 4) fun r33=>some (!r33.1,r33.2)) else(some (false,v8))) fun((v28,v32):Bool×aE)=>Vj (bif v28 then(Vj (bS v32 ((r1.1.ai.length:Nat):Int)) fun r39=>Vj (ix r1.1.ai r39.1) fun x40=>Vj (ix v7 v3) fun x41=>some ((v7.set (v3).toNat (⟨x40.aa,x41.y8⟩:bp)),r39.2)) else(some (v7,v32))) fun((v37,v38):List bp×aE)=>some (.next (WR (v3+1),v37,v38))) else(some (.done (v7,v8)))
def pL (a0:aE):Option (ab×List bp×aE):=
 Vj (pI a0 40) fun r1=>Vj (uy r1.2) fun r2=>Vj (iter (tW r1) FU (0,r2.1,r2.2)) fun((v26,v27):List bp×aE)=>some (r1.1,v26,v27)
theorem Cz {a0:aE} {r:ab×List bp×aE} (H:pL a0=some r):FnW Tryz.prog 81 (.var 143 (kM [.f] (bg a0))) [tP 200] (.var 143 (kM [.f] (bg r.2.2))) [.agg (qM [.d,.d,.d,.d,.d] (aH r.1)),.c (.own 107 2 (r.2.1.map da) r.2.1.length)]:=by
 refine fW Tryz.func81 Tryz.ntmps81 ?_
 obtain⟨r1,q1,H⟩:=ob H
 refine sA (cw (o:=200) (Cy q1)) ?_
 obtain⟨r2,q2,H⟩:=ob H
 refine sA (cw (o:=200) (Hv q2)) ?_
 obtain⟨⟨v26,v27⟩,Hj,H⟩:=ob H
 refine jB ⟨[(2,tP 210),(4,tP 211),(5,.v (.c (.w 212 v26.length)))],[(200,.var 143 (kM [.f] (bg v27))),(210,.var 34 (kM [.z,.z,.z,.z,.z] (aH {cX with dZ:=(⟨[]⟩:aM)}))),(211,.var 34 (kM [.t,.t,.t,.t,.t] (aH r1.1))),(212,sC v26)],213⟩ ?_ ?_
 ·refine iT Hj (fun q=>⟨[(0,tP 200),(2,tP 210),(4,tP 211),(5,.v (.c (.w 212 q.2.1.length))),(6,tI q.1)],[(200,.var 143 (kM [.f] (bg q.2.2))),(210,.var 34 (kM [.z,.z,.z,.z,.z] (aH {cX with dZ:=(⟨[]⟩:aM)}))),(211,.var 34 (kM [.t,.t,.t,.t,.t] (aH r1.1))),(212,sC q.2.1)],213⟩) ?_
  rintro⟨v3,v7,v8⟩ o H
  try dsimp only
  refine wI ?_
  refine cC H ?_ ?_<;>intro H
  ·obtain⟨⟨v28,v32⟩,Hj,H⟩:=ob H
   refine jR ⟨[(0,tP 200),(2,tP 210),(4,tP 211),(5,.v (.c (.w 212 v7.length))),(6,tI v3),(25,tB v28)],[(200,.var 143 (kM [.f] (bg v32))),(210,.var 34 (kM [.z,.z,.z,.z,.z] (aH {cX with dZ:=(⟨[]⟩:aM)}))),(211,.var 34 (kM [.t,.t,.t,.t,.t] (aH r1.1))),(212,sC v7)],213⟩ ?_ ?_
   ·have H:=Hj
    refine gC H ?_ ?_<;>intro H
    ·obtain⟨r33,q33,H⟩:=ob H
     refine sG (cw (o:=200) (fK q33)) ?_
     cases H
     exact wo
    ·cases H
     exact wo
   obtain⟨⟨v37,v38⟩,Hj,H⟩:=ob H
   refine jA ⟨[(0,tP 200),(2,tP 210),(4,tP 211),(5,.v (.c (.w 212 v37.length))),(6,tI v3)],[(200,.var 143 (kM [.f] (bg v38))),(210,.var 34 (kM [.z,.z,.z,.z,.z] (aH {cX with dZ:=(⟨[]⟩:aM)}))),(211,.var 34 (kM [.t,.t,.t,.t,.t] (aH r1.1))),(212,sC v37)],213⟩ ?_ ?_
   ·have H:=Hj
    refine cC H ?_ ?_<;>intro H
    ·refine zI (List.range 15) ?_
     obtain⟨r39,q39,H⟩:=ob H
     refine wA (cwx (o:=200) (bz q39)) ?_
     obtain⟨x40,hx40,H⟩:=ob H
     refine zA (xdT (enc:=bZ) hx40) ?_
     obtain⟨x41,hx41,H⟩:=ob H
     refine zA (xwT hx41) ?_
     refine zB bO (f8 rfl (soT (enc:=da) (a':=(⟨x40.aa,x41.y8⟩:bp)) hx41)) bO ?_
     cases H
     exact wo
    ·cases H
     exact wo
   cases H
   refine dU ?_
   exact wo
  ·cases H
   refine dT (fun hq=>?_)
   cases hq
   refine wI ?_
   exact wo
 cases H
 exact eu
end Go.AM
