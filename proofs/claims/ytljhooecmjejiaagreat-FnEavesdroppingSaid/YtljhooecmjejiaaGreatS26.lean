/- A part. -/
import Derived.Test.YtljhooecmjejiaaGreatS23
import Derived.Test.YtljhooecmjejiaaGreatS24
set_option linter.unusedVariables false
open Option renaming bind→Vj
open List renaming range→TU
namespace Go.AM
open Go.Proofs
attribute [local irreducible] AWN NS AWO AWR AWC DR cZ ey
set_option maxRecDepth 100000
set_option maxHeartbeats 40000000
def pJ:(Int×ab)→Option (cp (Int×ab) (ab))
 |(v1,v12)=>bif ltB v1 ((v12.am.length:Nat):Int) then(Vj (ix v12.am v1) fun x27=>Vj (pt x27) fun r28=>Vj (gp v12 v1 r28) fun r29=>some (.next (WR (v1+1),r29))) else(some (.done v12))
def kr (v30:Int) (r88:bY):(Int×ab)→Option (cp (Int×ab) (ab))
 |(v92,v103)=>bif ltB v92 ((r88.bC.length:Nat):Int) then(Vj (ix r88.bC v92) fun x117=>Vj (eT v103 (⟨v30,false,true,r88.aJ.aX,dO,x117⟩:bD)) fun r118=>some (.next (WR (v92+1),r118))) else(some (.done v103))
def pK:(Int×ab)→Option (cp (Int×ab) (ab))
 |(v30,v41)=>bif ltB v30 ((v41.ai.length:Nat):Int) then(Vj (ix v41.ai v30) fun x86=>Vj (ix v41.bh v30) fun x87=>Vj (nI x86 x87 v41.dZ) fun r88=>Vj (ix v41.ai v30) fun x89=>Vj (ix v41.bh v30) fun x90=>Vj (iL {v41 with ai:=(v41.ai.set (v30).toNat r88.aJ),bh:=(v41.bh.set (v30).toNat r88.dX)} v30 false r88.iB) fun r91=>Vj (iter (kr v30 r88) FU (0,r91)) fun(v116:ab)=>some (.next (WR (v30+1),v116))) else(some (.done v41))
def xC (a0:ab):Option (Bool×ab):=
 bif leB 100000 a0.oX then(some (false,a0)) else(Vj (iter (pJ) FU (0,{a0 with oX:=WR (a0.oX+1)})) fun(v26:ab)=>Vj (iter (pK) FU (0,v26)) fun(v85:ab)=>some (true,v85))
theorem IZ {a0:ab} {r:Bool×ab} (H:xC a0=some r):FnV Tryz.prog 228 (nS a0) [tP 200] (nS r.2) (.v (.c (.d false (.b r.1)))) []:=by
 refine fV Tryz.func228 Tryz.ntmps228 ?_
 refine cC H ?_ ?_<;>intro H
 ·cases H
  exact bU
 ·obtain⟨v26,Hj,H⟩:=ob H
  refine jB ⟨[(0,tP 200)],(nS v26),210⟩ ?_ ?_
  ·refine iT Hj (fun q=>⟨[(0,tP 200),(3,tI q.1)],(nS q.2),210⟩) ?_
   rintro⟨v1,v12⟩ o H
   try dsimp only
   refine wI ?_
   refine cC H ?_ ?_<;>intro H
   ·obtain⟨x27,hx27,H⟩:=ob H
    refine bT (iP 190 (hne:=tc (enc:=dE) hx27)) ?_
    refine nA (xwT hx27) ?_
    refine nA (oea (he:=eU _ hx27)) ?_
    obtain⟨r28,q28,H⟩:=ob H
    refine nA (ca (hF:=Ct q28)) ?_
    obtain⟨r29,q29,H⟩:=ob H
    refine bT (aV (o:=210)) ?_
    refine bT (cI (k:=38)) ?_
    refine bT (c8 190) ?_
    refine sA (cwu m0 [] 211 (lk q29)) ?_
    cases H
    refine dU ?_
    exact wo
   ·cases H
    refine dT (fun hq=>?_)
    cases hq
    refine wI ?_
    exact wo
  obtain⟨v85,Hj,H⟩:=ob H
  refine jB ⟨[],(nS v85),210⟩ ?_ ?_
  ·refine iT Hj (fun q=>⟨[(0,tP 200),(4,tI q.1)],(nS q.2),210⟩) ?_
   rintro⟨v30,v41⟩ o H
   try dsimp only
   refine wI ?_
   refine cC H ?_ ?_<;>intro H
   ·refine zI (TU 21) ?_
    obtain⟨x86,hx86,H⟩:=ob H
    refine zA (mF hx86) ?_
    refine zA (ED (he:=eU _ hx86)) ?_
    obtain⟨x87,hx87,H⟩:=ob H
    refine zA (mF hx87) ?_
    refine zA (ED (he:=eU _ hx87)) ?_
    obtain⟨r88,q88,H⟩:=ob H
    refine zA (ca (hF:=Bq q88)) ?_
    refine wA (spx 100408) ?_
    refine zI (TU 9) ?_
    obtain⟨x89,hx89,H⟩:=ob H
    refine zA (mF hx89) ?_
    refine zB (an (aV (o:=210)) (an (aV (o:=211)) (an (aV (o:=212)) (an (cI (k:=74)) (iP 191 (hne:=tc (enc:=bZ) hx89)))))) (f8 rfl (soT (enc:=bZ) (a':=r88.aJ) hx89)) bO ?_
    refine zI (TU 9) ?_
    obtain⟨x90,hx90,H⟩:=ob H
    refine zA (mF hx90) ?_
    refine zB (an (aV (o:=213)) (an (cI (k:=82)) (iP 192 (hne:=tc (enc:=dB) hx90)))) (f8 rfl (soT (enc:=dB) (a':=r88.dX) hx90)) bO ?_
    obtain⟨r91,q91,H⟩:=ob H
    refine bT (aV (o:=214)) ?_
    refine bT (cI (k:=87)) ?_
    refine bT (c8 191) ?_
    refine bT (c8 192) ?_
    refine bT (wB 191 ((v41.ai.set (v30).toNat r88.aJ).length)) ?_
    refine bT (wB 192 ((v41.bh.set (v30).toNat r88.dX).length)) ?_
    refine sA (cwu m0 [] 217 (p9 q91)) ?_
    obtain⟨v116,Hj,H⟩:=ob H
    refine jB ⟨[(0,tP 200),(4,tI v30)],(nS v116),210⟩ ?_ ?_
    ·refine iT Hj (fun q=>⟨[(0,tP 200),(4,tI v30),(5,tP 216),(6,tI q.1)],(nS q.2++[(210,w3 r88.aJ.gL.bJ true false),(211,SZ r88.aJ.ax true false),(212,Ta r88.aJ.aq.aw true false),(213,w161 r88.dX.aD true false),(214,w72 r88.iB true false),(215,w76 r88.bC),(216,.var 190 (kM [.w 210,.w 211,.w 212,.w 213,.w 214,.w 215] (ci r88)))]),217⟩) ?_
     rintro⟨v92,v103⟩ o H
     try dsimp only
     refine wI ?_
     refine cC H ?_ ?_<;>intro H
     ·refine zI (TU 12) ?_
      obtain⟨x117,hx117,H⟩:=ob H
      refine zA (xwT hx117) ?_
      refine zA (oea (he:=eU _ hx117)) ?_
      obtain⟨r118,q118,H⟩:=ob H
      refine zB bO (f8 rfl (cwu m0 [] 217 (oQ q118))) bO ?_
      cases H
      refine dU ?_
      exact wo
     ·cases H
      refine dT (fun hq=>?_)
      cases hq
      refine wI ?_
      exact wo
    cases H
    refine dU ?_
    exact wo
   ·cases H
    refine dT (fun hq=>?_)
    cases hq
    refine wI ?_
    exact wo
  cases H
  exact bU
def pH (a0:ab) (a1:Int):Option ab:=
 Vj (tV a0 a1) fun r1=>Vj (qz r1.2 r1.1.aX) fun r2=>Vj (bif !r2 then(some {r1.2 with kv:=WR (r1.2.kv+1)}) else(Vj (bif r1.1.eh then(bif !r1.1.cq then(some (eqB r1.1.aY.aX r1.1.aX)) else(some false)) else(some false)) fun(v14:Bool)=>Vj (bif v14 then(Vj (ix r1.2.ai r1.1.aN) fun x26=>Vj (kY x26 r1.1.aY) fun r27=>Vj (ix r1.2.ai r1.1.aN) fun x28=>Vj (iL {r1.2 with ai:=(r1.2.ai.set (r1.1.aN).toNat r27.aJ)} r1.1.aN false r27.dJ) fun r29=>some r29) else(Vj (bif r1.1.eh then(some r1.2) else(Vj (ix r1.2.am r1.1.aN) fun x41=>Vj (bif !eqB x41.aX r1.1.aX then(some {r1.2 with kv:=WR (r1.2.kv+1)}) else(Vj (bif r1.1.cq then(Vj (ix r1.2.am r1.1.aN) fun x64=>Vj (lZ x64 r1.1.bC) fun r65=>Vj (gp r1.2 r1.1.aN r65) fun r66=>some r66) else(Vj (ix r1.2.am r1.1.aN) fun x67=>Vj (kX x67 r1.1.aY) fun r68=>Vj (gp r1.2 r1.1.aN r68) fun r69=>some r69)) fun(v63:ab)=>some v63)) fun(v52:ab)=>some v52)) fun(v40:ab)=>some v40)) fun(v25:ab)=>some v25)) fun(v13:ab)=>some v13
theorem Cw {a0:ab} {a1:Int} {r:ab} (H:pH a0 a1=some r):FnV Tryz.prog 285 (nS a0) [tP 200,tI a1] (nS r) (.tup []) []:=by
 refine fV Tryz.func285 Tryz.ntmps285 ?_
 obtain⟨r1,q1,H⟩:=ob H
 refine sA (cwu m0 [] 210 (BL q1)) ?_
 refine dI ?_
 obtain⟨r2,q2,H⟩:=ob H
 refine dA (ca (hF:=yQ q2)) ?_
 refine wI ?_
 obtain⟨v13,Hj,H⟩:=ob H
 refine jA ⟨[],(nS v13),210⟩ ?_ ?_
 ·have H:=Hj
  refine cC H ?_ ?_<;>intro H
  ·cases H
   exact wo
  ·obtain⟨v14,Hj,H⟩:=ob H
   refine jR ⟨[(0,tP 200),(4,tP 210),(5,tI r1.1.aN),(41,tB v14)],(nS r1.2++[(210,.var 78 (kM [.t] (gD r1.1)))]),211⟩ ?_ ?_
   ·have H:=Hj
    refine gC H ?_ ?_<;>intro H
    ·refine gC H ?_ ?_<;>intro H
     ·cases H
      exact wo
     ·cases H
      exact wo
    ·cases H
     exact wo
   obtain⟨v25,Hj,H⟩:=ob H
   refine jA ⟨[],(nS v25),210⟩ ?_ ?_
   ·have H:=Hj
    refine cC H ?_ ?_<;>intro H
    ·refine zI (TU 12) ?_
     obtain⟨x26,hx26,H⟩:=ob H
     refine zA (mF hx26) ?_
     refine zA (ED (he:=eU _ hx26)) ?_
     obtain⟨r27,q27,H⟩:=ob H
     refine zA (ca (hF:=yr q27)) ?_
     refine wA (spx 100472) ?_
     refine zI (TU 9) ?_
     obtain⟨x28,hx28,H⟩:=ob H
     refine zA (mF hx28) ?_
     refine zB (iP 191 (hne:=tc (enc:=bZ) hx28)) (f8 rfl (soT (enc:=bZ) (a':=r27.aJ) hx28)) bO ?_
     obtain⟨r29,q29,H⟩:=ob H
     refine bT (aV (o:=211)) ?_
     refine bT (cI (k:=78)) ?_
     refine bT (c8 191) ?_
     refine bT (wB 191 ((r1.2.ai.set (r1.1.aN).toNat r27.aJ).length)) ?_
     refine sA (cwu m0 [] 213 (p9 q29)) ?_
     cases H
     exact wo
    ·obtain⟨v40,Hj,H⟩:=ob H
     refine jA ⟨[],(nS v40),210⟩ ?_ ?_
     ·have H:=Hj
      refine cC H ?_ ?_<;>intro H
      ·cases H
       exact wo
      ·refine dI ?_
       obtain⟨x41,hx41,H⟩:=ob H
       refine dA (mF hx41) ?_
       refine dA (oen (he:=eU _ hx41)) ?_
       refine wI ?_
       obtain⟨v52,Hj,H⟩:=ob H
       refine jA ⟨[],(nS v52),210⟩ ?_ ?_
       ·have H:=Hj
        refine cC H ?_ ?_<;>intro H
        ·cases H
         exact wo
        ·obtain⟨v63,Hj,H⟩:=ob H
         refine jA ⟨[],(nS v63),210⟩ ?_ ?_
         ·have H:=Hj
          refine cC H ?_ ?_<;>intro H
          ·refine zI (TU 13) ?_
           obtain⟨x64,hx64,H⟩:=ob H
           refine zA (mF hx64) ?_
           refine zA (ED (he:=eU _ hx64)) ?_
           obtain⟨r65,q65,H⟩:=ob H
           refine zA (ca (hF:=zo q65)) ?_
           obtain⟨r66,q66,H⟩:=ob H
           refine zB (an (aV (o:=211)) (an (aV (o:=212)) (cI (k:=117)))) (f8 rfl (cwu m0 [] 213 (lk q66))) bO ?_
           cases H
           exact wo
          ·refine zI (TU 13) ?_
           obtain⟨x67,hx67,H⟩:=ob H
           refine zA (mF hx67) ?_
           refine zA (ED (he:=eU _ hx67)) ?_
           obtain⟨r68,q68,H⟩:=ob H
           refine zA (ca (hF:=yq q68)) ?_
           obtain⟨r69,q69,H⟩:=ob H
           refine zB (an (aV (o:=211)) (cI (k:=23))) (f8 rfl (cwu m0 [] 212 (lk q69))) bO ?_
           cases H
           exact wo
         cases H
         exact wo
       cases H
       exact wo
     cases H
     exact wo
   cases H
   exact wo
 cases H
 exact sW
end Go.AM
