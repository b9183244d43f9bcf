/- A part. -/
import Derived.Test.YtljhooecmjejiaaGreatS22
import Derived.Test.YtljhooecmjejiaaGreatS23
set_option linter.unusedVariables false
open Option renaming bind→Un
open List renaming range→SO
namespace Go.AM
open Go.Proofs
attribute [local irreducible] AWN NS AWO AWR AWC DR cZ eE
set_option maxRecDepth 100000
set_option maxHeartbeats 40000000
def pk:(Int×ab)→Option (cB (Int×ab) (ab))
 |(v1,v12)=>bif ltB v1 ((v12.ai.length:Nat):Int) then(Un (ix v12.ai v1) fun x27=>Un (oZ x27) fun r28=>Un (gk v12 v1 r28) fun r29=>some (.next (WR (v1+1),r29))) else(some (.done v12))
def jT (v30:Int) (r88:bX):(Int×ab)→Option (cB (Int×ab) (ab))
 |(v92,v103)=>bif ltB v92 ((r88.b7.length:Nat):Int) then(Un (ix r88.b7 v92) fun x117=>Un (eM v103 (⟨v30,false,true,r88.aF.aU,dH,x117⟩:bJ)) fun r118=>some (.next (WR (v92+1),r118))) else(some (.done v103))
def pm:(Int×ab)→Option (cB (Int×ab) (ab))
 |(v30,v41)=>bif ltB v30 ((v41.am.length:Nat):Int) then(Un (ix v41.am v30) fun x86=>Un (ix v41.aY v30) fun x87=>Un (nk x86 x87 v41.dW) fun r88=>Un (ix v41.am v30) fun x89=>Un (ix v41.aY v30) fun x90=>Un (iG {v41 with am:=(v41.am.set (v30).toNat r88.aF),aY:=(v41.aY.set (v30).toNat r88.dQ)} v30 false r88.iy) fun r91=>Un (iter (jT v30 r88) FU (0,r91)) fun(v116:ab)=>some (.next (WR (v30+1),v116))) else(some (.done v41))
def wH (a0:ab):Option (Bool×ab):=
 bif leB 100000 a0.oD then(some (false,a0)) else(Un (iter (pk) FU (0,{a0 with oD:=WR (a0.oD+1)})) fun(v26:ab)=>Un (iter (pm) FU (0,v26)) fun(v85:ab)=>some (true,v85))
theorem HM {a0:ab} {r:Bool×ab} (H:wH a0=some r):FnV Tryz.prog 228 (nS a0) [tP 200] (nS r.2) (.v (.c (.d false (.b r.1)))) []:=by
 refine fV Tryz.func228 Tryz.ntmps228 ?_
 refine cC H ?_ ?_<;>intro H
 ·cases H
  exact bV
 ·obtain⟨v26,Hj,H⟩:=ob H
  refine jB ⟨[(0,tP 200)],(nS v26),210⟩ ?_ ?_
  ·refine iT Hj (fun q=>⟨[(0,tP 200),(3,tI q.1)],(nS q.2),210⟩) ?_
   rintro⟨v1,v12⟩ o H
   try dsimp only
   refine wI ?_
   refine cC H ?_ ?_<;>intro H
   ·obtain⟨x27,hx27,H⟩:=ob H
    refine bR (iK 190 (hne:=sv (enc:=c7) hx27)) ?_
    refine nA (xwT hx27) ?_
    refine nA (oea (he:=fZ _ hx27)) ?_
    obtain⟨r28,q28,H⟩:=ob H
    refine nA (ca (hF:=Bq q28)) ?_
    obtain⟨r29,q29,H⟩:=ob H
    refine bR (aT (o:=210)) ?_
    refine bR (cA (k:=38)) ?_
    refine bR (du 190) ?_
    refine sA (cwu m0 [] 211 (kV q29)) ?_
    cases H
    refine ee ?_
    exact wo
   ·cases H
    refine ed (fun hq=>?_)
    cases hq
    refine wI ?_
    exact wo
  obtain⟨v85,Hj,H⟩:=ob H
  refine jB ⟨[],(nS v85),210⟩ ?_ ?_
  ·refine iT Hj (fun q=>⟨[(0,tP 200),(4,tI q.1)],(nS q.2),210⟩) ?_
   rintro⟨v30,v41⟩ o H
   try dsimp only
   refine wI ?_
   refine cC H ?_ ?_<;>intro H
   ·refine zI (SO 21) ?_
    obtain⟨x86,hx86,H⟩:=ob H
    refine zA (mq hx86) ?_
    refine zA (Dq (he:=fZ _ hx86)) ?_
    obtain⟨x87,hx87,H⟩:=ob H
    refine zA (mq hx87) ?_
    refine zA (Dq (he:=fZ _ hx87)) ?_
    obtain⟨r88,q88,H⟩:=ob H
    refine zA (ca (hF:=As q88)) ?_
    refine wA (spx 100408) ?_
    refine zI (SO 9) ?_
    obtain⟨x89,hx89,H⟩:=ob H
    refine zA (mq hx89) ?_
    refine zB (aq (aT (o:=210)) (aq (aT (o:=211)) (aq (aT (o:=212)) (aq (cA (k:=74)) (iK 191 (hne:=sv (enc:=bS) hx89)))))) (gq rfl (soT (enc:=bS) (a':=r88.aF) hx89)) bT ?_
    refine zI (SO 9) ?_
    obtain⟨x90,hx90,H⟩:=ob H
    refine zA (mq hx90) ?_
    refine zB (aq (aT (o:=213)) (aq (cA (k:=82)) (iK 192 (hne:=sv (enc:=da) hx90)))) (gq rfl (soT (enc:=da) (a':=r88.dQ) hx90)) bT ?_
    obtain⟨r91,q91,H⟩:=ob H
    refine bR (aT (o:=214)) ?_
    refine bR (cA (k:=87)) ?_
    refine bR (du 191) ?_
    refine bR (du 192) ?_
    refine bR (wB 191 ((v41.am.set (v30).toNat r88.aF).length)) ?_
    refine bR (wB 192 ((v41.aY.set (v30).toNat r88.dQ).length)) ?_
    refine sA (cwu m0 [] 217 (pM q91)) ?_
    obtain⟨v116,Hj,H⟩:=ob H
    refine jB ⟨[(0,tP 200),(4,tI v30)],(nS v116),210⟩ ?_ ?_
    ·refine iT Hj (fun q=>⟨[(0,tP 200),(4,tI v30),(5,tP 216),(6,tI q.1)],(nS q.2++[(210,w3 r88.aF.gN.bF true false),(211,RE r88.aF.ao true false),(212,RG r88.aF.an.aw true false),(213,w161 r88.dQ.aA true false),(214,w72 r88.iy true false),(215,w76 r88.b7),(216,.var 190 (kM [.w 210,.w 211,.w 212,.w 213,.w 214,.w 215] (b9 r88)))]),217⟩) ?_
     rintro⟨v92,v103⟩ o H
     try dsimp only
     refine wI ?_
     refine cC H ?_ ?_<;>intro H
     ·refine zI (SO 12) ?_
      obtain⟨x117,hx117,H⟩:=ob H
      refine zA (xwT hx117) ?_
      refine zA (oea (he:=fZ _ hx117)) ?_
      obtain⟨r118,q118,H⟩:=ob H
      refine zB bT (gq rfl (cwu m0 [] 217 (ow q118))) bT ?_
      cases H
      refine ee ?_
      exact wo
     ·cases H
      refine ed (fun hq=>?_)
      cases hq
      refine wI ?_
      exact wo
    cases H
    refine ee ?_
    exact wo
   ·cases H
    refine ed (fun hq=>?_)
    cases hq
    refine wI ?_
    exact wo
  cases H
  exact bV
def pj (a0:ab) (a1:Int):Option ab:=
 Un (ta a0 a1) fun r1=>Un (qa r1.2 r1.1.aU) fun r2=>Un (bif !r2 then(some {r1.2 with jX:=WR (r1.2.jX+1)}) else(Un (bif r1.1.eb then(bif !r1.1.di then(some (eqB r1.1.aV.aU r1.1.aU)) else(some false)) else(some false)) fun(v14:Bool)=>Un (bif v14 then(Un (ix r1.2.am r1.1.a9) fun x26=>Un (kJ x26 r1.1.aV) fun r27=>Un (ix r1.2.am r1.1.a9) fun x28=>Un (iG {r1.2 with am:=(r1.2.am.set (r1.1.a9).toNat r27.aF)} r1.1.a9 false r27.dD) fun r29=>some r29) else(Un (bif r1.1.eb then(some r1.2) else(Un (ix r1.2.ai r1.1.a9) fun x41=>Un (bif !eqB x41.aU r1.1.aU then(some {r1.2 with jX:=WR (r1.2.jX+1)}) else(Un (bif r1.1.di then(Un (ix r1.2.ai r1.1.a9) fun x64=>Un (lL x64 r1.1.b7) fun r65=>Un (gk r1.2 r1.1.a9 r65) fun r66=>some r66) else(Un (ix r1.2.ai r1.1.a9) fun x67=>Un (kG x67 r1.1.aV) fun r68=>Un (gk r1.2 r1.1.a9 r68) fun r69=>some r69)) fun(v63:ab)=>some v63)) fun(v52:ab)=>some v52)) fun(v40:ab)=>some v40)) fun(v25:ab)=>some v25)) fun(v13:ab)=>some v13
theorem Bt {a0:ab} {a1:Int} {r:ab} (H:pj a0 a1=some r):FnV Tryz.prog 285 (nS a0) [tP 200,tI a1] (nS r) (.tup []) []:=by
 refine fV Tryz.func285 Tryz.ntmps285 ?_
 obtain⟨r1,q1,H⟩:=ob H
 refine sA (cwu m0 [] 210 (AO q1)) ?_
 refine dI ?_
 obtain⟨r2,q2,H⟩:=ob H
 refine dA (ca (hF:=xS q2)) ?_
 refine wI ?_
 obtain⟨v13,Hj,H⟩:=ob H
 refine jA ⟨[],(nS v13),210⟩ ?_ ?_
 ·have H:=Hj
  refine cC H ?_ ?_<;>intro H
  ·cases H
   exact wo
  ·obtain⟨v14,Hj,H⟩:=ob H
   refine jR ⟨[(0,tP 200),(4,tP 210),(5,tI r1.1.a9),(41,tB v14)],(nS r1.2++[(210,.var 78 (kM [.t] (kc r1.1)))]),211⟩ ?_ ?_
   ·have H:=Hj
    refine gC H ?_ ?_<;>intro H
    ·refine gC H ?_ ?_<;>intro H
     ·cases H
      exact wo
     ·cases H
      exact wo
    ·cases H
     exact wo
   obtain⟨v25,Hj,H⟩:=ob H
   refine jA ⟨[],(nS v25),210⟩ ?_ ?_
   ·have H:=Hj
    refine cC H ?_ ?_<;>intro H
    ·refine zI (SO 12) ?_
     obtain⟨x26,hx26,H⟩:=ob H
     refine zA (mq hx26) ?_
     refine zA (Dq (he:=fZ _ hx26)) ?_
     obtain⟨r27,q27,H⟩:=ob H
     refine zA (ca (hF:=xu q27)) ?_
     refine wA (spx 100472) ?_
     refine zI (SO 9) ?_
     obtain⟨x28,hx28,H⟩:=ob H
     refine zA (mq hx28) ?_
     refine zB (iK 191 (hne:=sv (enc:=bS) hx28)) (gq rfl (soT (enc:=bS) (a':=r27.aF) hx28)) bT ?_
     obtain⟨r29,q29,H⟩:=ob H
     refine bR (aT (o:=211)) ?_
     refine bR (cA (k:=78)) ?_
     refine bR (du 191) ?_
     refine bR (wB 191 ((r1.2.am.set (r1.1.a9).toNat r27.aF).length)) ?_
     refine sA (cwu m0 [] 213 (pM q29)) ?_
     cases H
     exact wo
    ·obtain⟨v40,Hj,H⟩:=ob H
     refine jA ⟨[],(nS v40),210⟩ ?_ ?_
     ·have H:=Hj
      refine cC H ?_ ?_<;>intro H
      ·cases H
       exact wo
      ·refine dI ?_
       obtain⟨x41,hx41,H⟩:=ob H
       refine dA (mq hx41) ?_
       refine dA (oen (he:=fZ _ hx41)) ?_
       refine wI ?_
       obtain⟨v52,Hj,H⟩:=ob H
       refine jA ⟨[],(nS v52),210⟩ ?_ ?_
       ·have H:=Hj
        refine cC H ?_ ?_<;>intro H
        ·cases H
         exact wo
        ·obtain⟨v63,Hj,H⟩:=ob H
         refine jA ⟨[],(nS v63),210⟩ ?_ ?_
         ·have H:=Hj
          refine cC H ?_ ?_<;>intro H
          ·refine zI (SO 13) ?_
           obtain⟨x64,hx64,H⟩:=ob H
           refine zA (mq hx64) ?_
           refine zA (Dq (he:=fZ _ hx64)) ?_
           obtain⟨r65,q65,H⟩:=ob H
           refine zA (ca (hF:=yv q65)) ?_
           obtain⟨r66,q66,H⟩:=ob H
           refine zB (aq (aT (o:=211)) (aq (aT (o:=212)) (cA (k:=117)))) (gq rfl (cwu m0 [] 213 (kV q66))) bT ?_
           cases H
           exact wo
          ·refine zI (SO 13) ?_
           obtain⟨x67,hx67,H⟩:=ob H
           refine zA (mq hx67) ?_
           refine zA (Dq (he:=fZ _ hx67)) ?_
           obtain⟨r68,q68,H⟩:=ob H
           refine zA (ca (hF:=xt q68)) ?_
           obtain⟨r69,q69,H⟩:=ob H
           refine zB (aq (aT (o:=211)) (cA (k:=23))) (gq rfl (cwu m0 [] 212 (kV q69))) bT ?_
           cases H
           exact wo
         cases H
         exact wo
       cases H
       exact wo
     cases H
     exact wo
   cases H
   exact wo
 cases H
 exact sb
end Go.AM
