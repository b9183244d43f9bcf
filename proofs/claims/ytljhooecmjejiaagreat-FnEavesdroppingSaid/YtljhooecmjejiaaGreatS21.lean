/- A part. -/
import Derived.Test.YtljhooecmjejiaaGreatS7
import Derived.Test.YtljhooecmjejiaaGreatS20
set_option linter.unusedVariables false
open Option renaming bind→Vj
namespace Go.AM
open Go.Proofs
attribute [local irreducible] AWN NS AWO AWR AWC DR cZ ey
set_option maxRecDepth 100000
set_option maxHeartbeats 40000000
def kJ (a0:ab) (a1:df):Int→Option (cp (Int) (Bool))
 |v4=>bif ltB v4 ((a0.ay.length:Nat):Int) then(Vj (ix a0.ay v4) fun x5=>Vj (lj x5 a1.bk) fun r6=>bif r6 then(dn (some true)) else(some (.next (WR (v4+1))))) else(dn (Vj (ix a0.am a1.bk.aN) fun x7=>Vj (bif a1.bk.cq then(some (!a1.bk.eh)) else(some false)) fun(v8:Bool)=>bif v8 then(Vj (bif ltB a1.bk.bC.aa x7.aa then(some true) else(bif eqB a1.bk.bC.aa x7.aa then(Vj (je x7.aK a1.bk.bC) fun r10=>some (!r10)) else(some false))) fun(v9:Bool)=>some v9) else(bif a1.bk.cq then(some true) else(bif a1.bk.eh then(Vj (ix a0.ai a1.bk.aN) fun x11=>Vj (lp x11 a1.bk.aY) fun r12=>some r12) else(Vj (jg x7 a1.bk.aY) fun r13=>some r13)))))
def o9 (a0:ab) (a1:df):Option Bool:=
 Vj (bif !eqB a1.aR 13 then(some true) else(Vj (jO a0) fun r2=>bif !r2 then(some true) else(Vj (gU a0 a1.bk) fun r3=>some (!r3)))) fun(v1:Bool)=>bif v1 then(some true) else(iter (kJ a0 a1) FU 0)
theorem Co {a0:ab} {a1:df} {r:Bool} (H:o9 a0 a1=some r):Fn Tryz.prog 280 [.agg (ly a0),.agg (zD a1)] [.c (.d (.b r))]:=by
 refine fI Tryz.func280 Tryz.ntmps280 ?_
 obtain⟨v1,Hj,H⟩:=ob H
 refine jR ⟨[(2,tP 0),(5,tP 2),(23,tB v1)],[(0,.var 34 (kM [.f,.f,.f,.f,.f] (aH a0))),(2,.var 78 (kM [.f] (gD a1.bk)))],3⟩ ?_ ?_
 ·have H:=Hj
  refine gC H ?_ ?_<;>intro H
  ·cases H
   exact wo
  ·obtain⟨r2,q2,H⟩:=ob H
   refine nG (ca (hF:=xc q2)) ?_
   refine gC H ?_ ?_<;>intro H
   ·cases H
    exact wo
   ·obtain⟨r3,q3,H⟩:=ob H
    refine nG (ca (hF:=tU q3)) ?_
    cases H
    exact wo
 refine cC H ?_ ?_<;>intro H
 ·cases H
  exact ah
 ·refine iT H (fun q=>⟨[(2,tP 0),(5,tP 2),(6,tI q)],[(0,.var 34 (kM [.f,.f,.f,.f,.f] (aH a0))),(2,.var 78 (kM [.f] (gD a1.bk)))],3⟩) ?_
  rintro v4 o H
  try dsimp only
  refine wI ?_
  refine cC H ?_ ?_<;>intro H
  ·refine dI ?_
   obtain⟨x5,hx5,H⟩:=ob H
   refine dA (xdT (enc:=dK) hx5) ?_
   obtain⟨r6,q6,H⟩:=ob H
   refine dA (ca (hF:=yy q6)) ?_
   refine wI ?_
   refine cC H ?_ ?_<;>intro H
   ·obtain⟨r0,Hd,rfl⟩:=dnE H
    refine ks (fun hq=>?_)
    have H:=Hd.trans (congrArg some hq)
    refine wI ?_
    cases H
    exact ah
   ·cases H
    refine dU ?_
    exact wo
  ·obtain⟨r0,Hd,rfl⟩:=dnE H
   refine dT (fun hq=>?_)
   have H:=Hd.trans (congrArg some hq)
   refine wI ?_
   obtain⟨x7,hx7,H⟩:=ob H
   refine nA (xdT (enc:=dE) hx7) ?_
   obtain⟨v8,Hj,H⟩:=ob H
   refine jR ⟨[(2,tP 0),(5,tP 2),(7,tP 3),(44,tB v8)],[(0,.var 34 (kM [.f,.f,.f,.f,.f] (aH a0))),(2,.var 78 (kM [.f] (gD a1.bk))),(3,.var 45 (kM [.f,.f] (dr x7)))],4⟩ ?_ ?_
   ·have H:=Hj
    refine gC H ?_ ?_<;>intro H
    ·cases H
     exact wo
    ·cases H
     exact wo
   refine cC H ?_ ?_<;>intro H
   ·obtain⟨v9,Hj,H⟩:=ob H
    refine jR ⟨[(4,tB v9)],[],0⟩ ?_ ?_
    ·have H:=Hj
     refine gC H ?_ ?_<;>intro H
     ·cases H
      exact wo
     ·refine gC H ?_ ?_<;>intro H
      ·obtain⟨r10,q10,H⟩:=ob H
       refine nG (ca (hF:=oG q10)) ?_
       cases H
       exact wo
      ·cases H
       exact wo
    cases H
    exact ah
   ·refine cC H ?_ ?_<;>intro H
    ·cases H
     exact ah
    ·refine cC H ?_ ?_<;>intro H
     ·refine dI ?_
      obtain⟨x11,hx11,H⟩:=ob H
      refine dA (xdT (enc:=bZ) hx11) ?_
      obtain⟨r12,q12,H⟩:=ob H
      refine dA (ca (hF:=yz q12)) ?_
      refine wI ?_
      cases H
      exact ah
     ·obtain⟨r13,q13,H⟩:=ob H
      refine nA (ca (hF:=vX q13)) ?_
      cases H
      exact ah
def pt (a0:az):Option aU:=
 Vj (ic a0) fun r1=>bif ltB 0 a0.f7 then(some (⟨{r1 with f7:=WR (a0.f7-1)},([]:List aA)⟩:aU)) else(bif eqB a0.bi 1 then(Vj (oI a0) fun r2=>Vj (jJ r1 r2) fun r3=>some r3) else(Vj (bif eqB a0.bi 2 then(some (!a0.dm)) else(some false)) fun(v4:Bool)=>bif v4 then(Vj (qG a0) fun r5=>Vj (jJ r1 r5) fun r6=>some r6) else(some (⟨r1,([]:List aA)⟩:aU))))
theorem Ct {a0:az} {r:aU} (H:pt a0=some r):Fn Tryz.prog 282 [.agg (dE a0)] [.agg (qM [.d,.d,.o] (cA r))]:=by
 refine fI Tryz.func282 Tryz.ntmps282 ?_
 obtain⟨r1,q1,H⟩:=ob H
 refine nA (ca (hF:=gT q1)) ?_
 refine cC H ?_ ?_<;>intro H
 ·cases H
  refine cG (wB 5 (([]:List aA).length)) ?_
  refine cG (aV (o:=2)) ?_
  refine cG (aV (o:=3)) ?_
  refine cG (dx (o:=1)) ?_
  exact ah
 ·refine cC H ?_ ?_<;>intro H
  ·refine zI (List.range 5) ?_
   obtain⟨r2,q2,H⟩:=ob H
   refine zA (ca (hF:=xu q2)) ?_
   obtain⟨r3,q3,H⟩:=ob H
   refine zB (an (aV (o:=2)) (an (aV (o:=3)) (cI (k:=18)))) (f8 rfl (cwu [] [(210,5)] 6 (FnV.up (oK q3) rfl rfl))) bO ?_
   refine wA (spx 100333) ?_
   cases H
   exact ah
  ·obtain⟨v4,Hj,H⟩:=ob H
   refine jR ⟨[(1,tP 0),(2,tP 1),(3,tP 4),(22,tB v4)],(oM [.w 2,.w 3] 4 45 (dr r1)++[(0,.var 45 (kM [.f,.f] (dr a0))),(1,.var 183 (kM [.z,.z,.z] (cA ev)))]),5⟩ ?_ ?_
   ·have H:=Hj
    refine gC H ?_ ?_<;>intro H
    ·cases H
     exact wo
    ·cases H
     exact wo
   refine cC H ?_ ?_<;>intro H
   ·refine zI (List.range 5) ?_
    obtain⟨r5,q5,H⟩:=ob H
    refine zA (ca (hF:=vV q5)) ?_
    obtain⟨r6,q6,H⟩:=ob H
    refine zB (an (aV (o:=2)) (an (aV (o:=3)) (cI (k:=31)))) (f8 rfl (cwu [] [(210,5)] 6 (FnV.up (oK q6) rfl rfl))) bO ?_
    refine wA (spx 100334) ?_
    cases H
    exact ah
   ·cases H
    refine cG (wB 5 (([]:List aA).length)) ?_
    refine cG (aV (o:=2)) ?_
    refine cG (aV (o:=3)) ?_
    refine cG (dx (o:=1)) ?_
    exact ah
def gH (a0:ag):(Int×List ao)→Option (cp (Int×List ao) (List ao))
 |(v1,v2)=>Vj (bif ltB v1 ((a0.aq.aw.length:Nat):Int) then(bif ltB v1 2 then(some (eqB a0.bi 1)) else(some false)) else(some false)) fun(v7:Bool)=>bif v7 then(Vj (ix a0.aq.aw v1) fun x8=>Vj (tR a0 x8) fun r9=>bif cM 64 (v2++[r9]).length then(some (.next (WR (v1+1),(v2++[r9])))) else none) else(some (.done v2))
def kq (a0:ag):Option (List ao):=
 Vj (iter (gH a0) FU (0,([]:List ao))) fun(v6:List ao)=>some v6
theorem vh {a0:ag} {r:List ao} (H:kq a0=some r):Fn Tryz.prog 327 [.agg (bZ a0)] [.c (.own 76 6 (r.map dq) r.length)]:=by
 refine fI Tryz.func327 Tryz.ntmps327 ?_
 obtain⟨v6,Hj,H⟩:=ob H
 refine jB ⟨[(3,.v (.c (.w 1 v6.length)))],[(1,w76 v6)],2⟩ ?_ ?_
 ·refine iT Hj (fun q=>⟨[(1,tP 0),(3,.v (.c (.w 1 q.2.length))),(4,tI q.1)],[(0,.var 60 (kM [.f,.f,.f] (cF a0))),(1,w76 q.2)],2⟩) ?_
  rintro⟨v1,v2⟩ o H
  try dsimp only
  refine wI ?_
  obtain⟨v7,Hj,H⟩:=ob H
  refine jR ⟨[(1,tP 0),(3,.v (.c (.w 1 v2.length))),(4,tI v1),(20,tB v7)],[(0,.var 60 (kM [.f,.f,.f] (cF a0))),(1,w76 v2)],2⟩ ?_ ?_
  ·have H:=Hj
   refine gC H ?_ ?_<;>intro H
   ·refine gC H ?_ ?_<;>intro H
    ·cases H
     exact wo
    ·cases H
     exact wo
   ·cases H
    exact wo
  refine cC H ?_ ?_<;>intro H
  ·refine zI (List.range 12) ?_
   obtain⟨x8,hx8,H⟩:=ob H
   refine zA (xdT (enc:=aG) hx8) ?_
   obtain⟨r9,q9,H⟩:=ob H
   refine zA (ca (hF:=(BG q9).frzs (by repeat (first|exact trivial|refine⟨?_,?_⟩|exact lm _|rfl)))) ?_
   obtain⟨h,H⟩:=rq H
   refine wA (apx (enc:=dq) (ys:=v2) (zs:=[r9]) [1,2] h) ?_
   refine iV (ds:=[1]) (by kernel_rfl) (by kernel_rfl) rfl ?_
   refine wI ?_
   cases H
   refine dU ?_
   refine an (wS 1 3) ?_
   exact wo
  ·cases H
   refine dT (fun hq=>?_)
   cases hq
   refine wI ?_
   exact wo
 cases H
 exact ah
def pp (a0:ag):(Int×bY)→Option (cp (Int×bY) (bY))
 |(v3,v39)=>Vj (bif ltB v3 2 then(bif leB v39.aJ.aq.bm ((a0.ax.length:Nat):Int) then(some (ltB ((v39.aJ.aq.aw.length:Nat):Int) 8)) else(some false)) else(some false)) fun(v40:Bool)=>bif v40 then(Vj (ix a0.ax (WR (v39.aJ.aq.bm-1))) fun x41=>Vj (nB v39.aJ v39.dX ((x41.aQ.length:Nat):Int)) fun r42=>Vj (kU r42.1 ((x41.aQ.length:Nat):Int)) fun r43=>bif ltB 0 r43 then(dn (some {v39 with aJ:=r42.1,dX:=r42.2})) else(Vj (my r42.1.aq x41.aQ) fun r44=>bif r44.2.2 then(Vj (tR a0 r44.2.1) fun r45=>bif cM 64 (v39.bC++[r45]).length then(some (.next (WR (v3+1),(⟨{r42.1 with aq:=r44.1},r42.2,v39.iB,(v39.bC++[r45])⟩:bY)))) else none) else(dn (some {v39 with aJ:=r42.1,dX:=r42.2})))) else(dn (some v39))
def tH (a0:ag) (a1:aj):Option bY:=
 Vj (oN a0 a1) fun r1=>Vj (tO a0) fun r2=>bif r2 then(some r1) else(iter (pp a0) FU (0,r1))
theorem Bm {a0:ag} {a1:aj} {r:bY} (H:tH a0 a1=some r):Fn Tryz.prog 328 [.agg (bZ a0),.agg (dB a1)] [.agg (qM [.o,.o,.o,.o,.o,.o] (ci r))]:=by
 refine fI Tryz.func328 Tryz.ntmps328 ?_
 obtain⟨r1,q1,H⟩:=ob H
 refine nA (ca (hF:=vW q1)) ?_
 obtain⟨r2,q2,H⟩:=ob H
 refine nA (ca (hF:=BE q2)) ?_
 refine cC H ?_ ?_<;>intro H
 ·cases H
  exact ah
 ·refine iT H (fun q=>⟨[(2,tP 0),(4,tP 2),(5,tP 9),(6,tI q.1)],(oM [.w 3,.w 4,.w 5,.w 6,.w 7,.w 8] 9 190 (ci q.2)++[(0,.var 60 (kM [.f,.f,.f] (cF a0))),(2,.var 190 (kM [.z,.z,.z,.z,.z,.z] (ci cY)))]),10⟩) ?_
  rintro⟨v3,v39⟩ o H
  try dsimp only
  refine wI ?_
  obtain⟨v40,Hj,H⟩:=ob H
  refine jR ⟨[(2,tP 0),(4,tP 2),(5,tP 9),(6,tI v3),(38,tB v40)],(oM [.w 3,.w 4,.w 5,.w 6,.w 7,.w 8] 9 190 (ci v39)++[(0,.var 60 (kM [.f,.f,.f] (cF a0))),(2,.var 190 (kM [.z,.z,.z,.z,.z,.z] (ci cY)))]),10⟩ ?_ ?_
  ·have H:=Hj
   refine gC H ?_ ?_<;>intro H
   ·refine gC H ?_ ?_<;>intro H
    ·cases H
     exact wo
    ·cases H
     exact wo
   ·cases H
    exact wo
  refine cC H ?_ ?_<;>intro H
  ·obtain⟨x41,hx41,H⟩:=ob H
   refine nA (xdT (enc:=dQ) hx41) ?_
   obtain⟨r42,q42,H⟩:=ob H
   refine nA (ca (hF:=Bd q42)) ?_
   obtain⟨r43,q43,H⟩:=ob H
   refine nA (ca (hF:=tD q43)) ?_
   refine cC H ?_ ?_<;>intro H
   ·obtain⟨r0,Hd,rfl⟩:=dnE H
    refine ks (fun hq=>?_)
    have H:=Hd.trans (congrArg some hq)
    refine wI ?_
    cases H
    exact ah
   ·obtain⟨r44,q44,H⟩:=ob H
    rcases hb:r44.2.2 with _|_
    ·have H:=bf hb H
     refine rU rfl (ca (hF:=Bn q44 hb)) ?_
     simp only[hb]
     refine wI ?_
     obtain⟨r0,Hd,rfl⟩:=dnE H
     refine ks (fun hq=>?_)
     have H:=Hd.trans (congrArg some hq)
     refine wI ?_
     cases H
     exact ah
    ·have H:=bt hb H
     refine rU rfl (ca (hF:=Bo q44 hb)) ?_
     simp only[hb]
     refine wI ?_
     refine zI (List.range 9) ?_
     obtain⟨r45,q45,H⟩:=ob H
     refine zA (ca (hF:=(BG q45).frzs (by repeat (first|exact trivial|refine⟨?_,?_⟩|exact lm _|rfl)))) ?_
     obtain⟨h,H⟩:=rq H
     refine zB bO (f8 rfl (apT (enc:=dq) (ys:=v39.bC) (zs:=[r45]) h)) bO ?_
     refine wA (spx 100400) ?_
     cases H
     refine dU ?_
     refine an (wS 3 10) ?_
     refine an (wS 4 11) ?_
     refine an (wS 5 16) ?_
     refine an (wS 6 13) ?_
     exact wo
  ·obtain⟨r0,Hd,rfl⟩:=dnE H
   refine dT (fun hq=>?_)
   have H:=Hd.trans (congrArg some hq)
   refine wI ?_
   cases H
   exact ah
def jc (a0:ag) (a1:aA):Option bK:=
 Vj (bif leB a0.bF 0 then(some true) else(bif !eqB a1.aa a0.bF then(some true) else(Vj (lO a0.aF a1.bN) fun r2=>bif !r2 then(some true) else(some (leB 999999 a0.aO))))) fun(v1:Bool)=>bif v1 then(Vj (lg a0) fun r3=>some r3) else(Vj (gh a0) fun r4=>Vj (oL (⟨r4.bv,r4.gL,1,cr,0,a0.bF,a0.aF.eY,WR (a0.aO+1),a1.aX,0,fa,r4.ax,r4.aq,r4.d4,r4.bW⟩:ag) 4) fun r5=>some r5)
theorem vN {a0:ag} {a1:aA} {r:bK} (H:jc a0 a1=some r):Fn Tryz.prog 357 [.agg (bZ a0),.agg (eb a1)] [.agg (qM [.d,.d,.d,.o] (ed r))]:=by
 refine fI Tryz.func357 Tryz.ntmps357 ?_
 obtain⟨v1,Hj,H⟩:=ob H
 refine jR ⟨[(2,tP 0),(3,tP 1),(4,tP 2),(28,tB v1)],[(0,.var 60 (kM [.f,.f,.f] (cF a0))),(1,.var 72 (kM [] (cP a1))),(2,.var 236 (kM [.z,.z,.z,.z] (ed mT)))],3⟩ ?_ ?_
 ·have H:=Hj
  refine gC H ?_ ?_<;>intro H
  ·cases H
   exact wo
  ·refine gC H ?_ ?_<;>intro H
   ·cases H
    exact wo
   ·obtain⟨r2,q2,H⟩:=ob H
    refine nG (ca (hF:=vO q2)) ?_
    refine gC H ?_ ?_<;>intro H
    ·cases H
     exact wo
    ·cases H
     exact wo
 refine cC H ?_ ?_<;>intro H
 ·obtain⟨r3,q3,H⟩:=ob H
  refine nA (ca (hF:=lQ q3)) ?_
  cases H
  refine cG (aV (o:=3)) ?_
  refine cG (aV (o:=4)) ?_
  refine cG (aV (o:=5)) ?_
  refine cG (dx (o:=2)) ?_
  exact ah
 ·obtain⟨r4,q4,H⟩:=ob H
  refine nA (ca (hF:=fX q4)) ?_
  obtain⟨r5,q5,H⟩:=ob H
  refine bT (aV (o:=3)) ?_
  refine bT (aV (o:=4)) ?_
  refine bT (aV (o:=5)) ?_
  refine bT (cI (k:=54)) ?_
  refine sA (cwu [] [(210,7)] 8 (FnV.up (xv q5) rfl rfl)) ?_
  cases H
  exact ah
end Go.AM
