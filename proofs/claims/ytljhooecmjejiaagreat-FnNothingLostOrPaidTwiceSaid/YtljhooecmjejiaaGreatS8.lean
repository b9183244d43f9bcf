/- A part. -/
import Derived.Test.YtljhooecmjejiaaGreatS3
import Derived.Test.YtljhooecmjejiaaGreatS4
import Derived.Test.YtljhooecmjejiaaGreatS5
set_option linter.unusedVariables false
open Option renaming bind→Un
namespace Go.AM
open Go.Proofs
attribute [local irreducible] AWN NS AWO AWR AWC DR cZ eE
set_option maxRecDepth 100000
set_option maxHeartbeats 40000000
def iw (a1:ae) (r1:aM):Int→Option (cB (Int) (Int))
 |v6=>Un (bif ltB v6 ((r1.aD.length:Nat):Int) then(Un (ix r1.aD v6) fun x11=>some (ltB x11.cO a1.cO)) else(some false)) fun(v10:Bool)=>bif v10 then(some (.next (WR (v6+1)))) else(some (.done v6))
def oW:aM→Option (cB (aM) (aM))
 |v15=>Un (bif ltB 0 ((v15.aD.length:Nat):Int) then(Un (ix v15.aD 0) fun x24=>bif eqB x24.cO v15.bj then(some (ltB ((v15.aG.length:Nat):Int) 24)) else(some false)) else(some false)) fun(v23:Bool)=>bif v23 then(Un (ix v15.aD 0) fun x25=>bif cS 24 (v15.aG++[(⟨x25.aN⟩:bw)]).length then(bif fw v15.aD 1 v15.aD.length then(some (.next (⟨WR (v15.bj+1),v15.aD.drop ((1:Int)).toNat,(v15.aG++[(⟨x25.aN⟩:bw)])⟩:aM))) else none) else none) else(some (.done v15))
def kF (a0:aM) (a1:ae):Option aM:=
 Un (sZ a0) fun r1=>Un (gH a0) fun r2=>Un (bif !r2 then(some true) else(bif ltB 60 ((a1.aN.length:Nat):Int) then(some true) else(Un (cz a1.cO a0.bj (WR ((WR (a0.bj+8))-1))) fun r4=>bif !r4 then(some true) else(Un (AB a0.aD a1.cO) fun r5=>bif leB 0 r5 then(some true) else(some (leB 24 ((a0.aG.length:Nat):Int))))))) fun(v3:Bool)=>bif v3 then(some r1) else(Un (iter (iw a1 r1) FU 0) fun(v9:Int)=>bif cS 1 (([]:List Int)++a1.aN).length then(bif fw r1.aD 0 v9 then(bif fw r1.aD v9 r1.aD.length then(bif cS 32 (([]:List ae)++(r1.aD.take (v9).toNat)).length then(bif cS 32 ((([]:List ae)++(r1.aD.take (v9).toNat))++[(⟨a1.cO,(([]:List Int)++a1.aN)⟩:ae)]).length then(bif cS 32 (((([]:List ae)++(r1.aD.take (v9).toNat))++[(⟨a1.cO,(([]:List Int)++a1.aN)⟩:ae)])++(r1.aD.drop (v9).toNat)).length then(Un (iter (oW) FU {r1 with aD:=(((([]:List ae)++(r1.aD.take (v9).toNat))++[(⟨a1.cO,(([]:List Int)++a1.aN)⟩:ae)])++(r1.aD.drop (v9).toNat))}) fun(v22:aM)=>Un (bif eqB ((v22.aG.length:Nat):Int) 24 then(some ([]:List ae)) else(some v22.aD)) fun(v26:List ae)=>some {v22 with aD:=v26}) else none) else none) else none) else none) else none) else none)
theorem xr {a0:aM} {a1:ae} {r:aM} (H:kF a0 a1=some r):Fn Tryz.prog 361 [.agg (mx a0),.agg (aE a1)] [.agg (qM [.d,.o] (cf r))]:=by
 refine fI Tryz.func361 Tryz.ntmps361 ?_
 obtain⟨r1,q1,H⟩:=ob H
 refine nA (ca (hF:=AC q1)) ?_
 obtain⟨r2,q2,H⟩:=ob H
 refine nA (ca (hF:=n0 q2)) ?_
 obtain⟨v3,Hj,H⟩:=ob H
 refine jR ⟨[(3,tP 1),(4,tP 2),(5,tP 5),(44,tB v3)],(oM [.w 3,.w 4] 5 39 (cf r1)++[(1,.var 136 (kM [.f] (ec a1))),(2,.var 39 (kM [.z,.z] (cf dm)))]),6⟩ ?_ ?_
 ·have H:=Hj
  refine gC H ?_ ?_<;>intro H
  ·cases H
   exact wo
  ·refine gC H ?_ ?_<;>intro H
   ·cases H
    exact wo
   ·obtain⟨r4,q4,H⟩:=ob H
    refine nG (ca (hF:=bK q4)) ?_
    refine gC H ?_ ?_<;>intro H
    ·cases H
     exact wo
    ·obtain⟨r5,q5,H⟩:=ob H
     refine nG (ca (hF:=HH q5)) ?_
     refine gC H ?_ ?_<;>intro H
     ·cases H
      exact wo
     ·cases H
      exact wo
 refine cC H ?_ ?_<;>intro H
 ·cases H
  refine cG (aT (o:=3)) ?_
  refine cG (dr (o:=2)) ?_
  exact ah
 ·obtain⟨v9,Hj,H⟩:=ob H
  refine jB ⟨[(3,tP 1),(4,tP 2),(5,tP 5),(6,tI v9)],(oM [.w 3,.w 4] 5 39 (cf r1)++[(1,.var 136 (kM [.f] (ec a1))),(2,.var 39 (kM [.z,.z] (cf dm)))]),6⟩ ?_ ?_
  ·refine iT Hj (fun q=>⟨[(3,tP 1),(4,tP 2),(5,tP 5),(6,tI q)],(oM [.w 3,.w 4] 5 39 (cf r1)++[(1,.var 136 (kM [.f] (ec a1))),(2,.var 39 (kM [.z,.z] (cf dm)))]),6⟩) ?_
   rintro v6 o H
   try dsimp only
   refine wI ?_
   refine dI ?_
   obtain⟨v10,Hj,H⟩:=ob H
   refine fR ⟨[(3,tP 1),(4,tP 2),(5,tP 5),(6,tI v6),(61,tB v10)],(oM [.w 3,.w 4] 5 39 (cf r1)++[(1,.var 136 (kM [.f] (ec a1))),(2,.var 39 (kM [.z,.z] (cf dm)))]),6⟩ ?_ ?_
   ·have H:=Hj
    refine wI ?_
    refine dC H ?_ ?_<;>intro H
    ·obtain⟨x11,hx11,H⟩:=ob H
     refine dG (xwT hx11) ?_
     refine dG (oe (he:=fZ _ hx11)) ?_
     refine wI ?_
     cases H
     exact wo
    ·refine wI ?_
     cases H
     exact wo
   refine wI ?_
   refine cC H ?_ ?_<;>intro H
   ·refine wI ?_
    cases H
    refine ee ?_
    exact wo
   ·cases H
    refine ed (fun hq=>?_)
    cases hq
    refine wI ?_
    exact wo
  refine zI [0,1,2,3,4,7,5,6,8] ?_
  obtain⟨h,H⟩:=rq H
  refine wA (A4 (enc:=eU8) (ys:=([]:List Int)) (zs:=a1.aN) [6] h) ?_
  refine wA (spx 100452) ?_
  refine jt (ds:=[6]) (by kernel_rfl) (by kernel_rfl) rfl ?_
  refine wI ?_
  refine jY (aT (o:=8)) ?_
  refine jY (cA (k:=69)) ?_
  refine jY (cA (k:=70)) ?_
  refine jY (dr (o:=7)) ?_
  refine zI [0,1,2,3,4,6,7,9,10,11,12,5,8,13,14,15] ?_
  obtain⟨hs10,H⟩:=rq H
  refine zA (cwhT (enc:=aE) hs10 (by first|rfl|simp) rfl rfl rfl rfl) ?_
  obtain⟨hs11,H⟩:=rq H
  refine zA (cwlT (enc:=aE) hs11 (by first|rfl|simp) rfl rfl rfl rfl) ?_
  obtain⟨h,H⟩:=rq H
  refine wA (apx (enc:=aE) (ys:=([]:List ae)) (zs:=r1.aD.take (v9).toNat) [9,3] h (hs:=Qb (enc:=aE) hs10 rfl)) ?_
  obtain⟨h,H⟩:=rq H
  refine wA (apx (enc:=aE) (ys:=(([]:List ae)++(r1.aD.take (v9).toNat))) (zs:=[(⟨a1.cO,(([]:List Int)++a1.aN)⟩:ae)]) [11,10] h) ?_
  obtain⟨h,H⟩:=rq H
  refine wA (apx (enc:=aE) (ys:=((([]:List ae)++(r1.aD.take (v9).toNat))++[(⟨a1.cO,(([]:List Int)++a1.aN)⟩:ae)])) (zs:=r1.aD.drop (v9).toNat) [12,3] h (hs:=Qc (enc:=aE) hs11 (by first|rfl|simp) rfl)) ?_
  refine wA (spx 100451) ?_
  refine jt (ds:=[9,11,12]) (by kernel_rfl) (by kernel_rfl) rfl ?_
  refine wI ?_
  obtain⟨v22,Hj,H⟩:=ob H
  refine jB ⟨[(4,tP 2),(5,tP 5)],(oM [.t,.w 4] 5 39 (cf v22)++[(2,.var 39 (kM [.z,.z] (cf dm)))]),6⟩ ?_ ?_
  ·refine iT Hj (fun q=>⟨[(4,tP 2),(5,tP 5)],(oM [.t,.w 4] 5 39 (cf q)++[(2,.var 39 (kM [.z,.z] (cf dm)))]),6⟩) ?_ (by refine aq (aT (o:=13)) ?_;refine aq (cA (k:=84)) ?_;refine aq (dr (o:=5)) ?_;exact wo)
   rintro v15 o H
   try dsimp only
   refine wI ?_
   refine dI ?_
   obtain⟨v23,Hj,H⟩:=ob H
   refine fR ⟨[(4,tP 2),(5,tP 5),(105,tB v23)],(oM [.t,.w 4] 5 39 (cf v15)++[(2,.var 39 (kM [.z,.z] (cf dm)))]),6⟩ ?_ ?_
   ·have H:=Hj
    refine wI ?_
    refine dC H ?_ ?_<;>intro H
    ·obtain⟨x24,hx24,H⟩:=ob H
     refine dG (xdT (enc:=aE) hx24) ?_
     refine dC H ?_ ?_<;>intro H
     ·refine wI ?_
      cases H
      exact wo
     ·refine wI ?_
      cases H
      exact wo
    ·refine wI ?_
     cases H
     exact wo
   refine wI ?_
   refine cC H ?_ ?_<;>intro H
   ·refine zI (List.range 12) ?_
    obtain⟨x25,hx25,H⟩:=ob H
    refine zA (xdT (enc:=aE) hx25) ?_
    obtain⟨h,H⟩:=rq H
    refine zB bT (gq rfl (apT (enc:=cj) (ys:=v15.aG) (zs:=[(⟨x25.aN⟩:bw)]) h)) bT ?_
    refine wA (spx 100450) ?_
    obtain⟨h,H⟩:=rq H
    refine nA (Qp (enc:=aE) h (fun _=>rfl) rfl rfl rfl) ?_
    cases H
    refine ee ?_
    exact wo
   ·cases H
    refine ed (fun hq=>?_)
    cases hq
    refine wI ?_
    exact wo
  obtain⟨v26,Hj,H⟩:=ob H
  refine jA ⟨[(4,tP 2),(5,tP 5)],(oM [.t,.w 4] 5 39 (cf {v22 with aD:=v26})++[(2,.var 39 (kM [.z,.z] (cf dm)))]),6⟩ ?_ ?_
  ·have H:=Hj
   refine cC H ?_ ?_<;>intro H
   ·cases H
    refine aq (aT (o:=6)) ?_
    refine aq (cA (k:=129)) ?_
    refine aq (dr (o:=5)) ?_
    exact wo
   ·cases H
    exact wo
  cases H
  exact ah
def wE (a0:ab) (a1:Int) (a2:Bool):Option (Bool×ab):=
 Un (cz a1 0 (WR (((a0.dW.aX.length:Nat):Int)-1))) fun r1=>Un (bif !r1 then(some true) else(Un (qa a0 a1) fun r3=>some (booB r3 a2))) fun(v2:Bool)=>bif v2 then(some (false,a0)) else(bif leB 0 a1 then(some (true,{a0 with dh:=Er .i64 a0.dh (jZ .i64 1 a1)})) else none)
theorem HK {a0:ab} {a1:Int} {a2:Bool} {r:Bool×ab} (H:wE a0 a1 a2=some r):FnV Tryz.prog 231 (nS a0) [tP 200,tI a1,tB a2] (nS r.2) (.v (.c (.d false (.b r.1)))) []:=by
 refine fV Tryz.func231 Tryz.ntmps231 ?_
 obtain⟨r1,q1,H⟩:=ob H
 refine nA (ca (hF:=bK q1)) ?_
 obtain⟨v2,Hj,H⟩:=ob H
 refine jR ⟨[(0,tP 200),(1,tI a1),(25,tB v2)],(nS a0),210⟩ ?_ ?_
 ·have H:=Hj
  refine gC H ?_ ?_<;>intro H
  ·cases H
   exact wo
  ·obtain⟨r3,q3,H⟩:=ob H
   refine nG (ca (hF:=xS q3)) ?_
   cases H
   exact wo
 refine cC H ?_ ?_<;>intro H
 ·cases H
  exact bV
 ·refine zI (List.range 11) ?_
  obtain⟨h,H⟩:=rq H
  refine zA (G1 h rfl rfl rfl rfl) ?_
  refine wA (spx 100476) ?_
  cases H
  exact bV
def lZ (a0:bN) (a1:Int):Option Bool:=
 Un (iR a0) fun r1=>Un (bif r1 then(Un (cz a1 0 (WR (a0.fH-1))) fun r3=>bif r3 then(bif leB 0 a1 then(some (eqB (wU .i64 (A5 .i64 a0.fj a1) 1) 1)) else none) else(some false)) else(some false)) fun(v2:Bool)=>some v2
theorem uu {a0:bN} {a1:Int} {r:Bool} (H:lZ a0 a1=some r):Fn Tryz.prog 18 [.agg (mQ a0),aI a1] [.c (.d (.b r))]:=by
 refine fI Tryz.func18 Tryz.ntmps18 ?_
 obtain⟨r1,q1,H⟩:=ob H
 refine nA (ca (hF:=nZ q1)) ?_
 obtain⟨v2,Hj,H⟩:=ob H
 refine jR ⟨[(4,tB v2)],[],0⟩ ?_ ?_
 ·have H:=Hj
  refine gC H ?_ ?_<;>intro H
  ·obtain⟨r3,q3,H⟩:=ob H
   refine nG (ca (hF:=bK q3)) ?_
   refine gC H ?_ ?_<;>intro H
   ·obtain⟨h,H⟩:=rq H
    refine nG (G1 h rfl rfl rfl rfl) ?_
    cases H
    exact wo
   ·cases H
    exact wo
  ·cases H
   exact wo
 cases H
 exact ah
def nj (a0:bN) (a1:Int) (a2:Bool):Option bN:=
 Un (iR a0) fun r1=>Un (bif !r1 then(some true) else(Un (cz a1 0 (WR (a0.fH-1))) fun r3=>some (!r3))) fun(v2:Bool)=>bif v2 then(some a0) else(Un (bif a2 then(bif leB 0 a1 then(some (bOr .i64 a0.fj (jZ .i64 1 a1))) else none) else(bif leB 0 a1 then(some (tl .i64 a0.fj (jZ .i64 1 a1))) else none)) fun(v4:Int)=>some (⟨a0.fH,v4⟩:bN))
theorem Ar {a0:bN} {a1:Int} {a2:Bool} {r:bN} (H:nj a0 a1 a2=some r):Fn Tryz.prog 290 [.agg (mQ a0),aI a1,aB a2] [.agg (qM [] (dU r))]:=by
 refine fI Tryz.func290 Tryz.ntmps290 ?_
 obtain⟨r1,q1,H⟩:=ob H
 refine nA (ca (hF:=nZ q1)) ?_
 obtain⟨v2,Hj,H⟩:=ob H
 refine jR ⟨[(1,tI a1),(2,tB a2),(3,tP 0),(6,tP 1),(18,tB v2)],[(0,.var 32 (kM [] (dU a0))),(1,.var 32 (kM [] (dU ra)))],2⟩ ?_ ?_
 ·have H:=Hj
  refine gC H ?_ ?_<;>intro H
  ·cases H
   exact wo
  ·obtain⟨r3,q3,H⟩:=ob H
   refine nG (ca (hF:=bK q3)) ?_
   cases H
   exact wo
 refine cC H ?_ ?_<;>intro H
 ·cases H
  exact ah
 ·obtain⟨v4,Hj,H⟩:=ob H
  refine jA ⟨[(6,tP 1),(7,tP 2)],[(1,.var 32 (kM [] (dU ra))),(2,.var 32 (kM [] (dU (⟨a0.fH,v4⟩:bN))))],3⟩ ?_ ?_
  ·have H:=Hj
   refine cC H ?_ ?_<;>intro H
   ·refine zI (List.range 7) ?_
    obtain⟨h,H⟩:=rq H
    refine zA (G1 h rfl rfl rfl rfl) ?_
    refine wA (spx 100483) ?_
    cases H
    exact wo
   ·refine zI (List.range 7) ?_
    obtain⟨h,H⟩:=rq H
    refine zA (G1 h rfl rfl rfl rfl) ?_
    refine wA (spx 100484) ?_
    cases H
    exact wo
  cases H
  exact ah
end Go.AM
