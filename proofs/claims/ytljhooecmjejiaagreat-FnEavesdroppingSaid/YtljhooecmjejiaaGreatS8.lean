/- A part. -/
import Derived.Test.YtljhooecmjejiaaGreatS4
import Derived.Test.YtljhooecmjejiaaGreatS5
set_option linter.unusedVariables false
open Option renaming bind→Vj
open List renaming range→TU
namespace Go.AM
open Go.Proofs
attribute [local irreducible] AWN NS AWO AWR AWC DR cZ ey
set_option maxRecDepth 100000
set_option maxHeartbeats 40000000
def iz (a1:ae) (r1:aP):Int→Option (cp (Int) (Int))
 |v6=>Vj (bif ltB v6 ((r1.aF.length:Nat):Int) then(Vj (ix r1.aF v6) fun x11=>some (ltB x11.cT a1.cT)) else(some false)) fun(v10:Bool)=>bif v10 then(some (.next (WR (v6+1)))) else(some (.done v6))
def pk:aP→Option (cp (aP) (aP))
 |v15=>Vj (bif ltB 0 ((v15.aF.length:Nat):Int) then(Vj (ix v15.aF 0) fun x24=>bif eqB x24.cT v15.bm then(some (ltB ((v15.aS.length:Nat):Int) 24)) else(some false)) else(some false)) fun(v23:Bool)=>bif v23 then(Vj (ix v15.aF 0) fun x25=>bif cM 24 (v15.aS++[(⟨x25.aQ⟩:b9)]).length then(bif fL v15.aF 1 v15.aF.length then(some (.next (⟨WR (v15.bm+1),v15.aF.drop ((1:Int)).toNat,(v15.aS++[(⟨x25.aQ⟩:b9)])⟩:aP))) else none) else none) else(some (.done v15))
def kW (a0:aP) (a1:ae):Option aP:=
 Vj (tM a0) fun r1=>Vj (gG a0) fun r2=>Vj (bif !r2 then(some true) else(bif ltB 60 ((a1.aQ.length:Nat):Int) then(some true) else(Vj (cH a1.cT a0.bm (WR ((WR (a0.bm+8))-1))) fun r4=>bif !r4 then(some true) else(Vj (Bz a0.aF a1.cT) fun r5=>bif leB 0 r5 then(some true) else(some (leB 24 ((a0.aS.length:Nat):Int))))))) fun(v3:Bool)=>bif v3 then(some r1) else(Vj (iter (iz a1 r1) FU 0) fun(v9:Int)=>bif cM 1 (([]:List Int)++a1.aQ).length then(bif fL r1.aF 0 v9 then(bif fL r1.aF v9 r1.aF.length then(bif cM 32 (([]:List ae)++(r1.aF.take (v9).toNat)).length then(bif cM 32 ((([]:List ae)++(r1.aF.take (v9).toNat))++[(⟨a1.cT,(([]:List Int)++a1.aQ)⟩:ae)]).length then(bif cM 32 (((([]:List ae)++(r1.aF.take (v9).toNat))++[(⟨a1.cT,(([]:List Int)++a1.aQ)⟩:ae)])++(r1.aF.drop (v9).toNat)).length then(Vj (iter (pk) FU {r1 with aF:=(((([]:List ae)++(r1.aF.take (v9).toNat))++[(⟨a1.cT,(([]:List Int)++a1.aQ)⟩:ae)])++(r1.aF.drop (v9).toNat))}) fun(v22:aP)=>Vj (bif eqB ((v22.aS.length:Nat):Int) 24 then(some ([]:List ae)) else(some v22.aF)) fun(v26:List ae)=>some {v22 with aF:=v26}) else none) else none) else none) else none) else none) else none)
theorem yp {a0:aP} {a1:ae} {r:aP} (H:kW a0 a1=some r):Fn Tryz.prog 361 [.agg (mK a0),.agg (aG a1)] [.agg (qM [.d,.o] (co r))]:=by
 refine fI Tryz.func361 Tryz.ntmps361 ?_
 obtain⟨r1,q1,H⟩:=ob H
 refine nA (ca (hF:=BA q1)) ?_
 obtain⟨r2,q2,H⟩:=ob H
 refine nA (ca (hF:=oB q2)) ?_
 obtain⟨v3,Hj,H⟩:=ob H
 refine jR ⟨[(3,tP 1),(4,tP 2),(5,tP 5),(44,tB v3)],(oM [.w 3,.w 4] 5 39 (co r1)++[(1,.var 136 (kM [.f] (du a1))),(2,.var 39 (kM [.z,.z] (co dv)))]),6⟩ ?_ ?_
 ·have H:=Hj
  refine gC H ?_ ?_<;>intro H
  ·cases H
   exact wo
  ·refine gC H ?_ ?_<;>intro H
   ·cases H
    exact wo
   ·obtain⟨r4,q4,H⟩:=ob H
    refine nG (ca (hF:=bL q4)) ?_
    refine gC H ?_ ?_<;>intro H
    ·cases H
     exact wo
    ·obtain⟨r5,q5,H⟩:=ob H
     refine nG (ca (hF:=IU q5)) ?_
     refine gC H ?_ ?_<;>intro H
     ·cases H
      exact wo
     ·cases H
      exact wo
 refine cC H ?_ ?_<;>intro H
 ·cases H
  refine cG (aV (o:=3)) ?_
  refine cG (dx (o:=2)) ?_
  exact ah
 ·obtain⟨v9,Hj,H⟩:=ob H
  refine jB ⟨[(3,tP 1),(4,tP 2),(5,tP 5),(6,tI v9)],(oM [.w 3,.w 4] 5 39 (co r1)++[(1,.var 136 (kM [.f] (du a1))),(2,.var 39 (kM [.z,.z] (co dv)))]),6⟩ ?_ ?_
  ·refine iT Hj (fun q=>⟨[(3,tP 1),(4,tP 2),(5,tP 5),(6,tI q)],(oM [.w 3,.w 4] 5 39 (co r1)++[(1,.var 136 (kM [.f] (du a1))),(2,.var 39 (kM [.z,.z] (co dv)))]),6⟩) ?_
   rintro v6 o H
   try dsimp only
   refine wI ?_
   refine dI ?_
   obtain⟨v10,Hj,H⟩:=ob H
   refine fF ⟨[(3,tP 1),(4,tP 2),(5,tP 5),(6,tI v6),(61,tB v10)],(oM [.w 3,.w 4] 5 39 (co r1)++[(1,.var 136 (kM [.f] (du a1))),(2,.var 39 (kM [.z,.z] (co dv)))]),6⟩ ?_ ?_
   ·have H:=Hj
    refine wI ?_
    refine dC H ?_ ?_<;>intro H
    ·obtain⟨x11,hx11,H⟩:=ob H
     refine dG (xwT hx11) ?_
     refine dG (oe (he:=eU _ hx11)) ?_
     refine wI ?_
     cases H
     exact wo
    ·refine wI ?_
     cases H
     exact wo
   refine wI ?_
   refine cC H ?_ ?_<;>intro H
   ·refine wI ?_
    cases H
    refine dU ?_
    exact wo
   ·cases H
    refine dT (fun hq=>?_)
    cases hq
    refine wI ?_
    exact wo
  refine zI [0,1,2,3,4,7,5,6,8] ?_
  obtain⟨h,H⟩:=rq H
  refine wA (B2 (enc:=eU8) (ys:=([]:List Int)) (zs:=a1.aQ) [6] h) ?_
  refine wA (spx 100452) ?_
  refine iV (ds:=[6]) (by kernel_rfl) (by kernel_rfl) rfl ?_
  refine wI ?_
  refine jr (aV (o:=8)) ?_
  refine jr (cI (k:=69)) ?_
  refine jr (cI (k:=70)) ?_
  refine jr (dx (o:=7)) ?_
  refine zI [0,1,2,3,4,6,7,9,10,11,12,5,8,13,14,15] ?_
  obtain⟨hs10,H⟩:=rq H
  refine zA (cwhT (enc:=aG) hs10 (by first|rfl|simp) rfl rfl rfl rfl) ?_
  obtain⟨hs11,H⟩:=rq H
  refine zA (cwlT (enc:=aG) hs11 (by first|rfl|simp) rfl rfl rfl rfl) ?_
  obtain⟨h,H⟩:=rq H
  refine wA (apx (enc:=aG) (ys:=([]:List ae)) (zs:=r1.aF.take (v9).toNat) [9,3] h (hs:=Rm (enc:=aG) hs10 rfl)) ?_
  obtain⟨h,H⟩:=rq H
  refine wA (apx (enc:=aG) (ys:=(([]:List ae)++(r1.aF.take (v9).toNat))) (zs:=[(⟨a1.cT,(([]:List Int)++a1.aQ)⟩:ae)]) [11,10] h) ?_
  obtain⟨h,H⟩:=rq H
  refine wA (apx (enc:=aG) (ys:=((([]:List ae)++(r1.aF.take (v9).toNat))++[(⟨a1.cT,(([]:List Int)++a1.aQ)⟩:ae)])) (zs:=r1.aF.drop (v9).toNat) [12,3] h (hs:=Rn (enc:=aG) hs11 (by first|rfl|simp) rfl)) ?_
  refine wA (spx 100451) ?_
  refine iV (ds:=[9,11,12]) (by kernel_rfl) (by kernel_rfl) rfl ?_
  refine wI ?_
  obtain⟨v22,Hj,H⟩:=ob H
  refine jB ⟨[(4,tP 2),(5,tP 5)],(oM [.t,.w 4] 5 39 (co v22)++[(2,.var 39 (kM [.z,.z] (co dv)))]),6⟩ ?_ ?_
  ·refine iT Hj (fun q=>⟨[(4,tP 2),(5,tP 5)],(oM [.t,.w 4] 5 39 (co q)++[(2,.var 39 (kM [.z,.z] (co dv)))]),6⟩) ?_ (by refine an (aV (o:=13)) ?_;refine an (cI (k:=84)) ?_;refine an (dx (o:=5)) ?_;exact wo)
   rintro v15 o H
   try dsimp only
   refine wI ?_
   refine dI ?_
   obtain⟨v23,Hj,H⟩:=ob H
   refine fF ⟨[(4,tP 2),(5,tP 5),(105,tB v23)],(oM [.t,.w 4] 5 39 (co v15)++[(2,.var 39 (kM [.z,.z] (co dv)))]),6⟩ ?_ ?_
   ·have H:=Hj
    refine wI ?_
    refine dC H ?_ ?_<;>intro H
    ·obtain⟨x24,hx24,H⟩:=ob H
     refine dG (xdT (enc:=aG) hx24) ?_
     refine dC H ?_ ?_<;>intro H
     ·refine wI ?_
      cases H
      exact wo
     ·refine wI ?_
      cases H
      exact wo
    ·refine wI ?_
     cases H
     exact wo
   refine wI ?_
   refine cC H ?_ ?_<;>intro H
   ·refine zI (TU 12) ?_
    obtain⟨x25,hx25,H⟩:=ob H
    refine zA (xdT (enc:=aG) hx25) ?_
    obtain⟨h,H⟩:=rq H
    refine zB bO (f8 rfl (apT (enc:=dQ) (ys:=v15.aS) (zs:=[(⟨x25.aQ⟩:b9)]) h)) bO ?_
    refine wA (spx 100450) ?_
    obtain⟨h,H⟩:=rq H
    refine nA (Ry (enc:=aG) h (fun _=>rfl) rfl rfl rfl) ?_
    cases H
    refine dU ?_
    exact wo
   ·cases H
    refine dT (fun hq=>?_)
    cases hq
    refine wI ?_
    exact wo
  obtain⟨v26,Hj,H⟩:=ob H
  refine jA ⟨[(4,tP 2),(5,tP 5)],(oM [.t,.w 4] 5 39 (co {v22 with aF:=v26})++[(2,.var 39 (kM [.z,.z] (co dv)))]),6⟩ ?_ ?_
  ·have H:=Hj
   refine cC H ?_ ?_<;>intro H
   ·cases H
    refine an (aV (o:=6)) ?_
    refine an (cI (k:=129)) ?_
    refine an (dx (o:=5)) ?_
    exact wo
   ·cases H
    exact wo
  cases H
  exact ah
def xA (a0:ab) (a1:Int) (a2:Bool):Option (Bool×ab):=
 Vj (cH a1 0 (WR (((a0.dZ.aZ.length:Nat):Int)-1))) fun r1=>Vj (bif !r1 then(some true) else(Vj (qz a0 a1) fun r3=>some (booB r3 a2))) fun(v2:Bool)=>bif v2 then(some (false,a0)) else(bif leB 0 a1 then(some (true,{a0 with dt:=FG .i64 a0.dt (kw .i64 1 a1)})) else none)
theorem IX {a0:ab} {a1:Int} {a2:Bool} {r:Bool×ab} (H:xA a0 a1 a2=some r):FnV Tryz.prog 231 (nS a0) [tP 200,tI a1,tB a2] (nS r.2) (.v (.c (.d false (.b r.1)))) []:=by
 refine fV Tryz.func231 Tryz.ntmps231 ?_
 obtain⟨r1,q1,H⟩:=ob H
 refine nA (ca (hF:=bL q1)) ?_
 obtain⟨v2,Hj,H⟩:=ob H
 refine jR ⟨[(0,tP 200),(1,tI a1),(25,tB v2)],(nS a0),210⟩ ?_ ?_
 ·have H:=Hj
  refine gC H ?_ ?_<;>intro H
  ·cases H
   exact wo
  ·obtain⟨r3,q3,H⟩:=ob H
   refine nG (ca (hF:=yQ q3)) ?_
   cases H
   exact wo
 refine cC H ?_ ?_<;>intro H
 ·cases H
  exact bU
 ·refine zI (TU 11) ?_
  obtain⟨h,H⟩:=rq H
  refine zA (Ii h rfl rfl rfl rfl) ?_
  refine wA (spx 100476) ?_
  cases H
  exact bU
def mu (a0:bP) (a1:Int):Option Bool:=
 Vj (ja a0) fun r1=>Vj (bif r1 then(Vj (cH a1 0 (WR (a0.fM-1))) fun r3=>bif r3 then(bif leB 0 a1 then(some (eqB (xN .i64 (B3 .i64 a0.fA a1) 1) 1)) else none) else(some false)) else(some false)) fun(v2:Bool)=>some v2
theorem vd {a0:bP} {a1:Int} {r:Bool} (H:mu a0 a1=some r):Fn Tryz.prog 18 [.agg (nh a0),aI a1] [.c (.d (.b r))]:=by
 refine fI Tryz.func18 Tryz.ntmps18 ?_
 obtain⟨r1,q1,H⟩:=ob H
 refine nA (ca (hF:=oA q1)) ?_
 obtain⟨v2,Hj,H⟩:=ob H
 refine jR ⟨[(4,tB v2)],[],0⟩ ?_ ?_
 ·have H:=Hj
  refine gC H ?_ ?_<;>intro H
  ·obtain⟨r3,q3,H⟩:=ob H
   refine nG (ca (hF:=bL q3)) ?_
   refine gC H ?_ ?_<;>intro H
   ·obtain⟨h,H⟩:=rq H
    refine nG (Ii h rfl rfl rfl rfl) ?_
    cases H
    exact wo
   ·cases H
    exact wo
  ·cases H
   exact wo
 cases H
 exact ah
def nH (a0:bP) (a1:Int) (a2:Bool):Option bP:=
 Vj (ja a0) fun r1=>Vj (bif !r1 then(some true) else(Vj (cH a1 0 (WR (a0.fM-1))) fun r3=>some (!r3))) fun(v2:Bool)=>bif v2 then(some a0) else(Vj (bif a2 then(bif leB 0 a1 then(some (bOr .i64 a0.fA (kw .i64 1 a1))) else none) else(bif leB 0 a1 then(some (ua .i64 a0.fA (kw .i64 1 a1))) else none)) fun(v4:Int)=>some (⟨a0.fM,v4⟩:bP))
theorem Bp {a0:bP} {a1:Int} {a2:Bool} {r:bP} (H:nH a0 a1 a2=some r):Fn Tryz.prog 290 [.agg (nh a0),aI a1,aB a2] [.agg (qM [] (d6 r))]:=by
 refine fI Tryz.func290 Tryz.ntmps290 ?_
 obtain⟨r1,q1,H⟩:=ob H
 refine nA (ca (hF:=oA q1)) ?_
 obtain⟨v2,Hj,H⟩:=ob H
 refine jR ⟨[(1,tI a1),(2,tB a2),(3,tP 0),(6,tP 1),(18,tB v2)],[(0,.var 32 (kM [] (d6 a0))),(1,.var 32 (kM [] (d6 rQ)))],2⟩ ?_ ?_
 ·have H:=Hj
  refine gC H ?_ ?_<;>intro H
  ·cases H
   exact wo
  ·obtain⟨r3,q3,H⟩:=ob H
   refine nG (ca (hF:=bL q3)) ?_
   cases H
   exact wo
 refine cC H ?_ ?_<;>intro H
 ·cases H
  exact ah
 ·obtain⟨v4,Hj,H⟩:=ob H
  refine jA ⟨[(6,tP 1),(7,tP 2)],[(1,.var 32 (kM [] (d6 rQ))),(2,.var 32 (kM [] (d6 (⟨a0.fM,v4⟩:bP))))],3⟩ ?_ ?_
  ·have H:=Hj
   refine cC H ?_ ?_<;>intro H
   ·refine zI (TU 7) ?_
    obtain⟨h,H⟩:=rq H
    refine zA (Ii h rfl rfl rfl rfl) ?_
    refine wA (spx 100483) ?_
    cases H
    exact wo
   ·refine zI (TU 7) ?_
    obtain⟨h,H⟩:=rq H
    refine zA (Ii h rfl rfl rfl rfl) ?_
    refine wA (spx 100484) ?_
    cases H
    exact wo
  cases H
  exact ah
def BM:(Int×List Int×aE)→Option (cp (Int×List Int×aE) (List Int×aE))
 |(v2,v6,v7)=>bif ltB 0 v2 then(Vj (bS v7 3) fun r14=>bif cM 8 (v6++[r14.1]).length then(some (.next (WR (v2-1),(v6++[r14.1]),r14.2))) else none) else(some (.done (v6,v7)))
def zS (a0:aE):Option (b8×aE):=
 Vj (bS a0 5) fun r1=>Vj (iter (BM) FU (r1.1,([]:List Int),r1.2)) fun((v12,v13):List Int×aE)=>some ((⟨v12⟩:b8),v13)
theorem L2 {a0:aE} {r:b8×aE} (H:zS a0=some r):FnV Tryz.prog 216 [(200,.var 143 (kM [.f] (bg a0)))] [tP 200] [(200,.var 143 (kM [.f] (bg r.2)))] (.v (.agg [.wn 210 r.1.Steps.length])) [(210,n3 r.1.Steps)]:=by
 refine fV Tryz.func216 Tryz.ntmps216 ?_
 obtain⟨r1,q1,H⟩:=ob H
 refine sA (cw (o:=200) (bz q1)) ?_
 obtain⟨⟨v12,v13⟩,Hj,H⟩:=ob H
 refine jB ⟨[(2,tP 210),(3,tP 211)],[(200,.var 143 (kM [.f] (bg v13))),(210,.var 97 [.nil]),(211,.var 97 [.wn 212 v12.length]),(212,n3 v12)],213⟩ ?_ ?_
 ·refine iT Hj (fun q=>⟨[(0,tP 200),(2,tP 210),(3,tP 211),(4,tI q.1)],[(200,.var 143 (kM [.f] (bg q.2.2))),(210,.var 97 [.nil]),(211,.var 97 [.wn 212 q.2.1.length]),(212,n3 q.2.1)],213⟩) ?_ (by refine an (c7 (o:=211) (j:=0) 3 1 true) ?_;refine an (wB 212 (([]:List Int).length)) ?_;exact wo)
  rintro⟨v2,v6,v7⟩ o H
  try dsimp only
  refine wI ?_
  refine cC H ?_ ?_<;>intro H
  ·refine zI (TU 8) ?_
   obtain⟨r14,q14,H⟩:=ob H
   refine wA (cwx (o:=200) (bz q14)) ?_
   obtain⟨h,H⟩:=rq H
   refine zB bO (f8 rfl (xL (enc:=eI) (ys:=v6) (zs:=[r14.1]) h (by first|exact List.cons_ne_nil _ _|simp) rfl (fun _=>rfl) (by first|rfl|simp) (.w rfl (by first|rfl|exact lm _|simp)) rfl rfl rfl rfl rfl rfl rfl rfl rfl rfl)) bO ?_
   refine wA (spx 100731) ?_
   cases H
   refine dU ?_
   refine an (c8 212) ?_
   exact wo
  ·cases H
   refine dT (fun hq=>?_)
   cases hq
   refine wI ?_
   exact wo
 cases H
 refine bV (wS 212 210) ?_
 exact bU
end Go.AM
