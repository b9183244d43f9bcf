/- A part. -/
import Derived.Test.YtljhooecmjejiaaGreatG
set_option linter.unusedVariables false
open Option renaming bind→Vj
open List renaming replicate→TE
namespace Go.AM
open Go.Proofs
attribute [local irreducible] AWN NS AWO AWR AWC DR cZ ey
set_option maxRecDepth 100000
set_option maxHeartbeats 40000000
def gX (a0:Int) (a1:Int) (a2:Int):Option Bool:=
 Vj (bif leB a1 a0 then(some (leB a0 a2)) else(some false)) fun(v1:Bool)=>some v1
theorem jW {a0:Int} {a1:Int} {a2:Int} {r:Bool} (H:gX a0 a1 a2=some r):Fn Tryz.prog 60 [aI a0,aI a1,aI a2] [.c (.d (.b r))]:=by
 refine fI Tryz.func60 Tryz.ntmps60 ?_
 obtain⟨v1,Hj,H⟩:=ob H
 refine jR ⟨[(6,tB v1)],[],0⟩ ?_ ?_
 ·have H:=Hj
  refine gC H ?_ ?_<;>intro H
  ·cases H
   exact wo
  ·cases H
   exact wo
 cases H
 exact ah
def qX (a0:List Int):Option (List Int):=
 bif GF 1 ((a0.length:Nat):Int) ((a0.length:Nat):Int) then(some (cpL (TE (((a0.length:Nat):Int)).toNat (0:Int)) a0)) else none
theorem Eg {a0:List Int} {r:List Int} (H:qX a0=some r):Fn Tryz.prog 167 [aL (a0.map eU8)] [.c (.own 5 1 (r.map eU8) r.length)]:=by
 refine fI Tryz.func167 Tryz.ntmps167 ?_
 obtain⟨h,H⟩:=rq H
 refine nA (mkT (enc:=eU8) (za:=0) h (by rfl)) ?_
 refine eS rfl (cpT (enc:=eU8) (ys:=(TE (((a0.length:Nat):Int)).toNat (0:Int))) (zs:=a0) rfl (fun _=>rfl) (by first|rfl|simp) .d rfl rfl rfl rfl rfl) ?_
 refine aW (ji (enc:=eU8) (o:=0)) ?_
 cases H
 exact ah
def kA:Option b8:=
 some (⟨[1,2]⟩:b8)
theorem uM {r:b8} (H:kA=some r):Fn Tryz.prog 89 [] [.agg [.own 3 1 (r.Steps.map eI) r.Steps.length]]:=by
 refine fI Tryz.func89 Tryz.ntmps89 ?_
 cases H
 refine cG (wB 1 ([1,2].length)) ?_
 exact ah
def P8 (a0:Int) (a1:Int):Option Int:=
 Vj (gX a1 1 1000000000000) fun r1=>bif !r1 then(some 0) else(bif !eqB a1 0 then(Vj (bif ltB (Int.tmod a0 a1) 0 then(some (WR ((Int.tmod a0 a1)+a1))) else(some (Int.tmod a0 a1))) fun(v2:Int)=>some v2) else none)
theorem RS {a0:Int} {a1:Int} {r:Int} (H:P8 a0 a1=some r):Fn Tryz.prog 293 [aI a0,aI a1] [.c (.d (.i .i64 r))]:=by
 refine fI Tryz.func293 Tryz.ntmps293 ?_
 obtain⟨r1,q1,H⟩:=ob H
 refine nA (ca (hF:=jW q1)) ?_
 refine cC H ?_ ?_<;>intro H
 ·cases H
  exact ah
 ·obtain⟨h,H⟩:=rq H
  refine nA (ir rfl rfl rfl (ne0 h)) ?_
  obtain⟨v2,Hj,H⟩:=ob H
  refine jA ⟨[(5,tI v2)],[],0⟩ ?_ ?_
  ·have H:=Hj
   refine cC H ?_ ?_<;>intro H
   ·cases H
    exact wo
   ·cases H
    exact wo
  cases H
  exact ah
def i6 (a0:Int) (a1:Int):Option Int:=
 Vj (P8 a1 2147483647) fun r1=>some (Int.tmod (WR ((WR ((WR (a0*1000003))+r1))+13)) 2147483647)
theorem s6 {a0:Int} {a1:Int} {r:Int} (H:i6 a0 a1=some r):Fn Tryz.prog 237 [aI a0,aI a1] [.c (.d (.i .i64 r))]:=by
 refine fI Tryz.func237 Tryz.ntmps237 ?_
 obtain⟨r1,q1,H⟩:=ob H
 refine nA (ca (hF:=RS q1)) ?_
 refine nA (ir rfl rfl rfl (by decide)) ?_
 cases H
 exact ah
def jw (a0:Int):Option b8:=
 some (⟨[1,3,a0]⟩:b8)
theorem rX {a0:Int} {r:b8} (H:jw a0=some r):Fn Tryz.prog 143 [aI a0] [.agg [.own 3 1 (r.Steps.map eI) r.Steps.length]]:=by
 refine fI Tryz.func143 Tryz.ntmps143 ?_
 cases H
 refine cG (wB 1 ([1,3,a0].length)) ?_
 exact ah
def gW (a0:List Int):(Int×List Int)→Option (cp (Int×List Int) (List Int))
 |(v1,v2)=>bif ltB v1 ((a0.length:Nat):Int) then(Vj (ix a0 v1) fun x5=>bif cM 8 (v2++[WR (x5)]).length then(some (.next (WR (v1+1),(v2++[WR (x5)])))) else none) else(some (.done v2))
def nj (a0:List Int):Option (List Int):=
 bif GF 8 0 (WR (((a0.length:Nat):Int)+1)) then(bif cM 8 ((TE ((0:Int)).toNat (0:Int))++[((a0.length:Nat):Int)]).length then(Vj (iter (gW a0) FU (0,((TE ((0:Int)).toNat (0:Int))++[((a0.length:Nat):Int)]))) fun(v4:List Int)=>some v4) else none) else none
theorem AE {a0:List Int} {r:List Int} (H:nj a0=some r):Fn Tryz.prog 312 [aL (a0.map eU8)] [.c (.own 3 1 (r.map eI) r.length)]:=by
 refine fI Tryz.func312 Tryz.ntmps312 ?_
 obtain⟨h,H⟩:=rq H
 refine nA (mkT (enc:=eI) (za:=0) h (by rfl)) ?_
 obtain⟨h,H⟩:=rq H
 refine sA (apT (enc:=eI) (ys:=(TE ((0:Int)).toNat (0:Int))) (zs:=[((a0.length:Nat):Int)]) h) ?_
 obtain⟨v4,Hj,H⟩:=ob H
 refine jB ⟨[(3,.v (.c (.w 0 v4.length)))],[(0,w3 v4)],1⟩ ?_ ?_
 ·refine iT Hj (fun q=>⟨[(3,.v (.c (.w 0 q.2.length))),(15,.v (.c (.d false (.l (a0.map eU8))))),(16,tI ((a0.length:Nat):Int)),(17,tI q.1)],[(0,w3 q.2)],1⟩) ?_
  rintro⟨v1,v2⟩ o H
  try dsimp only
  refine wI ?_
  refine cC H ?_ ?_<;>intro H
  ·obtain⟨x5,hx5,H⟩:=ob H
   refine nA (xdT (enc:=eU8) hx5) ?_
   obtain⟨h,H⟩:=rq H
   refine sA (apT (enc:=eI) (ys:=v2) (zs:=[WR (x5)]) h) ?_
   cases H
   refine dU ?_
   exact wo
  ·cases H
   refine dT (fun hq=>?_)
   cases hq
   refine wI ?_
   exact wo
 cases H
 exact ah
def jM (a0:bb):Option Bool:=
 Vj (bif eqB a0.cf 0 then(Vj (gX a0.em 1 100000) fun r2=>bif r2 then(bif leB ((a0.aQ.length:Nat):Int) 60 then(Vj (gX a0.gV 0 2147483646) fun r3=>some r3) else(some false)) else(some false)) else(bif eqB a0.cf 1 then(Vj (gX a0.em 1 100000) fun r4=>bif r4 then(bif leB ((a0.aQ.length:Nat):Int) 60 then(Vj (gX a0.gV 0 2147483646) fun r5=>some r5) else(some false)) else(some false)) else(some false))) fun(v1:Bool)=>some v1
theorem wG {a0:bb} {r:Bool} (H:jM a0=some r):Fn Tryz.prog 217 [.agg (ei a0)] [.c (.d (.b r))]:=by
 refine fI Tryz.func217 Tryz.ntmps217 ?_
 obtain⟨v1,Hj,H⟩:=ob H
 refine jR ⟨[(2,tB v1)],[],0⟩ ?_ ?_
 ·have H:=Hj
  refine gC H ?_ ?_<;>intro H
  ·obtain⟨r2,q2,H⟩:=ob H
   refine nG (ca (hF:=jW q2)) ?_
   refine gC H ?_ ?_<;>intro H
   ·refine gC H ?_ ?_<;>intro H
    ·obtain⟨r3,q3,H⟩:=ob H
     refine nG (ca (hF:=jW q3)) ?_
     cases H
     exact wo
    ·cases H
     exact wo
   ·cases H
    exact wo
  ·refine gC H ?_ ?_<;>intro H
   ·obtain⟨r4,q4,H⟩:=ob H
    refine nG (ca (hF:=jW q4)) ?_
    refine gC H ?_ ?_<;>intro H
    ·refine gC H ?_ ?_<;>intro H
     ·obtain⟨r5,q5,H⟩:=ob H
      refine nG (ca (hF:=jW q5)) ?_
      cases H
      exact wo
     ·cases H
      exact wo
    ·cases H
     exact wo
   ·cases H
    exact wo
 cases H
 exact ah
def kz:aP→Option (cp (aP) (aP))
 |v17=>Vj (bif ltB 0 ((v17.aF.length:Nat):Int) then(Vj (ix v17.aF 0) fun x26=>bif eqB x26.cT v17.bm then(some (ltB ((v17.aS.length:Nat):Int) 24)) else(some false)) else(some false)) fun(v25:Bool)=>bif v25 then(Vj (ix v17.aF 0) fun x27=>bif cM 24 (v17.aS++[(⟨x27.aQ⟩:b9)]).length then(bif fL v17.aF 1 v17.aF.length then(some (.next (⟨WR (v17.bm+1),v17.aF.drop ((1:Int)).toNat,(v17.aS++[(⟨x27.aQ⟩:b9)])⟩:aP))) else none) else none) else(some (.done v17))
def vy (a0:List Int) (a1:List Int):Option Bool:=
 Vj (fY a0 a1) fun r1=>some r1
theorem Ee {a0:List Int} {a1:List Int} {r:Bool} (H:vy a0 a1=some r):Fn Tryz.prog 224 [aL (a0.map eI),aL (a1.map eI)] [.c (.d (.b r))]:=by
 refine fI Tryz.func224 Tryz.ntmps224 ?_
 obtain⟨r1,q1,H⟩:=ob H
 refine nA (ca (hF:=qk q1)) ?_
 cases H
 exact ah
def lU (a0:b8) (a1:b8):Option Bool:=
 Vj (bif leB ((a0.Steps.length:Nat):Int) ((a1.Steps.length:Nat):Int) then(bif fL a1.Steps 0 ((a0.Steps.length:Nat):Int) then(Vj (vy a0.Steps (a1.Steps.take (((a0.Steps.length:Nat):Int)).toNat)) fun r2=>some r2) else none) else(some false)) fun(v1:Bool)=>some v1
theorem zg {a0:b8} {a1:b8} {r:Bool} (H:lU a0 a1=some r):Fn Tryz.prog 149 [.agg (ki a0),.agg (ki a1)] [.c (.d (.b r))]:=by
 refine fI Tryz.func149 Tryz.ntmps149 ?_
 refine dI ?_
 obtain⟨v1,Hj,H⟩:=ob H
 refine fF ⟨[(4,tB v1)],[],0⟩ ?_ ?_
 ·have H:=Hj
  refine wI ?_
  refine dC H ?_ ?_<;>intro H
  ·obtain⟨h,H⟩:=rq H
   refine dG (cdhT (enc:=eI) h (fun _=>rfl) rfl rfl rfl) ?_
   obtain⟨r2,q2,H⟩:=ob H
   refine dG (ca (hF:=Ee q2)) ?_
   refine wI ?_
   cases H
   exact wo
  ·refine wI ?_
   cases H
   exact wo
 refine wI ?_
 cases H
 exact ah
end Go.AM
