/- A part. -/
import Derived.Test.YtljhooecmjejiaaGreatS10
import Derived.Test.YtljhooecmjejiaaGreatS14
set_option linter.unusedVariables false
open Option renaming bind→Vj
namespace Go.AM
open Go.Proofs
attribute [local irreducible] AWN NS AWO AWR AWC DR cZ ey
set_option maxRecDepth 100000
set_option maxHeartbeats 40000000
def BJ (v20:Int):(Int×List ag×aE)→Option (cp (Int×List ag×aE) (List ag×aE))
 |(v118,v122,v123)=>bif ltB 0 v118 then(Vj (ix v122 v20) fun x134=>Vj (bS v123 4) fun r135=>Vj (tL r135.2 r135.1) fun r136=>Vj (jF x134 r136.1) fun r137=>Vj (ix v122 v20) fun x138=>some (.next (WR (v118-1),(v122.set (v20).toNat r137.1),r136.2))) else(some (.done (v122,v123)))
def oP (v20:Int) (r152:aU):(Int×ab)→Option (cp (Int×ab) (ab))
 |(v154,v165)=>bif ltB v154 ((r152.dJ.length:Nat):Int) then(Vj (ix r152.dJ v154) fun x180=>Vj (ix r152.dJ v154) fun x181=>Vj (eT v165 (⟨v20,true,false,x180.aX,x181,ee⟩:bD)) fun r182=>some (.next (WR (v154+1),r182))) else(some (.done v165))
def BI:(Int×aE×ab)→Option (cp (Int×aE×ab) (aE×ab))
 |(v20,v34,v35)=>bif ltB v20 ((v35.am.length:Nat):Int) then(Vj (bS v34 7) fun r117=>Vj (iter (BJ v20) FU (r117.1,v35.ai,r117.2)) fun((v132,v133):List ag×aE)=>Vj (fZ v133 5) fun r139=>Vj (bif !r139.1 then(Vj (ix v35.am v20) fun x151=>Vj (tC x151) fun r152=>Vj (ix v35.am v20) fun x153=>Vj (iter (oP v20 r152) FU (0,{v35 with am:=(v35.am.set (v20).toNat r152.aN),ai:=v132})) fun(v179:ab)=>some v179) else(some {v35 with ai:=v132})) fun(v150:ab)=>some (.next (WR (v20+1),r139.2,v150))) else(some (.done (v34,v35)))
def xz (a0:aE):Option (ab×aE):=
 Vj (xr a0) fun r1=>Vj (Vj (xn r1.2) fun r16=>Vj (jQ r16.2) fun r17=>Vj (bS r17.2 60) fun r18=>Vj (ph r16.1 r17.1 r1.1 (WR (30+r18.1))) fun r19=>some (r19.dt,r19.oX,r19.kv,r19.bh,r19.ai,r19.am,r19.dZ.aZ,r18.2,r19.dY)) fun((v5,v8,v9,v10,v11,v12,v13,v14,v15):Int×Int×Int×List aj×List ag×List az×List fx×aE×bP)=>Vj (iter (BI) FU (0,v14,(⟨(⟨v13⟩:aM),v12,v11,v10,([]:List bD),v5,v15,v8,v9⟩:ab))) fun((v115,v116):aE×ab)=>some (v116,v115)
theorem LZ {a0:aE} {r:ab×aE} (H:xz a0=some r):FnV Tryz.prog 73 [(200,.var 143 (kM [.f] (bg a0)))] [tP 200] [(200,.var 143 (kM [.f] (bg r.2)))] (.v (.agg (kM [.t,.n 210,.n 211,.n 212,.n 213] (aH r.1)))) [(210,n45 r.1.am),(211,n60 r.1.ai),(212,n66 r.1.bh),(213,n78 r.1.ay)]:=by
 refine fV Tryz.func73 Tryz.ntmps73 ?_
 obtain⟨r1,q1,H⟩:=ob H
 refine sA (cwv [(200,200)] [(210,211)] 212 (IT q1)) ?_
 refine wI ?_
 obtain⟨⟨v5,v8,v9,v10,v11,v12,v13,v14,v15⟩,Hj,H⟩:=ob H
 refine Pu ⟨[(0,tP 200),(2,tP 210),(4,tP 214)],(oM [.n 215,.n 216,.n 217,.n 218,.z] 214 34 (aH (⟨(⟨v13⟩:aM),v12,v11,v10,[],v5,v15,v8,v9⟩:ab))++[(200,.var 143 (kM [.f] (bg v14))),(210,.var 34 (kM [.z,.z,.z,.z,.z] (aH {cX with dZ:=(⟨[]⟩:aM)})))]),219⟩ Try.follows ?_ ?_
 ·have H:=Hj
  refine KV 8 9 rfl ?_ ?_
  ·refine Mt [0,1,2,3,4,5,6,7,9,8,10] (by kernel_rfl) (by kernel_rfl) rfl ?_
   refine wI ?_
   obtain⟨r16,q16,H⟩:=ob H
   refine wA (cwx (o:=200) (FnV.frzW (Bx q16) rfl rfl ⟨by first|rfl|simp,trivial⟩ rfl)) ?_
   obtain⟨r17,q17,H⟩:=ob H
   refine wA (cwx (o:=200) (pG q17)) ?_
   obtain⟨r18,q18,H⟩:=ob H
   refine wA (cwx (o:=200) (bz q18)) ?_
   obtain⟨r19,q19,H⟩:=ob H
   refine zB (an (aV (o:=213)) (an (cI (k:=16)) (eo 211))) (f8 rfl (cwv [] [(210,215),(211,216),(212,217),(213,218)] 219 (vg q19))) bO ?_
   refine wA (spx 100218) ?_
   cases H
   exact wo
  ·refine Mt [0,1,2,3,4,5,6,7,8,9,10] (by kernel_rfl) (by kernel_rfl) rfl ?_
   refine wI ?_
   obtain⟨r16,q16,H⟩:=ob H
   refine wA (cwx (o:=200) (FnV.frzW (Bx q16) rfl rfl ⟨by first|rfl|simp,trivial⟩ rfl)) ?_
   obtain⟨r17,q17,H⟩:=ob H
   refine wA (cwx (o:=200) (pG q17)) ?_
   obtain⟨r18,q18,H⟩:=ob H
   refine wA (cwx (o:=200) (bz q18)) ?_
   obtain⟨r19,q19,H⟩:=ob H
   refine zB (an (aV (o:=213)) (an (cI (k:=16)) (eo 211))) (f8 rfl (cwv [] [(210,214),(211,215),(212,216),(213,217)] 218 (vg q19))) bO ?_
   refine wA (spx 100219) ?_
   cases H
   refine an (wS 214 218) ?_
   refine an (wS 215 218) ?_
   refine an (wS 216 218) ?_
   refine an (wS 217 218) ?_
   exact wo
 refine wI ?_
 obtain⟨⟨v115,v116⟩,Hj,H⟩:=ob H
 refine jB ⟨[(2,tP 210),(4,tP 214)],(oM [.t,.n 216,.n 217,.n 218,.n 219] 214 34 (aH v116)++[(200,.var 143 (kM [.f] (bg v115))),(210,.var 34 (kM [.z,.z,.z,.z,.z] (aH {cX with dZ:=(⟨[]⟩:aM)})))]),220⟩ ?_ ?_
 ·refine iT Hj (fun q=>⟨[(0,tP 200),(2,tP 210),(4,tP 214),(5,tI q.1)],(oM [.t,.n 216,.n 217,.n 218,.n 219] 214 34 (aH q.2.2)++[(200,.var 143 (kM [.f] (bg q.2.1))),(210,.var 34 (kM [.z,.z,.z,.z,.z] (aH {cX with dZ:=(⟨[]⟩:aM)})))]),220⟩) ?_ (by refine an (eo 215) ?_;refine an (c7 (o:=214) (j:=4) 78 21 true) ?_;refine an (wB 219 (([]:List bD).length)) ?_;exact wo)
  rintro⟨v20,v34,v35⟩ o H
  try dsimp only
  refine wI ?_
  refine cC H ?_ ?_<;>intro H
  ·obtain⟨r117,q117,H⟩:=ob H
   refine sA (cw (o:=200) (bz q117)) ?_
   obtain⟨⟨v132,v133⟩,Hj,H⟩:=ob H
   refine jB ⟨[(0,tP 200),(2,tP 210),(4,tP 214),(5,tI v20)],(oM [.t,.n 216,.n 217,.n 218,.n 219] 214 34 (aH {v35 with ai:=v132})++[(200,.var 143 (kM [.f] (bg v133))),(210,.var 34 (kM [.z,.z,.z,.z,.z] (aH {cX with dZ:=(⟨[]⟩:aM)})))]),220⟩ ?_ ?_
   ·refine iT Hj (fun q=>⟨[(0,tP 200),(2,tP 210),(4,tP 214),(5,tI v20),(6,tI q.1)],(oM [.t,.n 216,.n 217,.n 218,.n 219] 214 34 (aH {v35 with ai:=q.2.1})++[(200,.var 143 (kM [.f] (bg q.2.2))),(210,.var 34 (kM [.z,.z,.z,.z,.z] (aH {cX with dZ:=(⟨[]⟩:aM)})))]),220⟩) ?_
    rintro⟨v118,v122,v123⟩ o H
    try dsimp only
    refine wI ?_
    refine cC H ?_ ?_<;>intro H
    ·refine zI (List.range 16) ?_
     obtain⟨x134,hx134,H⟩:=ob H
     refine zA (mF hx134) ?_
     refine zA (ED (he:=eU _ hx134)) ?_
     obtain⟨r135,q135,H⟩:=ob H
     refine wA (cwx (o:=200) (bz q135)) ?_
     obtain⟨r136,q136,H⟩:=ob H
     refine wA (cwx (o:=200) (By q136)) ?_
     obtain⟨r137,q137,H⟩:=ob H
     refine zA (ca (hF:=sm q137)) ?_
     refine wA (spx 100243) ?_
     obtain⟨x138,hx138,H⟩:=ob H
     refine bT (iP 217 (hne:=tc (enc:=bZ) hx138)) ?_
     refine nA (xwT hx138) ?_
     refine bT (aV (o:=221)) ?_
     refine bT (aV (o:=222)) ?_
     refine bT (aV (o:=223)) ?_
     refine bT (cI (k:=51)) ?_
     refine sA (soT (enc:=bZ) (a':=r137.1) hx138) ?_
     cases H
     refine dU ?_
     refine an (c8 217) ?_
     refine an (wB 217 ((v122.set (v20).toNat r137.1).length)) ?_
     exact wo
    ·cases H
     refine dT (fun hq=>?_)
     cases hq
     refine wI ?_
     exact wo
   obtain⟨r139,q139,H⟩:=ob H
   refine sA (cw (o:=200) (fK q139)) ?_
   obtain⟨v150,Hj,H⟩:=ob H
   refine jA ⟨[(0,tP 200),(2,tP 210),(4,tP 214),(5,tI v20)],(oM [.t,.n 216,.n 217,.n 218,.n 219] 214 34 (aH v150)++[(200,.var 143 (kM [.f] (bg r139.2))),(210,.var 34 (kM [.z,.z,.z,.z,.z] (aH {cX with dZ:=(⟨[]⟩:aM)})))]),220⟩ ?_ ?_
   ·have H:=Hj
    refine cC H ?_ ?_<;>intro H
    ·obtain⟨x151,hx151,H⟩:=ob H
     refine bT (iP 216 (hne:=tc (enc:=dE) hx151)) ?_
     refine nA (xwT hx151) ?_
     refine nA (oea (he:=eU _ hx151)) ?_
     obtain⟨r152,q152,H⟩:=ob H
     refine nA (ca (hF:=Bi q152)) ?_
     obtain⟨x153,hx153,H⟩:=ob H
     refine nA (xwT hx153) ?_
     refine sA (soT (enc:=dE) (a':=r152.aN) hx153) ?_
     obtain⟨v179,Hj,H⟩:=ob H
     refine jB ⟨[(0,tP 200),(2,tP 210),(4,tP 214),(5,tI v20)],(oM [.t,.n 216,.n 217,.n 218,.n 219] 214 34 (aH v179)++[(200,.var 143 (kM [.f] (bg r139.2))),(210,.var 34 (kM [.z,.z,.z,.z,.z] (aH {cX with dZ:=(⟨[]⟩:aM)})))]),220⟩ ?_ ?_
     ·refine iT Hj (fun q=>⟨[(0,tP 200),(2,tP 210),(4,tP 214),(5,tI v20),(9,tP 221),(10,tI q.1)],(oM [.t,.n 216,.n 217,.n 218,.n 219] 214 34 (aH q.2)++(oM [.t,.t,.w 220] 221 183 (cA r152)++[(200,.var 143 (kM [.f] (bg r139.2))),(210,.var 34 (kM [.z,.z,.z,.z,.z] (aH {cX with dZ:=(⟨[]⟩:aM)})))])),222⟩) ?_ (by refine an (c8 216) ?_;refine an (wB 216 ((v35.am.set (v20).toNat r152.aN).length)) ?_;exact wo)
      rintro⟨v154,v165⟩ o H
      try dsimp only
      refine wI ?_
      refine cC H ?_ ?_<;>intro H
      ·refine zI (List.range 14) ?_
       obtain⟨x180,hx180,H⟩:=ob H
       refine zA (xwT hx180) ?_
       refine zA (oe (he:=eU _ hx180)) ?_
       obtain⟨x181,hx181,H⟩:=ob H
       refine zA (xwT hx181) ?_
       refine zA (oea (he:=eU _ hx181)) ?_
       obtain⟨r182,q182,H⟩:=ob H
       refine zB bO (f8 rfl (cwu [(190,216),(191,217),(192,218),(193,219),(200,214)] [] 222 (oQ q182))) bO ?_
       cases H
       refine dU ?_
       exact wo
      ·cases H
       refine dT (fun hq=>?_)
       cases hq
       refine wI ?_
       exact wo
     cases H
     exact wo
    ·cases H
     exact wo
   cases H
   refine dU ?_
   exact wo
  ·cases H
   refine dT (fun hq=>?_)
   cases hq
   refine wI ?_
   exact wo
 cases H
 refine bV (wS 216 210) ?_
 refine bV (wS 217 211) ?_
 refine bV (wS 218 212) ?_
 refine bV (wS 219 213) ?_
 exact bU
def iJ (a1:b8):(Int×Int)→Option (cp (Int×Int) (Int))
 |(v1,v2)=>bif ltB v2 ((a1.Steps.length:Nat):Int) then(Vj (ix a1.Steps v2) fun x6=>Vj (lL v1 x6) fun r7=>some (.next (r7,WR (v2+1)))) else(some (.done v1))
def mx (a0:Int) (a1:b8):Option Int:=
 Vj (iter (iJ a1) FU (a0,0)) fun(v5:Int)=>some v5
theorem vf {a0:Int} {a1:b8} {r:Int} (H:mx a0 a1=some r):Fn Tryz.prog 148 [aI a0,.agg (ki a1)] [.c (.d (.i .i64 r))]:=by
 refine fI Tryz.func148 Tryz.ntmps148 ?_
 obtain⟨v5,Hj,H⟩:=ob H
 refine jB ⟨[(5,tI v5)],[],0⟩ ?_ ?_
 ·refine iT Hj (fun q=>⟨[(3,tP 0),(5,tI q.1),(6,tI q.2)],[(0,.var 97 [.d false (.l (a1.Steps.map eI))])],1⟩) ?_
  rintro⟨v1,v2⟩ o H
  try dsimp only
  refine wI ?_
  refine cC H ?_ ?_<;>intro H
  ·obtain⟨x6,hx6,H⟩:=ob H
   refine nA (xdT (enc:=eI) hx6) ?_
   obtain⟨r7,q7,H⟩:=ob H
   refine nA (ca (hF:=rr q7)) ?_
   cases H
   refine dU ?_
   exact wo
  ·cases H
   refine dT (fun hq=>?_)
   cases hq
   refine wI ?_
   exact wo
 cases H
 exact ah
def Bj (a0:Int) (a1:Int) (a2:Int) (a3:List Int):Option bb:=
 Vj (lL a0 (WR ((WR (2*a2))+a1))) fun r1=>Vj (xb r1 a3) fun r2=>Vj (yB a0 (⟨a1,a2,r2,0⟩:bb)) fun r3=>some (⟨a1,a2,r2,r3⟩:bb)
theorem IJ {a0:Int} {a1:Int} {a2:Int} {a3:List Int} {r:bb} (H:Bj a0 a1 a2 a3=some r):Fn Tryz.prog 313 [aI a0,aI a1,aI a2,aL (a3.map eU8)] [.agg (qM [.o] (qj r))]:=by
 refine fI Tryz.func313 Tryz.ntmps313 ?_
 obtain⟨r1,q1,H⟩:=ob H
 refine nA (ca (hF:=rr q1)) ?_
 obtain⟨r2,q2,H⟩:=ob H
 refine nA (ca (hF:=IG q2)) ?_
 obtain⟨r3,q3,H⟩:=ob H
 refine nA (ca (hF:=Hy q3)) ?_
 cases H
 exact ah
def fU (a0:Int) (a1:Int) (a2:Int):Option cO:=
 Vj (cH a2 0 999999) fun r1=>bif !r1 then(some cr) else(Vj (jD a0 a1) fun r2=>Vj (Cp (WR (a2+r2)) 1000000) fun r3=>Vj (ec a0 [2,a1,a2]) fun r4=>Vj (ec a0 [3,a1]) fun r5=>Vj (ec a0 [4,a1,a2]) fun r6=>Vj (Bf 1 r6) fun r7=>some (⟨a1,r3,r4,r5,r7⟩:cO))
theorem jb {a0:Int} {a1:Int} {a2:Int} {r:cO} (H:fU a0 a1 a2=some r):Fn Tryz.prog 314 [aI a0,aI a1,aI a2] [.agg (qM [] (eM r))]:=by
 refine fI Tryz.func314 Tryz.ntmps314 ?_
 obtain⟨r1,q1,H⟩:=ob H
 refine nA (ca (hF:=bL q1)) ?_
 refine cC H ?_ ?_<;>intro H
 ·cases H
  exact ah
 ·obtain⟨r2,q2,H⟩:=ob H
  refine nA (ca (hF:=sj q2)) ?_
  obtain⟨r3,q3,H⟩:=ob H
  refine nA (ca (hF:=vL q3)) ?_
  obtain⟨r4,q4,H⟩:=ob H
  refine nA (ca (hF:=d7 q4)) ?_
  obtain⟨r5,q5,H⟩:=ob H
  refine nA (ca (hF:=d7 q5)) ?_
  obtain⟨r6,q6,H⟩:=ob H
  refine nA (ca (hF:=d7 q6)) ?_
  obtain⟨r7,q7,H⟩:=ob H
  refine nA (ca (hF:=ym q7)) ?_
  cases H
  exact ah
def oF (a0:Int) (a1:bb):Option Bool:=
 Vj (yB a0 a1) fun r1=>some (eqB a1.gV r1)
theorem xk {a0:Int} {a1:bb} {r:Bool} (H:oF a0 a1=some r):Fn Tryz.prog 86 [aI a0,.agg (ei a1)] [.c (.d (.b r))]:=by
 refine fI Tryz.func86 Tryz.ntmps86 ?_
 refine dI ?_
 obtain⟨r1,q1,H⟩:=ob H
 refine dA (ca (hF:=Hy q1)) ?_
 refine wI ?_
 cases H
 exact ah
end Go.AM
