/- A part. -/
import Derived.Test.YtljhooecmjejiaaGreatS11
import Derived.Test.YtljhooecmjejiaaGreatS12
import Derived.Test.YtljhooecmjejiaaGreatS13
set_option linter.unusedVariables false
open Option renaming bind→Vj
open List renaming range→TU
namespace Go.AM
open Go.Proofs
attribute [local irreducible] AWN NS AWO AWR AWC DR cZ ey
set_option maxRecDepth 100000
set_option maxHeartbeats 40000000
def g9 (a0:ag):Option Bool:=
 Vj (bif eqB a0.bi 1 then(Vj (fG a0.aK) fun r2=>bif !r2 then(some true) else(bif ltB 0 a0.bF then(Vj (fG a0.aF.eY) fun r3=>bif !r3 then(some true) else(Vj (cH a0.bi 0 1) fun r4=>some (!r4))) else(Vj (cH a0.bi 0 1) fun r5=>some (!r5)))) else(bif ltB 0 a0.bF then(Vj (fG a0.aF.eY) fun r6=>bif !r6 then(some true) else(Vj (cH a0.bi 0 1) fun r7=>some (!r7))) else(Vj (cH a0.bi 0 1) fun r8=>some (!r8)))) fun(v1:Bool)=>bif v1 then(some false) else(Vj (dV a0.bv) fun r9=>Vj (bif !r9 then(some true) else(Vj (fo a0.gL) fun r11=>bif !r11 then(some true) else(Vj (kO a0.il) fun r12=>bif !r12 then(some true) else(Vj (fH a0.bW) fun r13=>bif !r13 then(some true) else(Vj (rI a0) fun r14=>some (!r14)))))) fun(v10:Bool)=>bif v10 then(some false) else(Vj (cH a0.bF 0 999999) fun r15=>Vj (bif !r15 then(some true) else(Vj (cH a0.aa 0 999999) fun r17=>bif !r17 then(some true) else(Vj (cH a0.aO 0 999999) fun r18=>bif !r18 then(some true) else(Vj (cH a0.aK 0 2147483646) fun r19=>some (!r19))))) fun(v16:Bool)=>bif v16 then(some false) else(Vj (cH a0.aX 0 5) fun r20=>Vj (bif r20 then(Vj (cH a0.ef 0 5) fun r22=>bif r22 then(Vj (cH a0.d4 0 3) fun r23=>some r23) else(some false)) else(some false)) fun(v21:Bool)=>some v21)))
theorem pb {a0:ag} {r:Bool} (H:g9 a0=some r):Fn Tryz.prog 187 [.agg (bZ a0)] [.c (.d (.b r))]:=by
 refine fI Tryz.func187 Tryz.ntmps187 ?_
 obtain⟨v1,Hj,H⟩:=ob H
 refine jR ⟨[(1,tP 0),(29,tB v1)],[(0,.var 60 (kM [.f,.f,.f] (cF a0)))],1⟩ ?_ ?_
 ·have H:=Hj
  refine gC H ?_ ?_<;>intro H
  ·obtain⟨r2,q2,H⟩:=ob H
   refine nG (ca (hF:=gm q2)) ?_
   refine gC H ?_ ?_<;>intro H
   ·cases H
    exact wo
   ·refine gC H ?_ ?_<;>intro H
    ·obtain⟨r3,q3,H⟩:=ob H
     refine nG (ca (hF:=gm q3)) ?_
     refine gC H ?_ ?_<;>intro H
     ·cases H
      exact wo
     ·obtain⟨r4,q4,H⟩:=ob H
      refine nG (ca (hF:=bL q4)) ?_
      cases H
      exact wo
    ·obtain⟨r5,q5,H⟩:=ob H
     refine nG (ca (hF:=bL q5)) ?_
     cases H
     exact wo
  ·refine gC H ?_ ?_<;>intro H
   ·obtain⟨r6,q6,H⟩:=ob H
    refine nG (ca (hF:=gm q6)) ?_
    refine gC H ?_ ?_<;>intro H
    ·cases H
     exact wo
    ·obtain⟨r7,q7,H⟩:=ob H
     refine nG (ca (hF:=bL q7)) ?_
     cases H
     exact wo
   ·obtain⟨r8,q8,H⟩:=ob H
    refine nG (ca (hF:=bL q8)) ?_
    cases H
    exact wo
 refine cC H ?_ ?_<;>intro H
 ·cases H
  exact ah
 ·obtain⟨r9,q9,H⟩:=ob H
  refine nA (ca (hF:=fT q9)) ?_
  obtain⟨v10,Hj,H⟩:=ob H
  refine jR ⟨[(1,tP 0),(56,tB v10)],[(0,.var 60 (kM [.f,.f,.f] (cF a0)))],1⟩ ?_ ?_
  ·have H:=Hj
   refine gC H ?_ ?_<;>intro H
   ·cases H
    exact wo
   ·obtain⟨r11,q11,H⟩:=ob H
    refine nG (ca (hF:=kQ q11)) ?_
    refine gC H ?_ ?_<;>intro H
    ·cases H
     exact wo
    ·obtain⟨r12,q12,H⟩:=ob H
     refine nG (ca (hF:=yl q12)) ?_
     refine gC H ?_ ?_<;>intro H
     ·cases H
      exact wo
     ·obtain⟨r13,q13,H⟩:=ob H
      refine nG (ca (hF:=g7 q13)) ?_
      refine gC H ?_ ?_<;>intro H
      ·cases H
       exact wo
      ·obtain⟨r14,q14,H⟩:=ob H
       refine nG (ca (hF:=Fd q14)) ?_
       cases H
       exact wo
  refine cC H ?_ ?_<;>intro H
  ·cases H
   exact ah
  ·obtain⟨r15,q15,H⟩:=ob H
   refine nA (ca (hF:=bL q15)) ?_
   obtain⟨v16,Hj,H⟩:=ob H
   refine jR ⟨[(1,tP 0),(78,tB v16)],[(0,.var 60 (kM [.f,.f,.f] (cF a0)))],1⟩ ?_ ?_
   ·have H:=Hj
    refine gC H ?_ ?_<;>intro H
    ·cases H
     exact wo
    ·obtain⟨r17,q17,H⟩:=ob H
     refine nG (ca (hF:=bL q17)) ?_
     refine gC H ?_ ?_<;>intro H
     ·cases H
      exact wo
     ·obtain⟨r18,q18,H⟩:=ob H
      refine nG (ca (hF:=bL q18)) ?_
      refine gC H ?_ ?_<;>intro H
      ·cases H
       exact wo
      ·obtain⟨r19,q19,H⟩:=ob H
       refine nG (ca (hF:=bL q19)) ?_
       cases H
       exact wo
   refine cC H ?_ ?_<;>intro H
   ·cases H
    exact ah
   ·obtain⟨r20,q20,H⟩:=ob H
    refine nA (ca (hF:=bL q20)) ?_
    obtain⟨v21,Hj,H⟩:=ob H
    refine jR ⟨[(2,tB v21)],[],0⟩ ?_ ?_
    ·have H:=Hj
     refine gC H ?_ ?_<;>intro H
     ·obtain⟨r22,q22,H⟩:=ob H
      refine nG (ca (hF:=bL q22)) ?_
      refine gC H ?_ ?_<;>intro H
      ·obtain⟨r23,q23,H⟩:=ob H
       refine nG (ca (hF:=bL q23)) ?_
       cases H
       exact wo
      ·cases H
       exact wo
     ·cases H
      exact wo
    cases H
    exact ah
def gp (a0:ab) (a1:Int) (a2:aU):Option ab:=
 Vj (ix a0.am a1) fun x1=>Vj (iL {a0 with am:=(a0.am.set (a1).toNat a2.aN)} a1 true a2.dJ) fun r2=>some r2
theorem lk {a0:ab} {a1:Int} {a2:aU} {r:ab} (H:gp a0 a1 a2=some r):FnV Tryz.prog 281 (nS a0) [tP 200,tI a1,.v (.agg (kM [.t,.t,.t] (cA a2)))] (nS r) (.tup []) []:=by
 refine fV Tryz.func281 Tryz.ntmps281 ?_
 refine zI (TU 9) ?_
 obtain⟨x1,hx1,H⟩:=ob H
 refine zA (mF hx1) ?_
 refine zB (iP 190 (hne:=tc (enc:=dE) hx1)) (f8 rfl (soT (enc:=dE) (a':=a2.aN) hx1)) bO ?_
 obtain⟨r2,q2,H⟩:=ob H
 refine bT (c8 190) ?_
 refine bT (wB 190 ((a0.am.set (a1).toNat a2.aN).length)) ?_
 refine sA (cwu m0 [] 211 (p9 q2)) ?_
 cases H
 exact sW
def y6 (r5:cU×List Int):(Int×List aA)→Option (cp (Int×List aA) (List aA))
 |(v6,v7)=>bif ltB v6 ((r5.2.length:Nat):Int) then(Vj (ix r5.2 v6) fun x10=>bif cM 88 (v7++[{dO with aR:=7,aX:=x10}]).length then(some (.next (WR (v6+1),(v7++[{dO with aR:=7,aX:=x10}])))) else none) else(some (.done v7))
def tQ (a0:ag) (a1:aj) (a2:aM):Option bY:=
 Vj (oN a0 a1) fun r1=>Vj (cH a0.aX 0 (WR (((a2.aZ.length:Nat):Int)-1))) fun r2=>Vj (bif r2 then(Vj (ix a2.aZ a0.aX) fun x4=>some x4.f5) else(some 0)) fun(v3:Int)=>Vj (pu {a0.il with f5:=v3} a2) fun r5=>Vj (iter (y6 r5) FU (0,r1.iB)) fun(v9:List aA)=>some {r1 with aJ:={r1.aJ with il:=r5.1},iB:=v9}
theorem BF {a0:ag} {a1:aj} {a2:aM} {r:bY} (H:tQ a0 a1 a2=some r):Fn Tryz.prog 326 [.agg (bZ a0),.agg (dB a1),.agg (lx a2)] [.agg (qM [.o,.o,.o,.o,.o,.o] (ci r))]:=by
 refine fI Tryz.func326 Tryz.ntmps326 ?_
 obtain⟨r1,q1,H⟩:=ob H
 refine nA (ca (hF:=vW q1)) ?_
 obtain⟨r2,q2,H⟩:=ob H
 refine nA (ca (hF:=bL q2)) ?_
 obtain⟨v3,Hj,H⟩:=ob H
 refine jA ⟨[(5,tP 2),(6,tP 3),(7,tP 10),(8,tP 11)],(oM [.w 4,.w 5,.w 6,.w 7,.w 8,.w 9] 10 190 (ci r1)++[(2,.var 26 [.d false (.l (a2.aZ.map dW))]),(3,.var 190 (kM [.z,.z,.z,.z,.z,.z] (ci cY))),(11,.var 54 (kM [] (ju {a0.il with f5:=v3})))]),12⟩ ?_ ?_
 ·have H:=Hj
  refine cC H ?_ ?_<;>intro H
  ·obtain⟨x4,hx4,H⟩:=ob H
   refine nA (xdT (enc:=dW) hx4) ?_
   cases H
   exact wo
  ·cases H
   exact wo
 obtain⟨r5,q5,H⟩:=ob H
 refine nA (ca (hF:=Cu q5)) ?_
 obtain⟨v9,Hj,H⟩:=ob H
 refine jB ⟨[(6,tP 3),(7,tP 10)],(oM [.w 4,.w 5,.w 6,.w 7,.w 8,.w 9] 10 190 (ci {r1 with aJ:={r1.aJ with il:=r5.1},iB:=v9})++[(3,.var 190 (kM [.z,.z,.z,.z,.z,.z] (ci cY)))]),11⟩ ?_ ?_
 ·refine iT Hj (fun q=>⟨[(6,tP 3),(7,tP 10),(10,.v (.c (.w 12 r5.2.length))),(11,tI q.1)],(oM [.w 4,.w 5,.w 6,.w 7,.w 8,.w 9] 10 190 (ci {r1 with aJ:={r1.aJ with il:=r5.1},iB:=q.2})++[(3,.var 190 (kM [.z,.z,.z,.z,.z,.z] (ci cY))),(12,w3 r5.2)]),13⟩) ?_
  rintro⟨v6,v7⟩ o H
  try dsimp only
  refine wI ?_
  refine cC H ?_ ?_<;>intro H
  ·refine zI (TU 11) ?_
   obtain⟨x10,hx10,H⟩:=ob H
   refine zA (xwT hx10) ?_
   refine zA (oe (he:=eU _ hx10)) ?_
   obtain⟨h,H⟩:=rq H
   refine zB bO (f8 rfl (apT (enc:=eb) (ys:=v7) (zs:=[{dO with aR:=7,aX:=x10}]) h)) bO ?_
   refine wA (spx 100358) ?_
   cases H
   refine dU ?_
   exact wo
  ·cases H
   refine dT (fun hq=>?_)
   cases hq
   refine wI ?_
   exact wo
 cases H
 exact ah
def nB (a0:ag) (a1:aj) (a2:Int):Option (ag×aj):=
 Vj (gh a0) fun r1=>Vj (kU a0 a2) fun r2=>bif leB r2 0 then(Vj (jI a1) fun r3=>some (r1,r3)) else(Vj (Bf r2 a0.gL.eA) fun r4=>Vj (ma a1 a0.bW r4) fun r5=>some ({r1 with bW:=r5.2},r5.1))
theorem Bd {a0:ag} {a1:aj} {a2:Int} {r:ag×aj} (H:nB a0 a1 a2=some r):Fn Tryz.prog 351 [.agg (bZ a0),.agg (dB a1),aI a2] [.agg (qM [.o,.o,.o] (cF r.1)),.agg (qM [.o] (cS r.2))]:=by
 refine fI Tryz.func351 Tryz.ntmps351 ?_
 obtain⟨r1,q1,H⟩:=ob H
 refine nA (ca (hF:=fX q1)) ?_
 obtain⟨r2,q2,H⟩:=ob H
 refine nA (ca (hF:=tD q2)) ?_
 refine cC H ?_ ?_<;>intro H
 ·refine zI (TU 5) ?_
  obtain⟨r3,q3,H⟩:=ob H
  refine zA (ca (hF:=kf q3)) ?_
  refine wA (spx 100374) ?_
  refine wA (spx 100373) ?_
  cases H
  exact ah
 ·refine zI (TU 16) ?_
  obtain⟨r4,q4,H⟩:=ob H
  refine zA (ca (hF:=ym q4)) ?_
  obtain⟨r5,q5,H⟩:=ob H
  refine zA (ca (hF:=zp q5)) ?_
  refine wA (spx 100378) ?_
  refine wA (spx 100377) ?_
  refine zI (TU 4) ?_
  refine wA (spx 100376) ?_
  refine wA (spx 100375) ?_
  cases H
  exact ah
def tq (a0:Int) (a1:List Int):(Int×List Int)→Option (cp (Int×List Int) (List Int))
 |(v1,v2)=>bif ltB v1 ((a1.length:Nat):Int) then(Vj (ix a1 v1) fun x7=>Vj (ec a0 [v1]) fun r8=>Vj (Cp (WR ((WR (x7))-(Int.tmod r8 256))) 256) fun r9=>bif cM 1 (v2++[IntKind.u8.wrap (r9)]).length then(some (.next (WR (v1+1),(v2++[IntKind.u8.wrap (r9)])))) else none) else(some (.done v2))
def xa (a0:Int) (a1:List Int):Option (List Int):=
 Vj (iter (tq a0 a1) FU (0,([]:List Int))) fun(v6:List Int)=>some v6
theorem IF {a0:Int} {a1:List Int} {r:List Int} (H:xa a0 a1=some r):Fn Tryz.prog 381 [aI a0,aL (a1.map eU8)] [.c (.own 5 1 (r.map eU8) r.length)]:=by
 refine fI Tryz.func381 Tryz.ntmps381 ?_
 obtain⟨v6,Hj,H⟩:=ob H
 refine jB ⟨[(5,.v (.c (.w 0 v6.length)))],[(0,w5 v6)],1⟩ ?_ ?_
 ·refine iT Hj (fun q=>⟨[(0,tI a0),(1,.v (.c (.d false (.l (a1.map eU8))))),(5,.v (.c (.w 0 q.2.length))),(6,tI q.1)],[(0,w5 q.2)],1⟩) ?_
  rintro⟨v1,v2⟩ o H
  try dsimp only
  refine wI ?_
  refine cC H ?_ ?_<;>intro H
  ·refine pV [0,1,2,3,4,5,6,7,8,9,10,11,12,13,14,15,16] (h:=?_)
   refine wkb ?_
   obtain⟨x7,hx7,H⟩:=ob H
   refine iA rfl (xdT (enc:=eU8) hx7) ?_
   refine wkb ?_
   refine xS rfl (bsx (bs rfl rfl rfl rfl rfl rfl rfl rfl) rfl) ?_
   refine wkb ?_
   obtain⟨r8,q8,H⟩:=ob H
   refine iA rfl (ca (hF:=d7 q8)) ?_
   refine wkb ?_
   refine iA rfl (ir rfl rfl rfl (by decide)) ?_
   refine wkb ?_
   obtain⟨r9,q9,H⟩:=ob H
   refine iA rfl (ca (hF:=vL q9)) ?_
   refine wkb ?_
   refine iA rfl (bs rfl rfl rfl rfl rfl rfl rfl rfl) ?_
   refine wkb ?_
   obtain⟨h,H⟩:=rq H
   refine xS rfl (B2 (enc:=eU8) (ys:=v2) (zs:=[IntKind.u8.wrap (r9)]) [0,2] h) ?_
   refine wkb ?_
   refine iV (ds:=[0]) (by kernel_rfl) (by kernel_rfl) rfl ?_
   refine wI ?_
   cases H
   refine dU ?_
   refine an (wS 0 3) ?_
   exact wo
  ·cases H
   refine dT (fun hq=>?_)
   cases hq
   refine wI ?_
   exact wo
 cases H
 exact ah
def nE (a0:Int) (a1:Int) (a2:Int):Option Int:=
 Vj (cH a2 0 999999) fun r1=>bif !r1 then(some (-1)) else(Vj (ec a0 [5,a1,a2]) fun r2=>Vj (Cp r2 1000) fun r3=>some (WR ((WR (1000000*r3))+a2)))
theorem Bl {a0:Int} {a1:Int} {a2:Int} {r:Int} (H:nE a0 a1 a2=some r):Fn Tryz.prog 382 [aI a0,aI a1,aI a2] [.c (.d (.i .i64 r))]:=by
 refine fI Tryz.func382 Tryz.ntmps382 ?_
 obtain⟨r1,q1,H⟩:=ob H
 refine nA (ca (hF:=bL q1)) ?_
 refine cC H ?_ ?_<;>intro H
 ·cases H
  exact ah
 ·obtain⟨r2,q2,H⟩:=ob H
  refine nA (ca (hF:=d7 q2)) ?_
  obtain⟨r3,q3,H⟩:=ob H
  refine nA (ca (hF:=vL q3)) ?_
  cases H
  exact ah
def gb (a0:Int) (a1:Int):Option Int:=
 Vj (ec 17 [a0,a1]) fun r1=>some (Int.tmod (WR (r1*r1)) 2147483647)
theorem mZ {a0:Int} {a1:Int} {r:Int} (H:gb a0 a1=some r):Fn Tryz.prog 108 [aI a0,aI a1] [.c (.d (.i .i64 r))]:=by
 refine fI Tryz.func108 Tryz.ntmps108 ?_
 obtain⟨r1,q1,H⟩:=ob H
 refine nA (ca (hF:=d7 q1)) ?_
 refine nA (ir rfl rfl rfl (by decide)) ?_
 cases H
 exact ah
end Go.AM
