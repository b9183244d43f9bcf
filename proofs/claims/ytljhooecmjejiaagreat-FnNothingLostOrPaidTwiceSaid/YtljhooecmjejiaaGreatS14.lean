/- A part. -/
import Derived.Test.YtljhooecmjejiaaGreatS12
import Derived.Test.YtljhooecmjejiaaGreatS13
set_option linter.unusedVariables false
open Option renaming bind→Un
open List renaming range→SO
namespace Go.AM
open Go.Proofs
attribute [local irreducible] AWN NS AWO AWR AWC DR cZ eE
set_option maxRecDepth 100000
set_option maxHeartbeats 40000000
def sL (a0:Int) (a1:List Int):(Int×List Int)→Option (cB (Int×List Int) (List Int))
 |(v1,v2)=>bif ltB v1 ((a1.length:Nat):Int) then(Un (ix a1 v1) fun x6=>Un (d6 a0 [v1]) fun r7=>bif cS 1 (v2++[IntKind.u8.wrap (Int.tmod (WR ((WR (x6))+(Int.tmod r7 256))) 256)]).length then(some (.next (WR (v1+1),(v2++[IntKind.u8.wrap (Int.tmod (WR ((WR (x6))+(Int.tmod r7 256))) 256)])))) else none) else(some (.done v2))
def vZ (a0:Int) (a1:List Int):Option (List Int):=
 Un (iter (sL a0 a1) FU (0,([]:List Int))) fun(v5:List Int)=>some v5
theorem Hu {a0:Int} {a1:List Int} {r:List Int} (H:vZ a0 a1=some r):Fn Tryz.prog 340 [aI a0,aL (a1.map eU8)] [.c (.own 5 1 (r.map eU8) r.length)]:=by
 refine fI Tryz.func340 Tryz.ntmps340 ?_
 obtain⟨v5,Hj,H⟩:=ob H
 refine jB ⟨[(5,.v (.c (.w 0 v5.length)))],[(0,w5 v5)],1⟩ ?_ ?_
 ·refine iT Hj (fun q=>⟨[(0,tI a0),(1,.v (.c (.d false (.l (a1.map eU8))))),(5,.v (.c (.w 0 q.2.length))),(6,tI q.1)],[(0,w5 q.2)],1⟩) ?_
  rintro⟨v1,v2⟩ o H
  try dsimp only
  refine wI ?_
  refine cC H ?_ ?_<;>intro H
  ·refine qt [0,1,2,3,4,5,6,7,8,9,10,11,12,13,14,15,16] (h:=?_)
   refine wkb ?_
   obtain⟨x6,hx6,H⟩:=ob H
   refine jD rfl (xdT (enc:=eU8) hx6) ?_
   refine wkb ?_
   refine yl rfl (bsx (bs rfl rfl rfl rfl rfl rfl rfl rfl) rfl) ?_
   refine wkb ?_
   obtain⟨r7,q7,H⟩:=ob H
   refine jD rfl (ca (hF:=dV q7)) ?_
   refine wkb ?_
   refine jD rfl (ir rfl rfl rfl (by decide)) ?_
   refine wkb ?_
   refine jD rfl (ir rfl rfl rfl (by decide)) ?_
   refine wkb ?_
   refine jD rfl (bs rfl rfl rfl rfl rfl rfl rfl rfl) ?_
   refine wkb ?_
   obtain⟨h,H⟩:=rq H
   refine yl rfl (A4 (enc:=eU8) (ys:=v2) (zs:=[IntKind.u8.wrap (Int.tmod (WR ((WR (x6))+(Int.tmod r7 256))) 256)]) [0,2] h) ?_
   refine wkb ?_
   refine jt (ds:=[0]) (by kernel_rfl) (by kernel_rfl) rfl ?_
   refine wI ?_
   cases H
   refine ee ?_
   refine aq (wS 0 3) ?_
   exact wo
  ·cases H
   refine ed (fun hq=>?_)
   cases hq
   refine wI ?_
   exact wo
 cases H
 exact ah
def jl (a0:Int) (a1:Int):Option Int:=
 Un (d6 a0 [1,a1]) fun r1=>Un (Bm r1 1000000) fun r2=>some r2
theorem rA {a0:Int} {a1:Int} {r:Int} (H:jl a0 a1=some r):Fn Tryz.prog 341 [aI a0,aI a1] [.c (.d (.i .i64 r))]:=by
 refine fI Tryz.func341 Tryz.ntmps341 ?_
 obtain⟨r1,q1,H⟩:=ob H
 refine nA (ca (hF:=dV q1)) ?_
 obtain⟨r2,q2,H⟩:=ob H
 refine nA (ca (hF:=uS q2)) ?_
 cases H
 exact ah
def iC (a0:dy) (a1:Int):Option Int:=
 Un (d6 29 [a0.dL,a0.bM,a1]) fun r1=>some r1
theorem p9 {a0:dy} {a1:Int} {r:Int} (H:iC a0 a1=some r):Fn Tryz.prog 315 [.agg (rV a0),aI a1] [.c (.d (.i .i64 r))]:=by
 refine fI Tryz.func315 Tryz.ntmps315 ?_
 obtain⟨r1,q1,H⟩:=ob H
 refine nA (ca (hF:=dV q1)) ?_
 cases H
 exact ah
def g8 (a0:ag):Option Bool:=
 Un (bif eqB a0.bg 1 then(Un (fD a0.aJ) fun r2=>bif !r2 then(some true) else(bif ltB 0 a0.bC then(Un (fD a0.aD.eP) fun r3=>bif !r3 then(some true) else(Un (cz a0.bg 0 1) fun r4=>some (!r4))) else(Un (cz a0.bg 0 1) fun r5=>some (!r5)))) else(bif ltB 0 a0.bC then(Un (fD a0.aD.eP) fun r6=>bif !r6 then(some true) else(Un (cz a0.bg 0 1) fun r7=>some (!r7))) else(Un (cz a0.bg 0 1) fun r8=>some (!r8)))) fun(v1:Bool)=>bif v1 then(some false) else(Un (dO a0.bv) fun r9=>Un (bif !r9 then(some true) else(Un (eY a0.gN) fun r11=>bif !r11 then(some true) else(Un (kx a0.ik) fun r12=>bif !r12 then(some true) else(Un (fE a0.bO) fun r13=>bif !r13 then(some true) else(Un (qU a0) fun r14=>some (!r14)))))) fun(v10:Bool)=>bif v10 then(some false) else(Un (cz a0.bC 0 999999) fun r15=>Un (bif !r15 then(some true) else(Un (cz a0.aa 0 999999) fun r17=>bif !r17 then(some true) else(Un (cz a0.aR 0 999999) fun r18=>bif !r18 then(some true) else(Un (cz a0.aJ 0 2147483646) fun r19=>some (!r19))))) fun(v16:Bool)=>bif v16 then(some false) else(Un (cz a0.aU 0 5) fun r20=>Un (bif r20 then(Un (cz a0.d9 0 5) fun r22=>bif r22 then(Un (cz a0.dS 0 3) fun r23=>some r23) else(some false)) else(some false)) fun(v21:Bool)=>some v21)))
theorem oR {a0:ag} {r:Bool} (H:g8 a0=some r):Fn Tryz.prog 187 [.agg (bS a0)] [.c (.d (.b r))]:=by
 refine fI Tryz.func187 Tryz.ntmps187 ?_
 obtain⟨v1,Hj,H⟩:=ob H
 refine jR ⟨[(1,tP 0),(29,tB v1)],[(0,.var 60 (kM [.f,.f,.f] (cy a0)))],1⟩ ?_ ?_
 ·have H:=Hj
  refine gC H ?_ ?_<;>intro H
  ·obtain⟨r2,q2,H⟩:=ob H
   refine nG (ca (hF:=gj q2)) ?_
   refine gC H ?_ ?_<;>intro H
   ·cases H
    exact wo
   ·refine gC H ?_ ?_<;>intro H
    ·obtain⟨r3,q3,H⟩:=ob H
     refine nG (ca (hF:=gj q3)) ?_
     refine gC H ?_ ?_<;>intro H
     ·cases H
      exact wo
     ·obtain⟨r4,q4,H⟩:=ob H
      refine nG (ca (hF:=bK q4)) ?_
      cases H
      exact wo
    ·obtain⟨r5,q5,H⟩:=ob H
     refine nG (ca (hF:=bK q5)) ?_
     cases H
     exact wo
  ·refine gC H ?_ ?_<;>intro H
   ·obtain⟨r6,q6,H⟩:=ob H
    refine nG (ca (hF:=gj q6)) ?_
    refine gC H ?_ ?_<;>intro H
    ·cases H
     exact wo
    ·obtain⟨r7,q7,H⟩:=ob H
     refine nG (ca (hF:=bK q7)) ?_
     cases H
     exact wo
   ·obtain⟨r8,q8,H⟩:=ob H
    refine nG (ca (hF:=bK q8)) ?_
    cases H
    exact wo
 refine cC H ?_ ?_<;>intro H
 ·cases H
  exact ah
 ·obtain⟨r9,q9,H⟩:=ob H
  refine nA (ca (hF:=fO q9)) ?_
  obtain⟨v10,Hj,H⟩:=ob H
  refine jR ⟨[(1,tP 0),(56,tB v10)],[(0,.var 60 (kM [.f,.f,.f] (cy a0)))],1⟩ ?_ ?_
  ·have H:=Hj
   refine gC H ?_ ?_<;>intro H
   ·cases H
    exact wo
   ·obtain⟨r11,q11,H⟩:=ob H
    refine nG (ca (hF:=kz q11)) ?_
    refine gC H ?_ ?_<;>intro H
    ·cases H
     exact wo
    ·obtain⟨r12,q12,H⟩:=ob H
     refine nG (ca (hF:=xn q12)) ?_
     refine gC H ?_ ?_<;>intro H
     ·cases H
      exact wo
     ·obtain⟨r13,q13,H⟩:=ob H
      refine nG (ca (hF:=gZ q13)) ?_
      refine gC H ?_ ?_<;>intro H
      ·cases H
       exact wo
      ·obtain⟨r14,q14,H⟩:=ob H
       refine nG (ca (hF:=DW q14)) ?_
       cases H
       exact wo
  refine cC H ?_ ?_<;>intro H
  ·cases H
   exact ah
  ·obtain⟨r15,q15,H⟩:=ob H
   refine nA (ca (hF:=bK q15)) ?_
   obtain⟨v16,Hj,H⟩:=ob H
   refine jR ⟨[(1,tP 0),(78,tB v16)],[(0,.var 60 (kM [.f,.f,.f] (cy a0)))],1⟩ ?_ ?_
   ·have H:=Hj
    refine gC H ?_ ?_<;>intro H
    ·cases H
     exact wo
    ·obtain⟨r17,q17,H⟩:=ob H
     refine nG (ca (hF:=bK q17)) ?_
     refine gC H ?_ ?_<;>intro H
     ·cases H
      exact wo
     ·obtain⟨r18,q18,H⟩:=ob H
      refine nG (ca (hF:=bK q18)) ?_
      refine gC H ?_ ?_<;>intro H
      ·cases H
       exact wo
      ·obtain⟨r19,q19,H⟩:=ob H
       refine nG (ca (hF:=bK q19)) ?_
       cases H
       exact wo
   refine cC H ?_ ?_<;>intro H
   ·cases H
    exact ah
   ·obtain⟨r20,q20,H⟩:=ob H
    refine nA (ca (hF:=bK q20)) ?_
    obtain⟨v21,Hj,H⟩:=ob H
    refine jR ⟨[(2,tB v21)],[],0⟩ ?_ ?_
    ·have H:=Hj
     refine gC H ?_ ?_<;>intro H
     ·obtain⟨r22,q22,H⟩:=ob H
      refine nG (ca (hF:=bK q22)) ?_
      refine gC H ?_ ?_<;>intro H
      ·obtain⟨r23,q23,H⟩:=ob H
       refine nG (ca (hF:=bK q23)) ?_
       cases H
       exact wo
      ·cases H
       exact wo
     ·cases H
      exact wo
    cases H
    exact ah
def gk (a0:ab) (a1:Int) (a2:aS):Option ab:=
 Un (ix a0.ai a1) fun x1=>Un (iG {a0 with ai:=(a0.ai.set (a1).toNat a2.a9)} a1 true a2.dD) fun r2=>some r2
theorem kV {a0:ab} {a1:Int} {a2:aS} {r:ab} (H:gk a0 a1 a2=some r):FnV Tryz.prog 281 (nS a0) [tP 200,tI a1,.v (.agg (kM [.t,.t,.t] (cq a2)))] (nS r) (.tup []) []:=by
 refine fV Tryz.func281 Tryz.ntmps281 ?_
 refine zI (SO 9) ?_
 obtain⟨x1,hx1,H⟩:=ob H
 refine zA (mq hx1) ?_
 refine zB (iK 190 (hne:=sv (enc:=c7) hx1)) (gq rfl (soT (enc:=c7) (a':=a2.a9) hx1)) bT ?_
 obtain⟨r2,q2,H⟩:=ob H
 refine bR (du 190) ?_
 refine bR (wB 190 ((a0.ai.set (a1).toNat a2.a9).length)) ?_
 refine sA (cwu m0 [] 211 (pM q2)) ?_
 cases H
 exact sb
def yf (r5:cP×List Int):(Int×List az)→Option (cB (Int×List az) (List az))
 |(v6,v7)=>bif ltB v6 ((r5.2.length:Nat):Int) then(Un (ix r5.2 v6) fun x10=>bif cS 88 (v7++[{dH with aP:=7,aU:=x10}]).length then(some (.next (WR (v6+1),(v7++[{dH with aP:=7,aU:=x10}])))) else none) else(some (.done v7))
def s5 (a0:ag) (a1:aj) (a2:aK):Option bX:=
 Un (ot a0 a1) fun r1=>Un (cz a0.aU 0 (WR (((a2.aX.length:Nat):Int)-1))) fun r2=>Un (bif r2 then(Un (ix a2.aX a0.aU) fun x4=>some x4.fT) else(some 0)) fun(v3:Int)=>Un (o3 {a0.ik with fT:=v3} a2) fun r5=>Un (iter (yf r5) FU (0,r1.iy)) fun(v9:List az)=>some {r1 with aF:={r1.aF with ik:=r5.1},iy:=v9}
theorem AH {a0:ag} {a1:aj} {a2:aK} {r:bX} (H:s5 a0 a1 a2=some r):Fn Tryz.prog 326 [.agg (bS a0),.agg (da a1),.agg (lf a2)] [.agg (qM [.o,.o,.o,.o,.o,.o] (b9 r))]:=by
 refine fI Tryz.func326 Tryz.ntmps326 ?_
 obtain⟨r1,q1,H⟩:=ob H
 refine nA (ca (hF:=u9 q1)) ?_
 obtain⟨r2,q2,H⟩:=ob H
 refine nA (ca (hF:=bK q2)) ?_
 obtain⟨v3,Hj,H⟩:=ob H
 refine jA ⟨[(5,tP 2),(6,tP 3),(7,tP 10),(8,tP 11)],(oM [.w 4,.w 5,.w 6,.w 7,.w 8,.w 9] 10 190 (b9 r1)++[(2,.var 26 [.d false (.l (a2.aX.map dP))]),(3,.var 190 (kM [.z,.z,.z,.z,.z,.z] (b9 cU))),(11,.var 54 (kM [] (je {a0.ik with fT:=v3})))]),12⟩ ?_ ?_
 ·have H:=Hj
  refine cC H ?_ ?_<;>intro H
  ·obtain⟨x4,hx4,H⟩:=ob H
   refine nA (xdT (enc:=dP) hx4) ?_
   cases H
   exact wo
  ·cases H
   exact wo
 obtain⟨r5,q5,H⟩:=ob H
 refine nA (ca (hF:=Br q5)) ?_
 obtain⟨v9,Hj,H⟩:=ob H
 refine jB ⟨[(6,tP 3),(7,tP 10)],(oM [.w 4,.w 5,.w 6,.w 7,.w 8,.w 9] 10 190 (b9 {r1 with aF:={r1.aF with ik:=r5.1},iy:=v9})++[(3,.var 190 (kM [.z,.z,.z,.z,.z,.z] (b9 cU)))]),11⟩ ?_ ?_
 ·refine iT Hj (fun q=>⟨[(6,tP 3),(7,tP 10),(10,.v (.c (.w 12 r5.2.length))),(11,tI q.1)],(oM [.w 4,.w 5,.w 6,.w 7,.w 8,.w 9] 10 190 (b9 {r1 with aF:={r1.aF with ik:=r5.1},iy:=q.2})++[(3,.var 190 (kM [.z,.z,.z,.z,.z,.z] (b9 cU))),(12,w3 r5.2)]),13⟩) ?_
  rintro⟨v6,v7⟩ o H
  try dsimp only
  refine wI ?_
  refine cC H ?_ ?_<;>intro H
  ·refine zI (SO 11) ?_
   obtain⟨x10,hx10,H⟩:=ob H
   refine zA (xwT hx10) ?_
   refine zA (oe (he:=fZ _ hx10)) ?_
   obtain⟨h,H⟩:=rq H
   refine zB bT (gq rfl (apT (enc:=d5) (ys:=v7) (zs:=[{dH with aP:=7,aU:=x10}]) h)) bT ?_
   refine wA (spx 100358) ?_
   cases H
   refine ee ?_
   exact wo
  ·cases H
   refine ed (fun hq=>?_)
   cases hq
   refine wI ?_
   exact wo
 cases H
 exact ah
def na (a0:ag) (a1:aj) (a2:Int):Option (ag×aj):=
 Un (ge a0) fun r1=>Un (kD a0 a2) fun r2=>bif leB r2 0 then(Un (jq a1) fun r3=>some (r1,r3)) else(Un (Ah r2 a0.gN.ei) fun r4=>Un (lM a1 a0.bO r4) fun r5=>some ({r1 with bO:=r5.2},r5.1))
theorem Af {a0:ag} {a1:aj} {a2:Int} {r:ag×aj} (H:na a0 a1 a2=some r):Fn Tryz.prog 351 [.agg (bS a0),.agg (da a1),aI a2] [.agg (qM [.o,.o,.o] (cy r.1)),.agg (qM [.o] (cM r.2))]:=by
 refine fI Tryz.func351 Tryz.ntmps351 ?_
 obtain⟨r1,q1,H⟩:=ob H
 refine nA (ca (hF:=fQ q1)) ?_
 obtain⟨r2,q2,H⟩:=ob H
 refine nA (ca (hF:=sQ q2)) ?_
 refine cC H ?_ ?_<;>intro H
 ·refine zI (SO 5) ?_
  obtain⟨r3,q3,H⟩:=ob H
  refine zA (ca (hF:=jL q3)) ?_
  refine wA (spx 100374) ?_
  refine wA (spx 100373) ?_
  cases H
  exact ah
 ·refine zI (SO 16) ?_
  obtain⟨r4,q4,H⟩:=ob H
  refine zA (ca (hF:=xo q4)) ?_
  obtain⟨r5,q5,H⟩:=ob H
  refine zA (ca (hF:=yw q5)) ?_
  refine wA (spx 100378) ?_
  refine wA (spx 100377) ?_
  refine zI (SO 4) ?_
  refine wA (spx 100376) ?_
  refine wA (spx 100375) ?_
  cases H
  exact ah
end Go.AM
