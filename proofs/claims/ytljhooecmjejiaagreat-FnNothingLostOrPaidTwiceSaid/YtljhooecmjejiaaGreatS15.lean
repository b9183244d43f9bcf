/- A part. -/
import Derived.Test.YtljhooecmjejiaaGreatS10
import Derived.Test.YtljhooecmjejiaaGreatS13
set_option linter.unusedVariables false
open Option renaming bind→Un
namespace Go.AM
open Go.Proofs
attribute [local irreducible] AWN NS AWO AWR AWC DR cZ eE
set_option maxRecDepth 100000
set_option maxHeartbeats 40000000
def AL (v20:Int):(Int×List ag×aH)→Option (cB (Int×List ag×aH) (List ag×aH))
 |(v118,v122,v123)=>bif ltB 0 v118 then(Un (ix v122 v20) fun x134=>Un (bZ v123 4) fun r135=>Un (sY r135.2 r135.1) fun r136=>Un (jn x134 r136.1) fun r137=>Un (ix v122 v20) fun x138=>some (.next (WR (v118-1),(v122.set (v20).toNat r137.1),r136.2))) else(some (.done (v122,v123)))
def ov (v20:Int) (r152:aS):(Int×ab)→Option (cB (Int×ab) (ab))
 |(v154,v165)=>bif ltB v154 ((r152.dD.length:Nat):Int) then(Un (ix r152.dD v154) fun x180=>Un (ix r152.dD v154) fun x181=>Un (eM v165 (⟨v20,true,false,x180.aU,x181,d8⟩:bJ)) fun r182=>some (.next (WR (v154+1),r182))) else(some (.done v165))
def AK:(Int×aH×ab)→Option (cB (Int×aH×ab) (aH×ab))
 |(v20,v34,v35)=>bif ltB v20 ((v35.ai.length:Nat):Int) then(Un (bZ v34 7) fun r117=>Un (iter (AL v20) FU (r117.1,v35.am,r117.2)) fun((v132,v133):List ag×aH)=>Un (gb v133 5) fun r139=>Un (bif !r139.1 then(Un (ix v35.ai v20) fun x151=>Un (sP x151) fun r152=>Un (ix v35.ai v20) fun x153=>Un (iter (ov v20 r152) FU (0,{v35 with ai:=(v35.ai.set (v20).toNat r152.a9),am:=v132})) fun(v179:ab)=>some v179) else(some {v35 with am:=v132})) fun(v150:ab)=>some (.next (WR (v20+1),r139.2,v150))) else(some (.done (v34,v35)))
def wD (a0:aH):Option (ab×aH):=
 Un (ww a0) fun r1=>Un (Un (wm r1.2) fun r16=>Un (jy r16.2) fun r17=>Un (bZ r17.2 60) fun r18=>Un (oU r16.1 r17.1 r1.1 (WR (30+r18.1))) fun r19=>some (r19.dh,r19.oD,r19.jX,r19.aY,r19.am,r19.ai,r19.dW.aX,r18.2,r19.dR)) fun((v5,v8,v9,v10,v11,v12,v13,v14,v15):Int×Int×Int×List aj×List ag×List ay×List fc×aH×bN)=>Un (iter (AK) FU (0,v14,(⟨(⟨v13⟩:aK),v12,v11,v10,([]:List bJ),v5,v15,v8,v9⟩:ab))) fun((v115,v116):aH×ab)=>some (v116,v115)
theorem KN {a0:aH} {r:ab×aH} (H:wD a0=some r):FnV Tryz.prog 73 [(200,.var 143 (kM [.f] (bI a0)))] [tP 200] [(200,.var 143 (kM [.f] (bI r.2)))] (.v (.agg (kM [.t,.n 210,.n 211,.n 212,.n 213] (aO r.1)))) [(210,n45 r.1.ai),(211,n60 r.1.am),(212,n66 r.1.aY),(213,n78 r.1.aQ)]:=by
 refine fV Tryz.func73 Tryz.ntmps73 ?_
 obtain⟨r1,q1,H⟩:=ob H
 refine sA (cwv [(200,200)] [(210,211)] 212 (HG q1)) ?_
 refine wI ?_
 obtain⟨⟨v5,v8,v9,v10,v11,v12,v13,v14,v15⟩,Hj,H⟩:=ob H
 refine Oj ⟨[(0,tP 200),(2,tP 210),(4,tP 214)],(oM [.n 215,.n 216,.n 217,.n 218,.z] 214 34 (aO (⟨(⟨v13⟩:aK),v12,v11,v10,[],v5,v15,v8,v9⟩:ab))++[(200,.var 143 (kM [.f] (bI v14))),(210,.var 34 (kM [.z,.z,.z,.z,.z] (aO {dt with dW:=(⟨[]⟩:aK)})))]),219⟩ Try.follows ?_ ?_
 ·have H:=Hj
  refine JI 8 9 rfl ?_ ?_
  ·refine Lj [0,1,2,3,4,5,6,7,9,8,10] (by kernel_rfl) (by kernel_rfl) rfl ?_
   refine wI ?_
   obtain⟨r16,q16,H⟩:=ob H
   refine wA (cwx (o:=200) (FnV.frzW (Az q16) rfl rfl ⟨by first|rfl|simp,trivial⟩ rfl)) ?_
   obtain⟨r17,q17,H⟩:=ob H
   refine wA (cwx (o:=200) (ph q17)) ?_
   obtain⟨r18,q18,H⟩:=ob H
   refine wA (cwx (o:=200) (bL q18)) ?_
   obtain⟨r19,q19,H⟩:=ob H
   refine zB (aq (aT (o:=213)) (aq (cA (k:=16)) (ev 211))) (gq rfl (cwv [] [(210,215),(211,216),(212,217),(213,218)] 219 (ux q19))) bT ?_
   refine wA (spx 100218) ?_
   cases H
   exact wo
  ·refine Lj [0,1,2,3,4,5,6,7,8,9,10] (by kernel_rfl) (by kernel_rfl) rfl ?_
   refine wI ?_
   obtain⟨r16,q16,H⟩:=ob H
   refine wA (cwx (o:=200) (FnV.frzW (Az q16) rfl rfl ⟨by first|rfl|simp,trivial⟩ rfl)) ?_
   obtain⟨r17,q17,H⟩:=ob H
   refine wA (cwx (o:=200) (ph q17)) ?_
   obtain⟨r18,q18,H⟩:=ob H
   refine wA (cwx (o:=200) (bL q18)) ?_
   obtain⟨r19,q19,H⟩:=ob H
   refine zB (aq (aT (o:=213)) (aq (cA (k:=16)) (ev 211))) (gq rfl (cwv [] [(210,214),(211,215),(212,216),(213,217)] 218 (ux q19))) bT ?_
   refine wA (spx 100219) ?_
   cases H
   refine aq (wS 214 218) ?_
   refine aq (wS 215 218) ?_
   refine aq (wS 216 218) ?_
   refine aq (wS 217 218) ?_
   exact wo
 refine wI ?_
 obtain⟨⟨v115,v116⟩,Hj,H⟩:=ob H
 refine jB ⟨[(2,tP 210),(4,tP 214)],(oM [.t,.n 216,.n 217,.n 218,.n 219] 214 34 (aO v116)++[(200,.var 143 (kM [.f] (bI v115))),(210,.var 34 (kM [.z,.z,.z,.z,.z] (aO {dt with dW:=(⟨[]⟩:aK)})))]),220⟩ ?_ ?_
 ·refine iT Hj (fun q=>⟨[(0,tP 200),(2,tP 210),(4,tP 214),(5,tI q.1)],(oM [.t,.n 216,.n 217,.n 218,.n 219] 214 34 (aO q.2.2)++[(200,.var 143 (kM [.f] (bI q.2.1))),(210,.var 34 (kM [.z,.z,.z,.z,.z] (aO {dt with dW:=(⟨[]⟩:aK)})))]),220⟩) ?_ (by refine aq (ev 215) ?_;refine aq (c8 (o:=214) (j:=4) 78 21 true) ?_;refine aq (wB 219 (([]:List bJ).length)) ?_;exact wo)
  rintro⟨v20,v34,v35⟩ o H
  try dsimp only
  refine wI ?_
  refine cC H ?_ ?_<;>intro H
  ·obtain⟨r117,q117,H⟩:=ob H
   refine sA (cw (o:=200) (bL q117)) ?_
   obtain⟨⟨v132,v133⟩,Hj,H⟩:=ob H
   refine jB ⟨[(0,tP 200),(2,tP 210),(4,tP 214),(5,tI v20)],(oM [.t,.n 216,.n 217,.n 218,.n 219] 214 34 (aO {v35 with am:=v132})++[(200,.var 143 (kM [.f] (bI v133))),(210,.var 34 (kM [.z,.z,.z,.z,.z] (aO {dt with dW:=(⟨[]⟩:aK)})))]),220⟩ ?_ ?_
   ·refine iT Hj (fun q=>⟨[(0,tP 200),(2,tP 210),(4,tP 214),(5,tI v20),(6,tI q.1)],(oM [.t,.n 216,.n 217,.n 218,.n 219] 214 34 (aO {v35 with am:=q.2.1})++[(200,.var 143 (kM [.f] (bI q.2.2))),(210,.var 34 (kM [.z,.z,.z,.z,.z] (aO {dt with dW:=(⟨[]⟩:aK)})))]),220⟩) ?_
    rintro⟨v118,v122,v123⟩ o H
    try dsimp only
    refine wI ?_
    refine cC H ?_ ?_<;>intro H
    ·refine zI (List.range 16) ?_
     obtain⟨x134,hx134,H⟩:=ob H
     refine zA (mq hx134) ?_
     refine zA (Dq (he:=fZ _ hx134)) ?_
     obtain⟨r135,q135,H⟩:=ob H
     refine wA (cwx (o:=200) (bL q135)) ?_
     obtain⟨r136,q136,H⟩:=ob H
     refine wA (cwx (o:=200) (AA q136)) ?_
     obtain⟨r137,q137,H⟩:=ob H
     refine zA (ca (hF:=rC q137)) ?_
     refine wA (spx 100243) ?_
     obtain⟨x138,hx138,H⟩:=ob H
     refine bR (iK 217 (hne:=sv (enc:=bS) hx138)) ?_
     refine nA (xwT hx138) ?_
     refine bR (aT (o:=221)) ?_
     refine bR (aT (o:=222)) ?_
     refine bR (aT (o:=223)) ?_
     refine bR (cA (k:=51)) ?_
     refine sA (soT (enc:=bS) (a':=r137.1) hx138) ?_
     cases H
     refine ee ?_
     refine aq (du 217) ?_
     refine aq (wB 217 ((v122.set (v20).toNat r137.1).length)) ?_
     exact wo
    ·cases H
     refine ed (fun hq=>?_)
     cases hq
     refine wI ?_
     exact wo
   obtain⟨r139,q139,H⟩:=ob H
   refine sA (cw (o:=200) (f7 q139)) ?_
   obtain⟨v150,Hj,H⟩:=ob H
   refine jA ⟨[(0,tP 200),(2,tP 210),(4,tP 214),(5,tI v20)],(oM [.t,.n 216,.n 217,.n 218,.n 219] 214 34 (aO v150)++[(200,.var 143 (kM [.f] (bI r139.2))),(210,.var 34 (kM [.z,.z,.z,.z,.z] (aO {dt with dW:=(⟨[]⟩:aK)})))]),220⟩ ?_ ?_
   ·have H:=Hj
    refine cC H ?_ ?_<;>intro H
    ·obtain⟨x151,hx151,H⟩:=ob H
     refine bR (iK 216 (hne:=sv (enc:=c7) hx151)) ?_
     refine nA (xwT hx151) ?_
     refine nA (oea (he:=fZ _ hx151)) ?_
     obtain⟨r152,q152,H⟩:=ob H
     refine nA (ca (hF:=Ak q152)) ?_
     obtain⟨x153,hx153,H⟩:=ob H
     refine nA (xwT hx153) ?_
     refine sA (soT (enc:=c7) (a':=r152.a9) hx153) ?_
     obtain⟨v179,Hj,H⟩:=ob H
     refine jB ⟨[(0,tP 200),(2,tP 210),(4,tP 214),(5,tI v20)],(oM [.t,.n 216,.n 217,.n 218,.n 219] 214 34 (aO v179)++[(200,.var 143 (kM [.f] (bI r139.2))),(210,.var 34 (kM [.z,.z,.z,.z,.z] (aO {dt with dW:=(⟨[]⟩:aK)})))]),220⟩ ?_ ?_
     ·refine iT Hj (fun q=>⟨[(0,tP 200),(2,tP 210),(4,tP 214),(5,tI v20),(9,tP 221),(10,tI q.1)],(oM [.t,.n 216,.n 217,.n 218,.n 219] 214 34 (aO q.2)++(oM [.t,.t,.w 220] 221 183 (cq r152)++[(200,.var 143 (kM [.f] (bI r139.2))),(210,.var 34 (kM [.z,.z,.z,.z,.z] (aO {dt with dW:=(⟨[]⟩:aK)})))])),222⟩) ?_ (by refine aq (du 216) ?_;refine aq (wB 216 ((v35.ai.set (v20).toNat r152.a9).length)) ?_;exact wo)
      rintro⟨v154,v165⟩ o H
      try dsimp only
      refine wI ?_
      refine cC H ?_ ?_<;>intro H
      ·refine zI (List.range 14) ?_
       obtain⟨x180,hx180,H⟩:=ob H
       refine zA (xwT hx180) ?_
       refine zA (oe (he:=fZ _ hx180)) ?_
       obtain⟨x181,hx181,H⟩:=ob H
       refine zA (xwT hx181) ?_
       refine zA (oea (he:=fZ _ hx181)) ?_
       obtain⟨r182,q182,H⟩:=ob H
       refine zB bT (gq rfl (cwu [(190,216),(191,217),(192,218),(193,219),(200,214)] [] 222 (ow q182))) bT ?_
       cases H
       refine ee ?_
       exact wo
      ·cases H
       refine ed (fun hq=>?_)
       cases hq
       refine wI ?_
       exact wo
     cases H
     exact wo
    ·cases H
     exact wo
   cases H
   refine ee ?_
   exact wo
  ·cases H
   refine ed (fun hq=>?_)
   cases hq
   refine wI ?_
   exact wo
 cases H
 refine bU (wS 216 210) ?_
 refine bU (wS 217 211) ?_
 refine bU (wS 218 212) ?_
 refine bU (wS 219 213) ?_
 exact bV
def sK (a0:Int) (a1:List Int):(Int×List Int)→Option (cB (Int×List Int) (List Int))
 |(v1,v2)=>bif ltB v1 ((a1.length:Nat):Int) then(Un (ix a1 v1) fun x7=>Un (d6 a0 [v1]) fun r8=>Un (Bm (WR ((WR (x7))-(Int.tmod r8 256))) 256) fun r9=>bif cS 1 (v2++[IntKind.u8.wrap (r9)]).length then(some (.next (WR (v1+1),(v2++[IntKind.u8.wrap (r9)])))) else none) else(some (.done v2))
def vY (a0:Int) (a1:List Int):Option (List Int):=
 Un (iter (sK a0 a1) FU (0,([]:List Int))) fun(v6:List Int)=>some v6
theorem Ht {a0:Int} {a1:List Int} {r:List Int} (H:vY a0 a1=some r):Fn Tryz.prog 381 [aI a0,aL (a1.map eU8)] [.c (.own 5 1 (r.map eU8) r.length)]:=by
 refine fI Tryz.func381 Tryz.ntmps381 ?_
 obtain⟨v6,Hj,H⟩:=ob H
 refine jB ⟨[(5,.v (.c (.w 0 v6.length)))],[(0,w5 v6)],1⟩ ?_ ?_
 ·refine iT Hj (fun q=>⟨[(0,tI a0),(1,.v (.c (.d false (.l (a1.map eU8))))),(5,.v (.c (.w 0 q.2.length))),(6,tI q.1)],[(0,w5 q.2)],1⟩) ?_
  rintro⟨v1,v2⟩ o H
  try dsimp only
  refine wI ?_
  refine cC H ?_ ?_<;>intro H
  ·refine qt [0,1,2,3,4,5,6,7,8,9,10,11,12,13,14,15,16] (h:=?_)
   refine wkb ?_
   obtain⟨x7,hx7,H⟩:=ob H
   refine jD rfl (xdT (enc:=eU8) hx7) ?_
   refine wkb ?_
   refine yl rfl (bsx (bs rfl rfl rfl rfl rfl rfl rfl rfl) rfl) ?_
   refine wkb ?_
   obtain⟨r8,q8,H⟩:=ob H
   refine jD rfl (ca (hF:=dV q8)) ?_
   refine wkb ?_
   refine jD rfl (ir rfl rfl rfl (by decide)) ?_
   refine wkb ?_
   obtain⟨r9,q9,H⟩:=ob H
   refine jD rfl (ca (hF:=uS q9)) ?_
   refine wkb ?_
   refine jD rfl (bs rfl rfl rfl rfl rfl rfl rfl rfl) ?_
   refine wkb ?_
   obtain⟨h,H⟩:=rq H
   refine yl rfl (A4 (enc:=eU8) (ys:=v2) (zs:=[IntKind.u8.wrap (r9)]) [0,2] h) ?_
   refine wkb ?_
   refine jt (ds:=[0]) (by kernel_rfl) (by kernel_rfl) rfl ?_
   refine wI ?_
   cases H
   refine ee ?_
   refine aq (wS 0 3) ?_
   exact wo
  ·cases H
   refine ed (fun hq=>?_)
   cases hq
   refine wI ?_
   exact wo
 cases H
 exact ah
def ni (a0:Int) (a1:Int) (a2:Int):Option Int:=
 Un (cz a2 0 999999) fun r1=>bif !r1 then(some (-1)) else(Un (d6 a0 [5,a1,a2]) fun r2=>Un (Bm r2 1000) fun r3=>some (WR ((WR (1000000*r3))+a2)))
theorem An {a0:Int} {a1:Int} {a2:Int} {r:Int} (H:ni a0 a1 a2=some r):Fn Tryz.prog 382 [aI a0,aI a1,aI a2] [.c (.d (.i .i64 r))]:=by
 refine fI Tryz.func382 Tryz.ntmps382 ?_
 obtain⟨r1,q1,H⟩:=ob H
 refine nA (ca (hF:=bK q1)) ?_
 refine cC H ?_ ?_<;>intro H
 ·cases H
  exact ah
 ·obtain⟨r2,q2,H⟩:=ob H
  refine nA (ca (hF:=dV q2)) ?_
  obtain⟨r3,q3,H⟩:=ob H
  refine nA (ca (hF:=uS q3)) ?_
  cases H
  exact ah
def ga (a0:Int) (a1:Int):Option Int:=
 Un (d6 17 [a0,a1]) fun r1=>some (Int.tmod (WR (r1*r1)) 2147483647)
theorem mN {a0:Int} {a1:Int} {r:Int} (H:ga a0 a1=some r):Fn Tryz.prog 108 [aI a0,aI a1] [.c (.d (.i .i64 r))]:=by
 refine fI Tryz.func108 Tryz.ntmps108 ?_
 obtain⟨r1,q1,H⟩:=ob H
 refine nA (ca (hF:=dV q1)) ?_
 refine nA (ir rfl rfl rfl (by decide)) ?_
 cases H
 exact ah
end Go.AM
