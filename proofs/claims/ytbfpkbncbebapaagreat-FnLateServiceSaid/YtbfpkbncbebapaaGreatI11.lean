/- A part. -/
import Derived.Test.YtbfpkbncbebapaaGreatI10
set_option linter.unusedVariables false
open Option renaming bind->aaC
namespace Go.AM
open Go.Proofs
open Tryz
attribute [local irreducible] AWN NS AWO AWR AWC DR dO ip
set_option maxRecDepth 100000
set_option maxHeartbeats 40000000
def zR (a0:ab):(Int×ab)->Option (cK (Int×ab) (ab))
 |(v1,v12)=>bif ltB v1 (a0.ah.length:Int) then(aaC (ix v12.ah v1) λx27=>aaC (sJ x27) λr28=>aaC (fw v12 v1 r28) λr29=>some (.next (WR (v1+1),r29))) else(some (.done v12))
def uc (v30:Int) (v159:bZ):(Int×ab)->Option (cK (Int×ab) (ab))
 |(v166,v177)=>bif ltB v166 (v159.b6.length:Int) then(aaC (ix v159.b6 v166) λx191=>aaC (pz v177 (⟨v30,false,true,v159.az.aE,fG,x191⟩:a9)) λr192=>some (.next (WR (v166+1),r192))) else(some (.done v177))
def zS (v26:ab):(Int×ab)->Option (cK (Int×ab) (ab))
 |(v30,v41)=>bif ltB v30 (v26.aj.length:Int) then(aaC (aaC (ix v41.aj v30) λx160=>aaC (ix v41.aB v30) λx161=>aaC (qv x160 x161 v41.bX) λr162=>some r162) λ(v159:bZ)=>aaC (ix v41.aj v30) λx163=>aaC (ix v41.aB v30) λx164=>aaC (kc {v41 with aj:=(v41.aj.set (v30).toNat v159.az),aB:=(v41.aB.set (v30).toNat v159.cy)} v30 v159.eW) λr165=>aaC (iter (uc v30 v159) FU (0,r165)) λ(v190:ab)=>some (.next (WR (v30+1),v190))) else(some (.done v41))
def J3 (a0:ab):Option (Bool×ab):=
 bif leB 100000 a0.gZ then(some (false,a0)) else(aaC (iter (zR a0) FU (0,{a0 with gZ:=WR (a0.gZ+1)})) λ(v26:ab)=>aaC (iter (zS v26) FU (0,v26)) λ(v122:ab)=>some (true,v122))
theorem Vx {a0:ab} {r:Bool×ab} (H:J3 a0=some r):FnV prog 72 (nI a0) [tP 200] (nI r.2) (.v (.c (.d false (.b r.1)))) []:=by
 refine fV func72 ntmps72 ?_
 refine cC H ?_ ?_<;>intro H
 .cases H
  exact cV
 refine aa H λv26 Hj H=>jB ⟨[(0,tP 200)],(nI v26),210⟩ ?_ ?_
 .refine iT Hj (λq=>⟨[(0,tP 200),(24,tI (a0.ah.length:Int)),(25,tI q.1)],(nI q.2),210⟩) ?_
  rintro⟨v1,v12⟩ o H
  try dsimp only
  refine wI ?_
  refine cC H ?_ ?_<;>intro H
  .refine aa H λx27 hx27 H=>nA (xwT hx27) ?_
   refine nA (oea (he:=eU _ hx27)) ?_
   refine aa H λr28 q28 H=>nA (ca (hF:=Fj q28)) ?_
   refine aa H λr29 q29 H=>bN (bw (o:=210)) ?_
   refine bN (bw (o:=211)) ?_
   refine bN (bw (o:=212)) ?_
   refine bN (bJ (k:=37)) ?_
   refine sA (cwu m0 [] 213 (kY q29)) ?_
   cases H
   refine eA ?_
   exact wo
  cases H
  refine et (λhq=>?_)
  cases hq
  refine wI ?_
  exact wo
 refine aa H λv122 Hj H=>jB ⟨[],(nI v122),210⟩ ?_ ?_
 .refine iT Hj (λq=>⟨[(0,tP 200),(44,tI (v26.aj.length:Int)),(45,tI q.1)],(nI q.2),210⟩) ?_
  rintro⟨v30,v41⟩ o H
  try dsimp only
  refine wI ?_
  refine cC H ?_ ?_<;>intro H
  .refine wI ?_
   refine aa H λv159 Hj H=>Hq ⟨[(0,tP 200),(4,tI v30),(5,tP 210),(44,tI (v26.aj.length:Int)),(45,tI v30)],(nI v41++(oM [.t,.t,.t,.t,.n 211,.t] 210 188 (cq v159))),212⟩ Try.follows ?_ ?_
   .have H:=Hj
    refine AL 18 19 rfl ?_ ?_
    .refine AK [0,1,2,3,4,5,6,7,8,9,10,11,12,13,14,15,16,17,19,18,20] (by kernel_rfl) (by kernel_rfl) rfl ?_
     refine wI ?_
     refine aa H λx160 hx160 H=>zA (xwT hx160) ?_
     refine zA (oea (he:=eU _ hx160)) ?_
     refine aa H λx161 hx161 H=>zA (xwT hx161) ?_
     refine zA (oea (he:=eU _ hx161)) ?_
     refine aa H λr162 q162 H=>zB b7 (jp rfl (cwv [] [(210,211)] 212 (wE q162))) b7 ?_
     refine wA (spx 100609) ?_
     exact ai H
    refine AK [0,1,2,3,4,5,6,7,8,9,10,11,12,13,14,15,16,17,18,19,20] (by kernel_rfl) (by kernel_rfl) rfl ?_
    refine wI ?_
    refine aa H λx160 hx160 H=>zA (xwT hx160) ?_
    refine zA (oea (he:=eU _ hx160)) ?_
    refine aa H λx161 hx161 H=>zA (xwT hx161) ?_
    refine zA (oea (he:=eU _ hx161)) ?_
    refine aa H λr162 q162 H=>zB b7 (jp rfl (cwv [] [(210,210)] 211 (wE q162))) b7 ?_
    refine wA (spx 100610) ?_
    cases H
    refine aH (wS 210 211) ?_
    exact wo
   refine wI ?_
   refine zI (List.range 9) ?_
   refine aa H λx163 hx163 H=>zA (xwT hx163) ?_
   refine zB b7 (jp rfl (soT (enc:=cG) (a':=v159.az) hx163)) b7 ?_
   refine zI (List.range 9) ?_
   refine aa H λx164 hx164 H=>zA (xwT hx164) ?_
   refine zB b7 (jp rfl (soT (enc:=dB) (a':=v159.cy) hx164)) b7 ?_
   refine aa H λr165 q165 H=>bN (xI 211) ?_
   refine bN (wB 191 ((v41.aj.set (v30).toNat v159.az).length)) ?_
   refine bN (wB 192 ((v41.aB.set (v30).toNat v159.cy).length)) ?_
   refine sA (cwu m0 [] 212 (vJ q165)) ?_
   refine aa H λv190 Hj H=>jB ⟨[(0,tP 200),(44,tI (v26.aj.length:Int)),(45,tI v30)],(nI v190),210⟩ ?_ ?_
   .refine iT Hj (λq=>⟨[(0,tP 200),(4,tI v30),(5,tP 210),(44,tI (v26.aj.length:Int)),(45,tI v30),(89,.v (.c (.d true (.l (v159.b6.map d5))))),(90,tI (v159.b6.length:Int)),(91,tI q.1)],(nI q.2++[(210,.var 188 (kM [.t,.t,.t,.t,.t,.t] (cq v159)))]),211⟩) ?_
    rintro⟨v166,v177⟩ o H
    try dsimp only
    refine wI ?_
    refine cC H ?_ ?_<;>intro H
    .refine aa H λx191 hx191 H=>nA (xdT (enc:=d5) hx191) ?_
     refine aa H λr192 q192 H=>sA (cwu m0 [] 212 (HV q192)) ?_
     cases H
     refine eA ?_
     exact wo
    cases H
    refine et (λhq=>?_)
    cases hq
    refine wI ?_
    exact wo
   cases H
   refine eA ?_
   exact wo
  cases H
  refine et (λhq=>?_)
  cases hq
  refine wI ?_
  exact wo
 cases H
 exact cV
def ly (a0:ae) (a1:aR):Option bT:=
 aaC (bif leB a0.bi 0 then(some true) else(bif !eqB a1.ag a0.bi then(some true) else(aaC (om a0.aO a1.bI) λr2=>bif !r2 then(some true) else(some (leB 999999 a0.aF))))) λ(v1:Bool)=>bif v1 then(aaC (db a0 []) λr3=>some r3) else(aaC (lZ (⟨a0.be,a0.gT,1,c7,0,a0.bi,a0.aO.eR,WR (a0.aF+1),a1.aE,0,eB,a0.ax,a0.aq,a0.cR,a0.bC⟩:ae) 4) λr4=>aaC (db (⟨a0.be,a0.gT,1,c7,0,a0.bi,a0.aO.eR,WR (a0.aF+1),a1.aE,0,eB,a0.ax,a0.aq,a0.cR,a0.bC⟩:ae) [r4]) λr5=>some r5)
theorem yI {a0:ae} {a1:aR} {r:bT} (H:ly a0 a1=some r):Fn prog 288 [.agg (cG a0),.agg (dY a1)] [.agg (qM [.o,.o,.o,.o] (dU r))]:=by
 refine fI func288 ntmps288 ?_
 refine aa H λv1 Hj H=>jR ⟨[(2,tP 0),(3,tP 1),(4,tP 2),(27,tB v1)],[(0,.var 69 (kM [.f,.f,.f] (cW a0))),(1,.var 42 (kM [] (ig a1))),(2,.var 237 (kM [.z,.z,.z,.z] (dU gS)))],3⟩ ?_ ?_
 .refine gC Hj ?_ ?_<;>intro H
  .exact ai H
  refine gC H ?_ ?_<;>intro H
  .exact ai H
  refine aa H λr2 q2 H=>nG (ca (hF:=yJ q2)) ?_
  refine gC H ?_ ?_<;>intro H
  .exact ai H
  exact ai H
 refine cC H ?_ ?_<;>intro H
 .refine aa H λr3 q3 H=>nA (ca (hF:=ef q3)) ?_
  exact ao H
 refine mz [0,1,2,3,4,5] (h:=?_)
 refine wkb ?_
 refine aa H λr4 q4 H=>iS rfl (ca (hF:=vK q4)) ?_
 refine wkb ?_
 refine tg rfl (bsx (bs rfl rfl rfl rfl rfl rfl rfl rfl) rfl) ?_
 refine wkb ?_
 refine aa H λr5 q5 H=>iS rfl (ca (hF:=ef q5)) ?_
 refine wkb ?_
 refine tg rfl (spx 100620) ?_
 refine wkb ?_
 refine wI ?_
 exact ao H
def jz (a0:ae) (a1:aR):Option bT:=
 aaC (bif !eqB a0.aG 1 then(some true) else(bif !eqB a1.ag a0.ag then(some true) else(aaC (iW a0.aV a1) λr2=>some (!r2)))) λ(v1:Bool)=>bif v1 then(aaC (db a0 []) λr3=>some r3) else(aaC (bif ltB a1.aF a0.aF then(some true) else(bif eqB a1.aF a0.aF then(some (!eqB a1.aE a0.aE)) else(some false))) λ(v4:Bool)=>bif v4 then(aaC (db a0 []) λr5=>some r5) else(aaC (lZ {a0 with aF:=a1.aF,aE:=a1.aE,c9:=0,eo:=eB,cR:=0} 6) λr6=>aaC (db {a0 with aF:=a1.aF,aE:=a1.aE,c9:=0,eo:=eB,cR:=0} [r6]) λr7=>some r7))
theorem wC {a0:ae} {a1:aR} {r:bT} (H:jz a0 a1=some r):Fn prog 289 [.agg (cG a0),.agg (dY a1)] [.agg (qM [.o,.o,.o,.o] (dU r))]:=by
 refine fI func289 ntmps289 ?_
 refine aa H λv1 Hj H=>jR ⟨[(2,tP 0),(3,tP 1),(4,tP 2),(21,tB v1)],[(0,.var 69 (kM [.f,.f,.f] (cW a0))),(1,.var 42 (kM [] (ig a1))),(2,.var 237 (kM [.z,.z,.z,.z] (dU gS)))],3⟩ ?_ ?_
 .refine gC Hj ?_ ?_<;>intro H
  .exact ai H
  refine gC H ?_ ?_<;>intro H
  .exact ai H
  refine aa H λr2 q2 H=>nG (ca (hF:=mt q2)) ?_
  exact ai H
 refine cC H ?_ ?_<;>intro H
 .refine aa H λr3 q3 H=>nA (ca (hF:=ef q3)) ?_
  exact ao H
 refine aa H λv4 Hj H=>jR ⟨[(2,tP 0),(3,tP 1),(4,tP 2),(42,tB v4)],[(0,.var 69 (kM [.f,.f,.f] (cW a0))),(1,.var 42 (kM [] (ig a1))),(2,.var 237 (kM [.z,.z,.z,.z] (dU gS)))],3⟩ ?_ ?_
 .refine gC Hj ?_ ?_<;>intro H
  .exact ai H
  refine gC H ?_ ?_<;>intro H
  .exact ai H
  exact ai H
 refine cC H ?_ ?_<;>intro H
 .refine aa H λr5 q5 H=>nA (ca (hF:=ef q5)) ?_
  exact ao H
 refine mz [0,1,2,3,4,5] (h:=?_)
 refine wkb ?_
 refine aa H λr6 q6 H=>iS rfl (ca (hF:=vK q6)) ?_
 refine wkb ?_
 refine tg rfl (bsx (bs rfl rfl rfl rfl rfl rfl rfl rfl) rfl) ?_
 refine wkb ?_
 refine aa H λr7 q7 H=>iS rfl (ca (hF:=ef q7)) ?_
 refine wkb ?_
 refine tg rfl (spx 100622) ?_
 refine wkb ?_
 refine wI ?_
 exact ao H
def oQ (a0:aw) (a1:aK):Option bg:=
 bif !eqB a0.aG 2 then(aaC (cm a0 []) λr1=>some r1) else(aaC (ro a0.aV a0.ag a0.aF a1) λr2=>bif r2.2 then(aaC (nr a0.aT r2.1) λr3=>aaC (mJ a0.aV (⟨8,a0.aE,a0.ag,a0.aF,r3.bb,c7,0⟩:aR)) λr4=>aaC (cm {a0 with aT:=r3} [r4]) λr5=>some r5) else(aaC (cm a0 []) λr6=>some r6))
theorem Ck {a0:aw} {a1:aK} {r:bg} (H:oQ a0 a1=some r):Fn prog 230 [.agg (dq a0),.agg (d5 a1)] [.agg (qM [.o,.o,.o] (cM r))]:=by
 refine fI func230 ntmps230 ?_
 refine cC H ?_ ?_<;>intro H
 .refine aa H λr1 q1 H=>nA (ca (hF:=cN q1)) ?_
  exact ao H
 obtain⟨r2,q2,H⟩:=ob H
 rcases hb:r2.2 with _|_
 .have H:=bf hb H
  refine vC rfl (ca (hF:=Fg q2 hb)) ?_
  simp only[hb]
  refine wI ?_
  refine aa H λr6 q6 H=>nA (ca (hF:=cN q6)) ?_
  exact ao H
 have H:=bt hb H
 refine vC rfl (ca (hF:=Fh q2 hb)) ?_
 simp only[hb]
 refine wI ?_
 refine aa H λr3 q3 H=>nA (ca (hF:=Ba q3)) ?_
 refine mz [0,1,2,3,4,5,6,7] (h:=?_)
 refine wkb ?_
 refine aa H λr4 q4 H=>iS rfl (ca (hF:=tp q4)) ?_
 refine wkb ?_
 refine tg rfl (bsx (bs rfl rfl rfl rfl rfl rfl rfl rfl) rfl) ?_
 refine wkb ?_
 refine aa H λr5 q5 H=>iS rfl (ca (hF:=cN q5)) ?_
 refine wkb ?_
 refine tg rfl (spx 100636) ?_
 refine wkb ?_
 refine wI ?_
 exact ao H
def gY (a0:aw):Option bg:=
 aaC (py {a0 with bM:=false,di:=3}) λr1=>aaC (cm {a0 with bM:=false,di:=3} [r1]) λr2=>some r2
theorem pT {a0:aw} {r:bg} (H:gY a0=some r):Fn prog 257 [.agg (dq a0)] [.agg (qM [.o,.o,.o] (cM r))]:=by
 refine fI func257 ntmps257 ?_
 refine mz [0,1,2,3,4,5] (h:=?_)
 refine wkb ?_
 refine aa H λr1 q1 H=>iS rfl (ca (hF:=yf q1)) ?_
 refine wkb ?_
 refine tg rfl (bsx (bs rfl rfl rfl rfl rfl rfl rfl rfl) rfl) ?_
 refine wkb ?_
 refine aa H λr2 q2 H=>iS rfl (ca (hF:=cN q2)) ?_
 refine wkb ?_
 refine tg rfl (spx 100638) ?_
 refine wkb ?_
 refine wI ?_
 exact ao H
end Go.AM
