/- A part. -/
import Derived.Test.YtcfhabdgiieejaaGreatI7
set_option linter.unusedVariables false
open Option renaming bind->abJ
open List renaming range->f5
namespace Go.AM
open Go.Proofs
open Tryz
attribute [local irreducible] AWN NS AWO AWR AWC DR DZ dQ f9 iter
set_option maxRecDepth 100000
set_option maxHeartbeats 40000000
variable {r:Go.AM.aX}
def Bg (a0:ab):(Int×ab)->Option (cr (Int×ab) (ab))
 |(v1,v12)=>bif ltB v1 (a0.aw.length:Int) then(abJ (ix v12.aw v1) λx27=>abJ (tX x27) λr28=>abJ (gA v12 v1 r28) λr29=>some (.next (WR (v1+1),r29))) else(some (.done v12))
def vk (v30:Int) (v159:bO):(Int×ab)->Option (cr (Int×ab) (ab))
 |(v166,v177)=>bif ltB v166 (v159.co.length:Int) then(abJ (ix v159.co v166) λx191=>abJ (rj v177 (⟨v30,false,true,v159.aU.bh,d9,x191⟩:bM)) λr192=>some (.next (WR (v166+1),r192))) else(some (.done v177))
def Bh (v26:ab):(Int×ab)->Option (cr (Int×ab) (ab))
 |(v30,v41)=>bif ltB v30 (v26.aA.length:Int) then(abJ (abJ (ix v41.aA v30) λx160=>abJ (ix v41.bG v30) λx161=>abJ (rG x160 x161 v41.ev) λr162=>some r162) λ(v159:bO)=>abJ (ix v41.aA v30) λx163=>abJ (ix v41.bG v30) λx164=>abJ (kJ {v41 with aA:=(v41.aA.set (v30).toNat v159.aU),bG:=(v41.bG.set (v30).toNat v159.eu)} v30 v159.ju) λr165=>abJ (iter (vk v30 v159) FU (0,r165)) λ(v190:ab)=>some (.next (WR (v30+1),v190))) else(some (.done v41))
def O9 (a0:ab):Option (Bool×ab):=
 bif leB 100000 a0.rr then(some (false,a0)) else(abJ (iter (Bg a0) FU (0,{a0 with rr:=WR (a0.rr+1)})) λ(v26:ab)=>abJ (iter (Bh v26) FU (0,v26)) λ(v122:ab)=>some (true,v122))
instance XE {a0:ab} {r:Bool×ab}:FCV prog (O9 a0=some r) 72 (nI a0) [tP 200] (nI r.2) (.v (.c (.d false (.b r.1)))) []:=⟨λH=>by
 refine fV func72 ntmps72 ?_
 refine cC H ?_ ?_<;>intro H
 .cases H
  exact bj
 refine aa H λv26 Hj H=>jB ⟨[(0,tP 200)],(nI v26),210⟩ ?_ ?_
 .refine iT Hj (λq=>⟨[(0,tP 200),(24,tI (a0.aw.length:Int)),(25,tI q.1)],(nI q.2),210⟩) ?_
  rintro⟨v1,v12⟩ o H
  refine ad ?_
  refine cC H ?_ ?_<;>intro H
  .refine aa H λx27 hx27 H=>nA (xwT hx27) ?_
   refine nA (oea (he:=dF _ hx27)) ?_
   refine aa H λr28 q28 H=>nA (ca (hF:=GD.h q28)) ?_
   refine aa H λr29 q29 H=>bL (bv (o:=210)) ?_
   refine bL (bv (o:=211)) ?_
   refine bL (bv (o:=212)) ?_
   refine bL (bH (k:=37)) ?_
   refine sA (cwu m0 [] 213 (lD.h q29)) ?_
   exact aN H
  exact aE H
 refine aa H λv122 Hj H=>jB ⟨[],(nI v122),210⟩ ?_ ?_
 .refine iT Hj (λq=>⟨[(0,tP 200),(44,tI (v26.aA.length:Int)),(45,tI q.1)],(nI q.2),210⟩) ?_
  rintro⟨v30,v41⟩ o H
  refine ad ?_
  refine cC H ?_ ?_<;>intro H
  .refine wI ?_
   refine aa H λv159 Hj H=>Iu ⟨[(0,tP 200),(4,tI v30),(5,tP 210),(44,tI (v26.aA.length:Int)),(45,tI v30)],(nI v41++(oM [.t,.t,.t,.t,.n 211,.t] 210 174 (bB v159))),212⟩ Try.follows ?_ ?_
   .have H:=Hj
    refine B0 18 19 rfl ?_ ?_
    .refine BZ [0,1,2,3,4,5,6,7,8,9,10,11,12,13,14,15,16,17,19,18,20] (by kernel_rfl) (by kernel_rfl) rfl ?_
     refine wI ?_
     refine aa H λx160 hx160 H=>zA (xwT hx160) ?_
     refine zA (oea (he:=dF _ hx160)) ?_
     refine aa H λx161 hx161 H=>zA (xwT hx161) ?_
     refine zA (oea (he:=dF _ hx161)) ?_
     refine aa H λr162 q162 H=>zB bC (fg rfl (cwv [] [(210,211)] 212 (xN.h q162))) bC ?_
     refine wA (spx 100121) ?_
     exact ai H
    refine BZ [0,1,2,3,4,5,6,7,8,9,10,11,12,13,14,15,16,17,18,19,20] (by kernel_rfl) (by kernel_rfl) rfl ?_
    refine wI ?_
    refine aa H λx160 hx160 H=>zA (xwT hx160) ?_
    refine zA (oea (he:=dF _ hx160)) ?_
    refine aa H λx161 hx161 H=>zA (xwT hx161) ?_
    refine zA (oea (he:=dF _ hx161)) ?_
    refine aa H λr162 q162 H=>zB bC (fg rfl (cwv [] [(210,210)] 211 (xN.h q162))) bC ?_
    refine wA (spx 100122) ?_
    cases H
    refine am (wS 210 211) ?_
    exact wo
   refine wI ?_
   refine zI (f5 9) ?_
   refine aa H λx163 hx163 H=>zA (xwT hx163) ?_
   refine zB bC (fg rfl (soT (enc:=bS) (a':=v159.aU) hx163)) bC ?_
   refine zI (f5 9) ?_
   refine aa H λx164 hx164 H=>zA (xwT hx164) ?_
   refine zB bC (fg rfl (soT (enc:=cM) (a':=v159.eu) hx164)) bC ?_
   refine aa H λr165 q165 H=>bL (fx 211) ?_
   refine bL (wB 191 ((v41.aA.set (v30).toNat v159.aU).length)) ?_
   refine bL (wB 192 ((v41.bG.set (v30).toNat v159.eu).length)) ?_
   refine sA (cwu m0 [] 212 (xe.h q165)) ?_
   refine aa H λv190 Hj H=>jB ⟨[(0,tP 200),(44,tI (v26.aA.length:Int)),(45,tI v30)],(nI v190),212⟩ ?_ ?_
   .refine iT Hj (λq=>⟨[(0,tP 200),(4,tI v30),(5,tP 210),(44,tI (v26.aA.length:Int)),(45,tI v30),(89,.v (.c (.d true (.l (v159.co.map cN))))),(90,tI (v159.co.length:Int)),(91,tI q.1)],(nI q.2++[(210,.var 174 (kM [.t,.t,.t,.t,.t,.t] (bB v159)))]),212⟩) ?_
    rintro⟨v166,v177⟩ o H
    refine ad ?_
    refine cC H ?_ ?_<;>intro H
    .refine aa H λx191 hx191 H=>nA (xdT (enc:=cN) hx191) ?_
     refine aa H λr192 q192 H=>sA (cwu m0 [] 213 (Bf.h q192)) ?_
     exact aN H
    exact aE H
   exact aN H
  exact aE H
 cases H
 exact bj⟩
def oi (a0:ah) (a1:aF):Option bN:=
 abJ (lv a1) λr1=>bif r1 then(bif eqB a1.a8 1 then(abJ (oc a0 a1) λr2=>some r2) else(bif eqB a1.a8 3 then(abJ (ma a0 a1) λr3=>some r3) else(bif eqB a1.a8 5 then(abJ (jY a0 a1) λr4=>some r4) else(bif eqB a1.a8 8 then(abJ (mY a0 a1) λr5=>some r5) else(abJ (dK a0 []) λr6=>some r6))))) else(abJ (dK a0 []) λr7=>some r7)
instance Ch {a0:ah} {a1:aF} {r:bN}:FC prog (oi a0 a1=some r) 223 [.agg (bS a0),.agg (cU a1)] [.agg (qM [.o,.o,.o,.o] (ef r))]:=gF func223 ntmps223
def pW (a0:aG) (a1:av):Option aX:=
 bif !eqB a0.bp 2 then(abJ (cO a0 []) λr1=>some r1) else(abJ (sQ a0.aZ a0.ag a0.aV a1) λr2=>bif r2.2 then(abJ (og a0.bW r2.1) λr3=>abJ (nB a0.aZ (⟨8,a0.bh,a0.ag,a0.aV,r3.bE,cp,0⟩:aF)) λr4=>abJ (cO {a0 with bW:=r3} [r4]) λr5=>some r5) else(abJ (cO a0 []) λr6=>some r6))
instance Dh {a0:aG} {a1:av} :FC prog (pW a0 a1=some r) 224 [.agg (cF a0),.agg (cN a1)] [.agg (qM [.o,.o,.o] (dm r))]:=⟨λH=>by
 refine fI func224 ntmps224 ?_
 refine cC H ?_ ?_<;>intro H
 .refine aa H λr1 q1 H=>nA (ca (hF:=qV.h q1)) ?_
  exact ao H
 obtain⟨r2,q2,H⟩:=ob H
 rcases hb:r2.2 with _|_
 .have H:=bf hb H
  refine tF rfl (ca (hF:=Gz q2 hb)) ?_
  simp only[hb]
  refine wI ?_
  refine aa H λr6 q6 H=>nA (ca (hF:=qV.h q6)) ?_
  exact ao H
 have H:=bt hb H
 refine tF rfl (ca (hF:=GA q2 hb)) ?_
 simp only[hb]
 refine wI ?_
 refine aa H λr3 q3 H=>nA (ca (hF:=Cf.h q3)) ?_
 refine qR [0,1,2,3,4,5,6,7] (h:=?_)
 refine wkb ?_
 refine aa H λr4 q4 H=>jD rfl (ca (hF:=GC.h q4)) ?_
 refine wkb ?_
 refine B9 rfl (bsx (bs rfl rfl rfl rfl rfl rfl rfl rfl) rfl) ?_
 refine wkb ?_
 refine aa H λr5 q5 H=>jD rfl (ca (hF:=qV.h q5)) ?_
 refine wkb ?_
 refine B9 rfl (spx 100148) ?_
 refine wkb ?_
 refine wI ?_
 cases H
 exact dM⟩
def ig (a0:aG):Option aX:=
 abJ (qx {a0 with cq:=false,fo:=3}) λr1=>abJ (cO {a0 with cq:=false,fo:=3} [r1]) λr2=>some r2
instance Sq {a0:aG} :FC prog (ig a0=some r) 278 [.agg (cF a0)] [.agg (qM [.o,.o,.o] (dm r))]:=gF func278 ntmps278 (hz 3)
def oh (a0:aG) (a1:aF):Option aX:=
 abJ (lv a1) λr1=>abJ (bif !r1 then(some true) else(bif !eqB a1.bh a0.bh then(some true) else(some (eqB a0.bp 0)))) λ(v2:Bool)=>bif v2 then(abJ (cO a0 []) λr3=>some r3) else(bif eqB a1.a8 2 then(bif eqB a0.bp 1 then(abJ (mb a0 a1) λr4=>some r4) else(abJ (cO a0 []) λr5=>some r5)) else(bif eqB a1.a8 4 then(abJ (bif eqB a0.bp 1 then(abJ (gI a0.aZ) λr7=>bif r7 then(bif eqB a1.ag a0.ag then(abJ (gv a0.aZ a1) λr8=>some r8) else(some false)) else(some false)) else(some false)) λ(v6:Bool)=>abJ (bif v6 then(some {a0 with bp:=2,aV:=a1.aV,cq:=true}) else(some a0)) λ(v12:aG)=>abJ (cO v12 []) λr13=>some r13) else(bif eqB a1.a8 6 then(abJ (bif eqB a0.bp 2 then(bif eqB a1.ag a0.ag then(bif eqB a1.aV a0.aV then(abJ (gv a0.aZ a1) λr15=>some r15) else(some false)) else(some false)) else(some false)) λ(v14:Bool)=>abJ (bif v14 then(some true) else(some a0.cq)) λ(v16:Bool)=>abJ (cO {a0 with cq:=v16} []) λr17=>some r17) else(bif eqB a1.a8 7 then(abJ (bif eqB a0.bp 3 then(some (ltB a0.aV 999999)) else(some false)) λ(v18:Bool)=>bif v18 then(abJ (ig {a0 with bp:=2,aV:=WR (a0.aV+1)}) λr19=>some r19) else(bif eqB a0.bp 2 then(abJ (ig a0) λr20=>some r20) else(abJ (cO a0 []) λr21=>some r21))) else(abJ (cO a0 []) λr22=>some r22)))))
instance Cg {a0:aG} {a1:aF} :FC prog (oh a0 a1=some r) 225 [.agg (cF a0),.agg (cU a1)] [.agg (qM [.o,.o,.o] (dm r))]:=gF func225 ntmps225 (hb 8 19) (hb 37 54) (hC 54 (λ(v:aG) sl ob nx=>⟨sl,[(0,.var 67 (kM [.f,.f] (gD v)))]++ob,nx⟩)) (hb 65 84) (hC 84 (λ(v:Bool) sl ob nx=>⟨sl,[(0,.var 67 (kM [.f,.f] (gD {a0 with cq:=v})))]++ob,nx⟩)) (hb 91 95)
def Bd (a0:ab) (a1:Int):Option ab:=
 abJ (qy a0 a1) λr1=>abJ (vi r1.2 r1.1.bh) λr2=>abJ (bif !r2 then(some {r1.2 with jT:=WR (r1.2.jT+1)}) else(abJ (bif r1.1.eG then(bif r1.1.dZ then(some true) else(some (!eqB r1.1.bg.bh r1.1.bh))) else(some false)) λ(v14:Bool)=>abJ (bif v14 then(some r1.2) else(abJ (bif r1.1.eG then(abJ (ix r1.2.aA r1.1.bm) λx37=>abJ (oi x37 r1.1.bg) λr38=>abJ (ix r1.2.aA r1.1.bm) λx39=>abJ (kJ {r1.2 with aA:=(r1.2.aA.set (r1.1.bm).toNat r38.aU)} r1.1.bm r38.dy) λr40=>some r40) else(abJ (ix r1.2.aw r1.1.bm) λx41=>abJ (bif !eqB x41.bh r1.1.bh then(some {r1.2 with jT:=WR (r1.2.jT+1)}) else(abJ (bif r1.1.dZ then(abJ (ix r1.2.aw r1.1.bm) λx64=>abJ (pW x64 r1.1.co) λr65=>abJ (gA r1.2 r1.1.bm r65) λr66=>some r66) else(abJ (ix r1.2.aw r1.1.bm) λx67=>abJ (oh x67 r1.1.bg) λr68=>abJ (gA r1.2 r1.1.bm r68) λr69=>some r69)) λ(v63:ab)=>some v63)) λ(v52:ab)=>some v52)) λ(v36:ab)=>some v36)) λ(v25:ab)=>some v25)) λ(v13:ab)=>some v13
instance Nm {a0:ab} {a1:Int} {r:ab}:FCV prog (Bd a0 a1=some r) 133 (nI a0) [tP 200,tI a1] (nI r) (.tup []) []:=⟨λH=>by
 refine fV func133 ntmps133 ?_
 refine aa H λr1 q1 H=>sA (cwu m0 [] 210 (zH.h q1)) ?_
 refine dI ?_
 refine aa H λr2 q2 H=>dA (ca (hF:=CQ.h q2)) ?_
 refine wI ?_
 refine aa H λv13 Hj H=>jA ⟨[],(nI v13),211⟩ ?_ ?_
 .refine cC Hj ?_ ?_<;>intro H
  .exact ai H
  refine aa H λv14 Hj H=>jR ⟨[(0,tP 200),(4,tP 210),(5,tI r1.1.bm),(40,tB v14)],(nI r1.2++[(210,.var 48 (kM [.t] (jE r1.1)))]),211⟩ ?_ ?_
  .exact az Hj
  refine aa H λv25 Hj H=>jA ⟨[],(nI v25),211⟩ ?_ ?_
  .refine cC Hj ?_ ?_<;>intro H
   .exact ai H
   refine aa H λv36 Hj H=>jA ⟨[],(nI v36),211⟩ ?_ ?_
   .refine cC Hj ?_ ?_<;>intro H
    .refine zI (f5 12) ?_
     refine aa H λx37 hx37 H=>zA (xwT hx37) ?_
     refine zA (oea (he:=dF _ hx37)) ?_
     refine aa H λr38 q38 H=>zA (ca (hF:=Ch.h q38)) ?_
     refine wA (spx 100170) ?_
     refine zI (f5 9) ?_
     refine aa H λx39 hx39 H=>zA (xwT hx39) ?_
     refine zB (am (bv (o:=211)) (am (bv (o:=212)) (am (bv (o:=213)) (bH (k:=74))))) (fg rfl (soT (enc:=bS) (a':=r38.aU) hx39)) bC ?_
     refine aa H λr40 q40 H=>bL (bv (o:=214)) ?_
     refine bL (bH (k:=79)) ?_
     refine bL (wB 191 ((r1.2.aA.set (r1.1.bm).toNat r38.aU).length)) ?_
     refine sA (cwu m0 [] 216 (xe.h q40)) ?_
     exact ai H
    refine dI ?_
    refine aa H λx41 hx41 H=>dA (xwT hx41) ?_
    refine dA (oe (he:=dF _ hx41)) ?_
    refine wI ?_
    refine aa H λv52 Hj H=>jA ⟨[],(nI v52),211⟩ ?_ ?_
    .refine cC Hj ?_ ?_<;>intro H
     .exact ai H
     refine aa H λv63 Hj H=>jA ⟨[],(nI v63),211⟩ ?_ ?_
     .refine cC Hj ?_ ?_<;>intro H
      .refine zI (f5 13) ?_
       refine aa H λx64 hx64 H=>zA (xwT hx64) ?_
       refine zA (oea (he:=dF _ hx64)) ?_
       refine aa H λr65 q65 H=>zA (ca (hF:=Dh.h q65)) ?_
       refine aa H λr66 q66 H=>zB (am (bv (o:=211)) (am (bv (o:=212)) (am (bv (o:=213)) (bH (k:=114))))) (fg rfl (cwu m0 [] 214 (lD.h q66))) bC ?_
       exact ai H
      refine zI (f5 13) ?_
      refine aa H λx67 hx67 H=>zA (xwT hx67) ?_
      refine zA (oea (he:=dF _ hx67)) ?_
      refine aa H λr68 q68 H=>zA (ca (hF:=Cg.h q68)) ?_
      refine aa H λr69 q69 H=>zB (am (bv (o:=211)) (am (bv (o:=212)) (am (bv (o:=213)) (bH (k:=23))))) (fg rfl (cwu m0 [] 214 (lD.h q69))) bC ?_
      exact ai H
     exact ai H
    exact ai H
   exact ai H
  exact ai H
 cases H
 exact nT⟩
def tU (a0:aG) (a1:Int):Option aX:=
 abJ (bif eqB a1 a0.bh then(some true) else(abJ (cf a1 0 5) λr2=>some (!r2))) λ(v1:Bool)=>bif v1 then(abJ (cO a0 []) λr3=>some r3) else(abJ (bif !eqB a0.bp 2 then(some true) else(some (leB 999999 a0.aV))) λ(v4:Bool)=>bif v4 then(abJ (cO {a0 with bh:=a1} []) λr5=>some r5) else(abJ (ig {a0 with bh:=a1,aV:=WR (a0.aV+1)}) λr6=>some r6))
instance Gy {a0:aG} {a1:Int} :FC prog (tU a0 a1=some r) 178 [.agg (cF a0),aI a1] [.agg (qM [.o,.o,.o] (dm r))]:=gF func178 ntmps178 (hb 9 13) (hb 21 25)
end Go.AM
