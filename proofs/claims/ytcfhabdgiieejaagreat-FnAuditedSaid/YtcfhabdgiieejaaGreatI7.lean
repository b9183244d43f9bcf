/- A part. -/
import Derived.Test.YtcfhabdgiieejaaGreatI6
set_option linter.unusedVariables false
open Option renaming bind->abJ
namespace Go.AM
open Go.Proofs
open Tryz
attribute [local irreducible] AWN NS AWO AWR AWC DR DZ dQ f9 iter
set_option maxRecDepth 100000
set_option maxHeartbeats 40000000
def tX (a0:aG):Option aX:=
 bif ltB 0 a0.fo then(abJ (cO {a0 with fo:=WR (a0.fo-1)} []) λr1=>some r1) else(bif eqB a0.bp 1 then(abJ (mG {a0 with fo:=3}) λr2=>abJ (cO {a0 with fo:=3} [r2]) λr3=>some r3) else(abJ (bif eqB a0.bp 2 then(some (!a0.cq)) else(some false)) λ(v4:Bool)=>bif v4 then(abJ (qx {a0 with fo:=3}) λr5=>abJ (cO {a0 with fo:=3} [r5]) λr6=>some r6) else(abJ (cO a0 []) λr7=>some r7)))
instance GD {a0:aG} {r:aX}:FC prog (tX a0=some r) 129 [.agg (cF a0)] [.agg (qM [.o,.o,.o] (dm r))]:=gF func129 ntmps129 (hz 5) (hb 25 21) (hz 8)
def rG (a0:ah) (a1:aj) (a2:aS):Option bO:=
 abJ (gz a0) λr1=>abJ (eZ a1) λr2=>abJ (iL r1) λr3=>abJ (bif !r3 then(some true) else(some (!eqB r1.bp 1))) λ(v4:Bool)=>bif v4 then(some {ci with aU:=r1,eu:=r2}) else(abJ (bif leB r1.gT.eD r1.b9.em then(abJ (ol r2 r1.b9) λr14=>some ({r1 with b9:=r14.2},r14.1)) else(some (r1,r2))) λ((v12,v13):ah×aj)=>abJ (bif ltB 0 (v12.ax.aC.length:Int) then(abJ (Nf (WR (v12.dT+1)) 5) λr16=>some r16) else(some 0)) λ(v15:Int)=>bif ltB 4 v15 then(abJ (t9 {v12 with dT:=v15} v13 a2) λr17=>some {r17 with co:=[]}) else(abJ (bif ltB 0 (v12.ax.aC.length:Int) then(some (ltB 0 v12.dP)) else(some false)) λ(v18:Bool)=>abJ (bif v18 then(some (([]:List av),WR (v12.dP-1))) else(abJ (bif ltB 0 (v12.ax.aC.length:Int) then(abJ (qr {v12 with dT:=v15,dP:=3}) λr23=>some (r23,3)) else(some (([]:List av),v12.dP))) λ((v21,v22):List av×Int)=>some (v21,v22))) λ((v19,v20):List av×Int)=>abJ (Ba {v12 with dT:=v15,dP:=v20} v13) λr24=>bif da 64 (v19++r24.co).length then(some {r24 with ju:=[],co:=(v19++r24.co)}) else none))
instance xN {a0:ah} {a1:aj} {a2:aS} {r:bO}:FCV prog (rG a0 a1 a2=some r) 130 [] [.v (.agg (kM [.f,.f,.f] (c7 a0))),.v (.agg (kM [.f] (ct a1))),.v (.agg [.d false (.l (a2.bb.map eO))])] [] (.v (.agg (kM [.t,.t,.t,.t,.n 210,.t] (bB r)))) [(210,n42 r.ju)]:=⟨λH=>by
 refine fV func130 ntmps130 ?_
 refine aa H λr1 q1 H=>nA (ca (hF:=oA.h q1)) ?_
 refine aa H λr2 q2 H=>nA (ca (hF:=lA.h q2)) ?_
 refine aa H λr3 q3 H=>nA (ca (hF:=tT.h q3)) ?_
 refine aa H λv4 Hj H=>jR ⟨[(3,tP 210),(4,tP 211),(5,tP 212),(6,tP 213),(21,tB v4)],(oM [.w 214,.w 215,.w 216] 210 93 (c7 r1)++(oM [.w 217] 211 107 (ct r2)++[(212,.var 26 [.d false (.l (a2.bb.map eO))]),(213,.var 174 (kM [.z,.z,.z,.z,.z,.z] (bB ci)))])),218⟩ ?_ ?_
 .exact az Hj
 refine cC H ?_ ?_<;>intro H
 .cases H
  refine bA ((bv (o:=214))) ?_
  refine bA ((bH (k:=22))) ?_
  refine bA ((bH (k:=24))) ?_
  refine bA ((de (o:=210))) ?_
  refine bA ((de (o:=213))) ?_
  refine bA ((bv (o:=215))) ?_
  refine bA ((bH (k:=22))) ?_
  refine bA ((bH (k:=24))) ?_
  refine bA ((de (o:=210))) ?_
  refine bA ((de (o:=213))) ?_
  refine bA ((bv (o:=216))) ?_
  refine bA ((bH (k:=22))) ?_
  refine bA ((bH (k:=24))) ?_
  refine bA ((de (o:=210))) ?_
  refine bA ((de (o:=213))) ?_
  refine bA ((bv (o:=217))) ?_
  refine bA ((bH (k:=23))) ?_
  refine bA ((bH (k:=24))) ?_
  refine bA ((de (o:=211))) ?_
  refine bA ((de (o:=213))) ?_
  refine bA ((fy (o:=213) (j:=35))) ?_
  refine bA ((dE (o:=213) (j:=34) 42 11 true)) ?_
  refine bA (wS 218 210) ?_
  refine bA ((wB 210 (([]:List aF).length))) ?_
  exact bj
 obtain⟨⟨v12,v13⟩,Hj,H⟩:=ob H
 refine jA ⟨[(3,tP 210),(4,tP 211),(5,tP 212),(6,tP 213)],(oM [.w 214,.w 215,.w 216] 210 93 (c7 v12)++(oM [.w 218] 211 107 (ct v13)++[(212,.var 26 [.d false (.l (a2.bb.map eO))]),(213,.var 174 (kM [.z,.z,.z,.z,.z,.z] (bB ci)))])),219⟩ ?_ ?_
 .refine cC Hj ?_ ?_<;>intro H
  .refine aa H λr14 q14 H=>nA (ca (hF:=EN.h q14)) ?_
   exact ai H
  cases H
  refine am (uI (nx':=219) rfl) ?_
  refine am (wS 218 217) ?_
  exact wo
 refine aa H λv15 Hj H=>jA ⟨[(3,tP 210),(4,tP 211),(5,tP 212),(6,tP 213),(7,tB (ltB 0 (v12.ax.aC.length:Int)))],(oM [.w 214,.w 215,.w 216] 210 93 (c7 {v12 with dT:=v15})++(oM [.w 218] 211 107 (ct v13)++[(212,.var 26 [.d false (.l (a2.bb.map eO))]),(213,.var 174 (kM [.z,.z,.z,.z,.z,.z] (bB ci)))])),219⟩ ?_ ?_
 .refine cC Hj ?_ ?_<;>intro H
  .refine aa H λr16 q16 H=>nA (ca (hF:=Ng.h q16)) ?_
   exact ai H
  exact ai H
 refine cC H ?_ ?_<;>intro H
 .refine aa H λr17 q17 H=>bL (bv (o:=214)) ?_
  refine bL (bv (o:=215)) ?_
  refine bL (bv (o:=216)) ?_
  refine bL (bH (k:=55)) ?_
  refine bL (bv (o:=218)) ?_
  refine bL (bH (k:=56)) ?_
  refine sA (cwu [] [(210,219)] 220 (GJ.h q17)) ?_
  cases H
  refine bA ((fy (o:=213) (j:=35))) ?_
  refine bA (wS 219 210) ?_
  exact bj
 refine aa H λv18 Hj H=>jR ⟨[(3,tP 210),(4,tP 211),(6,tP 213),(7,tB (ltB 0 (v12.ax.aC.length:Int))),(8,.v (.c (.w 219 (([]:List av).length)))),(65,tB v18)],(oM [.w 214,.w 215,.w 216] 210 93 (c7 {v12 with dT:=v15})++(oM [.w 218] 211 107 (ct v13)++[(213,.var 174 (kM [.z,.z,.z,.z,.z,.z] (bB ci))),(219,w46 ([]:List av))])),220⟩ ?_ ?_
 .exact az Hj
 obtain⟨⟨v19,v20⟩,Hj,H⟩:=ob H
 refine jA ⟨[(3,tP 210),(4,tP 211),(6,tP 213),(8,.v (.c (.w 219 v19.length)))],(oM [.w 214,.w 215,.w 216] 210 93 (c7 {v12 with dT:=v15,dP:=v20})++(oM [.w 218] 211 107 (ct v13)++[(213,.var 174 (kM [.z,.z,.z,.z,.z,.z] (bB ci))),(219,w46 v19)])),220⟩ ?_ ?_
 .refine cC Hj ?_ ?_<;>intro H
  .exact ai H
  obtain⟨⟨v21,v22⟩,Hj,H⟩:=ob H
  refine jA ⟨[(3,tP 210),(4,tP 211),(6,tP 213),(8,.v (.c (.w 220 v21.length)))],(oM [.w 214,.w 215,.w 216] 210 93 (c7 {v12 with dT:=v15,dP:=v22})++(oM [.w 218] 211 107 (ct v13)++[(213,.var 174 (kM [.z,.z,.z,.z,.z,.z] (bB ci))),(220,w46 v21)])),221⟩ ?_ ?_
  .refine cC Hj ?_ ?_<;>intro H
   .refine aa H λr23 q23 H=>nA (ca (hF:=GB.h q23)) ?_
    exact ai H
   cases H
   refine am (uI (nx':=221) rfl) ?_
   refine am (wS 220 219) ?_
   exact wo
  cases H
  refine am (wS 219 220) ?_
  exact wo
 refine aa H λr24 q24 H=>bL (bv (o:=214)) ?_
 refine bL (bv (o:=215)) ?_
 refine bL (bv (o:=216)) ?_
 refine bL (bH (k:=74)) ?_
 refine bL (bv (o:=218)) ?_
 refine bL (bH (k:=75)) ?_
 refine sA (cwv [] [(210,220),(211,221),(212,222),(213,223),(214,224)] 225 (Nk.h q24)) ?_
 obtain⟨h,H⟩:=rq H
 refine sA (apT (enc:=cN) (ys:=v19) (zs:=r24.co) h) ?_
 cases H
 refine bA ((bv (o:=220))) ?_
 refine bA ((bH (k:=76))) ?_
 refine bA ((bH (k:=82))) ?_
 refine bA ((de (o:=213))) ?_
 refine bA ((de (o:=225))) ?_
 refine bA ((bv (o:=221))) ?_
 refine bA ((bH (k:=76))) ?_
 refine bA ((bH (k:=82))) ?_
 refine bA ((de (o:=213))) ?_
 refine bA ((de (o:=225))) ?_
 refine bA ((bv (o:=222))) ?_
 refine bA ((bH (k:=76))) ?_
 refine bA ((bH (k:=82))) ?_
 refine bA ((de (o:=213))) ?_
 refine bA ((de (o:=225))) ?_
 refine bA ((bv (o:=223))) ?_
 refine bA ((bH (k:=76))) ?_
 refine bA ((bH (k:=82))) ?_
 refine bA ((de (o:=213))) ?_
 refine bA ((de (o:=225))) ?_
 refine bA ((bv (o:=219))) ?_
 refine bA ((bH (k:=80))) ?_
 refine bA ((bH (k:=82))) ?_
 refine bA ((de (o:=213))) ?_
 refine bA ((de (o:=225))) ?_
 refine bA ((dE (o:=213) (j:=34) 42 11 true)) ?_
 refine bA (wS 226 210) ?_
 refine bA ((wB 210 (([]:List aF).length))) ?_
 exact bj⟩
def ma (a0:ah) (a1:aF):Option bN:=
 abJ (bif leB a0.bI 0 then(some true) else(bif !eqB a1.ag a0.bI then(some true) else(abJ (pt a0.aK a1.bV) λr2=>bif !r2 then(some true) else(some (leB 999999 a0.aV))))) λ(v1:Bool)=>bif v1 then(abJ (dK a0 []) λr3=>some r3) else(abJ (mK (⟨a0.bF,a0.gT,1,cp,0,a0.bI,a0.aK.eX,WR (a0.aV+1),a1.bh,0,et,a0.aH,a0.ax,a0.dP,a0.b9⟩:ah) 4) λr4=>abJ (dK (⟨a0.bF,a0.gT,1,cp,0,a0.bI,a0.aK.eX,WR (a0.aV+1),a1.bh,0,et,a0.aH,a0.ax,a0.dP,a0.b9⟩:ah) [r4]) λr5=>some r5)
instance Ni {a0:ah} {a1:aF} {r:bN}:FC prog (ma a0 a1=some r) 309 [.agg (bS a0),.agg (cU a1)] [.agg (qM [.o,.o,.o,.o] (ef r))]:=gF func309 ntmps309 (hb 8 27) (hz 12)
def jY (a0:ah) (a1:aF):Option bN:=
 abJ (bif !eqB a0.bp 1 then(some true) else(bif !eqB a1.ag a0.ag then(some true) else(abJ (gv a0.aZ a1) λr2=>some (!r2)))) λ(v1:Bool)=>bif v1 then(abJ (dK a0 []) λr3=>some r3) else(abJ (bif ltB a1.aV a0.aV then(some true) else(bif eqB a1.aV a0.aV then(some (!eqB a1.bh a0.bh)) else(some false))) λ(v4:Bool)=>bif v4 then(abJ (dK a0 []) λr5=>some r5) else(abJ (mK {a0 with aV:=a1.aV,bh:=a1.bh,dT:=0,ga:=et,dP:=0} 6) λr6=>abJ (dK {a0 with aV:=a1.aV,bh:=a1.bh,dT:=0,ga:=et,dP:=0} [r6]) λr7=>some r7))
instance K4 {a0:ah} {a1:aF} {r:bN}:FC prog (jY a0 a1=some r) 310 [.agg (bS a0),.agg (cU a1)] [.agg (qM [.o,.o,.o,.o] (ef r))]:=gF func310 ntmps310 (hb 8 21) (hb 29 42) (hz 10)
def sQ (a0:Int) (a1:Int) (a2:Int) (a3:av):Option (ae×Bool):=
 abJ (bif !eqB a3.ag a1 then(some true) else(bif !eqB a3.aV a2 then(some true) else(abJ (ov a0 a3) λr2=>some (!r2)))) λ(v1:Bool)=>bif v1 then(some (bT,false)) else(abJ (sh a0 a2) λr3=>abJ (wj r3 a3.bz) λr4=>some ((⟨a3.bz.fQ,r4⟩:ae),true))
theorem GA {a0:Int} {a1:Int} {a2:Int} {a3:av} {r:ae×Bool} (H:sQ a0 a1 a2 a3=some r) (hflag:r.2=true):Fn prog 44 [aI a0,aI a1,aI a2,.agg (cN a3)] [.agg (qM [.o] (dq r.1)),.c (.d (.b r.2))]:=by
 refine fI func44 ntmps44 ?_
 refine aa H λv1 Hj H=>jR ⟨[(0,tI a0),(2,tI a2),(7,tP 0),(8,tP 1),(26,tB v1)],[(0,.var 46 (kM [.f] (jf a3))),(1,.var 100 (kM [.z] (dq bT)))],2⟩ ?_ ?_
 .refine gC Hj ?_ ?_<;>intro H
  .exact ai H
  refine gC H ?_ ?_<;>intro H
  .exact ai H
  refine aa H λr2 q2 H=>nG (ca (hF:=xO.h q2)) ?_
  exact ai H
 refine cC H ?_ ?_<;>intro H
 .cases H
  cases hflag
 refine dI ?_
 refine aa H λr3 q3 H=>dA (ca (hF:=CR.h q3)) ?_
 refine aa H λr4 q4 H=>dA (ca (hF:=xY.h q4)) ?_
 refine wI ?_
 exact ao H
theorem Gz {a0:Int} {a1:Int} {a2:Int} {a3:av} {r:ae×Bool} (H:sQ a0 a1 a2 a3=some r) (hflag:r.2=false):Fn prog 44 [aI a0,aI a1,aI a2,.agg (cN a3)] [.agg (qM [.z] (dq r.1)),.c (.d (.b r.2))]:=by
 refine fI func44 ntmps44 ?_
 refine aa H λv1 Hj H=>jR ⟨[(0,tI a0),(2,tI a2),(7,tP 0),(8,tP 1),(26,tB v1)],[(0,.var 46 (kM [.f] (jf a3))),(1,.var 100 (kM [.z] (dq bT)))],2⟩ ?_ ?_
 .refine gC Hj ?_ ?_<;>intro H
  .exact ai H
  refine gC H ?_ ?_<;>intro H
  .exact ai H
  refine aa H λr2 q2 H=>nG (ca (hF:=xO.h q2)) ?_
  exact ai H
 refine cC H ?_ ?_<;>intro H
 .exact ao H
 refine dI ?_
 refine aa H λr3 q3 H=>dA (ca (hF:=CR.h q3)) ?_
 refine aa H λr4 q4 H=>dA (ca (hF:=xY.h q4)) ?_
 refine wI ?_
 cases H
 cases hflag
def px (a0:aG) (a1:bM):Option Bool:=
 abJ (bif a1.eG then(some true) else(bif ltB a1.co.ag a0.ag then(some true) else(bif eqB a1.co.ag a0.ag then(abJ (ov a0.aZ a1.co) λr2=>some (!r2)) else(some false)))) λ(v1:Bool)=>some v1
instance Ak {a0:aG} {a1:bM} {r:Bool}:FC prog (px a0 a1=some r) 60 [.agg (cF a0),.agg (dB a1)] [.c (.d (.b r))]:=gF func60 ntmps60 (hb 11 4)
def lb (a0:ah) (a1:aF):Option Bool:=
 bif eqB a1.a8 3 then(abJ (bif eqB a1.ag a0.bI then(some (eqB a1.bV a0.aK.w8)) else(some false)) λ(v1:Bool)=>abJ (bif leB a1.ag a0.bF.cW then(some (!v1)) else(some false)) λ(v2:Bool)=>some v2) else(abJ (bif eqB a1.a8 5 then(some (eqB a1.a8 5)) else(some (eqB a1.a8 8))) λ(v3:Bool)=>bif v3 then(abJ (bif ltB a1.ag a0.ag then(some true) else(bif eqB a1.ag a0.ag then(abJ (gv a0.aZ a1) λr5=>some (!r5)) else(some false))) λ(v4:Bool)=>some v4) else(some true))
instance zt {a0:ah} {a1:aF} {r:Bool}:FC prog (lb a0 a1=some r) 61 [.agg (bS a0),.agg (cU a1)] [.c (.d (.b r))]:=gF func61 ntmps61 (hb 15 5) (hb 29 4) (hc 33 33) (hb 41 4)
def jo (a0:aG) (a1:aF):Option Bool:=
 bif eqB a1.a8 2 then(abJ (mF a0.dr.eX a0.dr.di a1.cd) λr1=>abJ (bif eqB r1 1 then(some true) else(some (eqB r1 2))) λ(v2:Bool)=>some v2) else(abJ (bif eqB a1.a8 4 then(some (eqB a1.a8 4)) else(some (eqB a1.a8 6))) λ(v3:Bool)=>bif v3 then(abJ (bif ltB a1.ag a0.ag then(some true) else(bif eqB a1.ag a0.ag then(abJ (gv a0.aZ a1) λr5=>some (!r5)) else(some false))) λ(v4:Bool)=>some v4) else(some true))
instance xp {a0:aG} {a1:aF} {r:Bool}:FC prog (jo a0 a1=some r) 62 [.agg (cF a0),.agg (cU a1)] [.c (.d (.b r))]:=gF func62 ntmps62 (hb 21 4) (hc 25 25) (hb 33 4)
end Go.AM
