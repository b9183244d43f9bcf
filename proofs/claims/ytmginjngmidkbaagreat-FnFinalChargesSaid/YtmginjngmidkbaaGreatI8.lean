/- A part. -/
import Derived.Test.YtmginjngmidkbaaGreatI7
set_option linter.unusedVariables false
open Option renaming bind->abU
open List renaming range->f4
namespace Go.AM
open Go.Proofs
open Tryz
attribute [local irreducible] AWN NS AWO AWR AWC DR DZ dS gp iter
set_option maxRecDepth 100000
set_option maxHeartbeats 40000000
def xR (a0:ab) (a1:Int):Option ab:=
 abU (qz a0 a1) λr1=>abU (vg r1.2 r1.1.bg) λr2=>abU (bif !r2 then(some {r1.2 with ki:=WR (r1.2.ki+1)}) else(abU (bif r1.1.eW then(bif r1.1.ef then(some true) else(some (!eqB r1.1.bA.bg r1.1.bg))) else(some false)) λ(v14:Bool)=>abU (bif v14 then(some r1.2) else(abU (bif r1.1.eW then(abU (ix r1.2.aF r1.1.bm) λx37=>abU (oE x37 r1.1.bA) λr38=>abU (ix r1.2.aF r1.1.bm) λx39=>abU (kV {r1.2 with aF:=(r1.2.aF.set (r1.1.bm).toNat r38.aU)} r1.1.bm r38.dE) λr40=>some r40) else(abU (ix r1.2.av r1.1.bm) λx41=>abU (bif !eqB x41.bg r1.1.bg then(some {r1.2 with ki:=WR (r1.2.ki+1)}) else(abU (bif r1.1.ef then(abU (ix r1.2.av r1.1.bm) λx64=>abU (p6 x64 r1.1.cA) λr65=>abU (gM r1.2 r1.1.bm r65) λr66=>some r66) else(abU (ix r1.2.av r1.1.bm) λx67=>abU (oD x67 r1.1.bA) λr68=>abU (gM r1.2 r1.1.bm r68) λr69=>some r69)) λ(v63:ab)=>some v63)) λ(v52:ab)=>some v52)) λ(v36:ab)=>some v36)) λ(v25:ab)=>some v25)) λ(v13:ab)=>some v13
theorem ND {a0:ab} {a1:Int} {r:ab} (H:xR a0 a1=some r):FnV prog 90 (nI a0) [tP 200,tI a1] (nI r) (.tup []) []:=by
 refine fV func90 ntmps90 ?_
 refine aa H λr1 q1 H=>sA (cwu m0 [] 210 (GU q1)) ?_
 refine dI ?_
 refine aa H λr2 q2 H=>dA (ca (hF:=Lr.h q2)) ?_
 refine wI ?_
 refine aa H λv13 Hj H=>jA ⟨[],(nI v13),210⟩ ?_ ?_
 .refine cC Hj ?_ ?_<;>intro H
  .exact ai H
  refine aa H λv14 Hj H=>jR ⟨[(0,tP 200),(4,tP 210),(5,tI r1.1.bm),(40,tB v14)],(nI r1.2++[(210,.var 49 (kM [.t] (mN r1.1)))]),211⟩ ?_ ?_
  .exact az Hj
  refine aa H λv25 Hj H=>jA ⟨[],(nI v25),210⟩ ?_ ?_
  .refine cC Hj ?_ ?_<;>intro H
   .exact ai H
   refine aa H λv36 Hj H=>jA ⟨[],(nI v36),210⟩ ?_ ?_
   .refine cC Hj ?_ ?_<;>intro H
    .refine zI (f4 12) ?_
     refine aa H λx37 hx37 H=>zA (xwT hx37) ?_
     refine zA (oea (he:=ez _ hx37)) ?_
     refine aa H λr38 q38 H=>zA (ca (hF:=Ck.h q38)) ?_
     refine wA (spx 100544) ?_
     refine zI (f4 9) ?_
     refine aa H λx39 hx39 H=>zA (xwT hx39) ?_
     refine zB (an (aV (o:=211)) (an (aV (o:=212)) (an (aV (o:=213)) (bN (k:=74))))) (fQ rfl (soT (enc:=bZ) (a':=r38.aU) hx39)) bK ?_
     refine aa H λr40 q40 H=>bG (aV (o:=214)) ?_
     refine bG (bN (k:=79)) ?_
     refine bG (wB 191 ((r1.2.aF.set (r1.1.bm).toNat r38.aU).length)) ?_
     refine sA (cwu m0 [] 216 (xf q40)) ?_
     exact ai H
    refine dI ?_
    refine aa H λx41 hx41 H=>dA (xwT hx41) ?_
    refine dA (oe (he:=ez _ hx41)) ?_
    refine wI ?_
    refine aa H λv52 Hj H=>jA ⟨[],(nI v52),210⟩ ?_ ?_
    .refine cC Hj ?_ ?_<;>intro H
     .exact ai H
     refine aa H λv63 Hj H=>jA ⟨[],(nI v63),210⟩ ?_ ?_
     .refine cC Hj ?_ ?_<;>intro H
      .refine zI (f4 13) ?_
       refine aa H λx64 hx64 H=>zA (xwT hx64) ?_
       refine zA (oea (he:=ez _ hx64)) ?_
       refine aa H λr65 q65 H=>zA (ca (hF:=Dp.h q65)) ?_
       refine aa H λr66 q66 H=>zB (an (aV (o:=211)) (an (aV (o:=212)) (an (aV (o:=213)) (bN (k:=114))))) (fQ rfl (cwu m0 [] 214 (sV q66))) bK ?_
       exact ai H
      refine zI (f4 13) ?_
      refine aa H λx67 hx67 H=>zA (xwT hx67) ?_
      refine zA (oea (he:=ez _ hx67)) ?_
      refine aa H λr68 q68 H=>zA (ca (hF:=Cj.h q68)) ?_
      refine aa H λr69 q69 H=>zB (an (aV (o:=211)) (an (aV (o:=212)) (an (aV (o:=213)) (bN (k:=23))))) (fQ rfl (cwu m0 [] 214 (sV q69))) bK ?_
      exact ai H
     exact ai H
    exact ai H
   exact ai H
  exact ai H
 cases H
 exact mO
def jT (a1:Int):(Int×ab)->Option (ct (Int×ab) (ab))
 |(v1,v12)=>abU (bif ltB v1 a1 then(some (ltB 0 (v12.aT.length:Int))) else(some false)) λ(v26:Bool)=>bif v26 then(abU (xR v12 0) λr27=>some (.next (WR (v1+1),r27))) else(some (.done v12))
def qa (a0:ab) (a1:Int):Option ab:=
 abU (iter (jT a1) FU (0,a0)) λ(v25:ab)=>some v25
theorem Dw {a0:ab} {a1:Int} {r:ab} (H:qa a0 a1=some r):FnV prog 37 (nI a0) [tP 200,tI a1] (nI r) (.tup []) []:=by
 refine fV func37 ntmps37 ?_
 refine aa H λv25 Hj H=>jB ⟨[],(nI v25),210⟩ ?_ ?_
 .refine iT Hj (λq=>⟨[(0,tP 200),(1,tI a1),(4,tI q.1)],(nI q.2),210⟩) ?_
  rintro⟨v1,v12⟩ o H
  refine ad ?_
  refine aa H λv26 Hj H=>jR ⟨[(0,tP 200),(1,tI a1),(4,tI v1),(15,tB v26)],(nI v12),210⟩ ?_ ?_
  .exact az Hj
  refine cC H ?_ ?_<;>intro H
  .refine aa H λr27 q27 H=>sA (cwu m0 [] 210 (ND q27)) ?_
   exact aN H
  exact aE H
 cases H
 exact mO
def Bj (a0:ab):(Int×ab)->Option (ct (Int×ab) (ab))
 |(v1,v12)=>bif ltB v1 (a0.av.length:Int) then(abU (ix v12.av v1) λx27=>abU (tW x27) λr28=>abU (gM v12 v1 r28) λr29=>some (.next (WR (v1+1),r29))) else(some (.done v12))
def vi (v30:Int) (v159:bM):(Int×ab)->Option (ct (Int×ab) (ab))
 |(v166,v177)=>bif ltB v166 (v159.cA.length:Int) then(abU (ix v159.cA v166) λx191=>abU (qy v177 (⟨v30,false,true,v159.aU.bg,dQ,x191⟩:bS)) λr192=>some (.next (WR (v166+1),r192))) else(some (.done v177))
def Bk (v26:ab):(Int×ab)->Option (ct (Int×ab) (ab))
 |(v30,v41)=>bif ltB v30 (v26.aF.length:Int) then(abU (abU (ix v41.aF v30) λx160=>abU (ix v41.bk v30) λx161=>abU (rA x160 x161 v41.ei) λr162=>some r162) λ(v159:bM)=>abU (ix v41.aF v30) λx163=>abU (ix v41.bk v30) λx164=>abU (kV {v41 with aF:=(v41.aF.set (v30).toNat v159.aU),bk:=(v41.bk.set (v30).toNat v159.d8)} v30 v159.ja) λr165=>abU (iter (vi v30 v159) FU (0,r165)) λ(v190:ab)=>some (.next (WR (v30+1),v190))) else(some (.done v41))
def LB (a0:ab):Option (Bool×ab):=
 bif leB 100000 a0.qO then(some (false,a0)) else(abU (iter (Bj a0) FU (0,{a0 with qO:=WR (a0.qO+1)})) λ(v26:ab)=>abU (iter (Bk v26) FU (0,v26)) λ(v122:ab)=>some (true,v122))
theorem Xz {a0:ab} {r:Bool×ab} (H:LB a0=some r):FnV prog 91 (nI a0) [tP 200] (nI r.2) (.v (.c (.d false (.b r.1)))) []:=by
 refine fV func91 ntmps91 ?_
 refine cC H ?_ ?_<;>intro H
 .cases H
  exact cg
 refine aa H λv26 Hj H=>jB ⟨[(0,tP 200)],(nI v26),210⟩ ?_ ?_
 .refine iT Hj (λq=>⟨[(0,tP 200),(24,tI (a0.av.length:Int)),(25,tI q.1)],(nI q.2),210⟩) ?_
  rintro⟨v1,v12⟩ o H
  refine ad ?_
  refine cC H ?_ ?_<;>intro H
  .refine aa H λx27 hx27 H=>nA (xwT hx27) ?_
   refine nA (oea (he:=ez _ hx27)) ?_
   refine aa H λr28 q28 H=>nA (ca (hF:=GP.h q28)) ?_
   refine aa H λr29 q29 H=>bG (aV (o:=210)) ?_
   refine bG (aV (o:=211)) ?_
   refine bG (aV (o:=212)) ?_
   refine bG (bN (k:=37)) ?_
   refine sA (cwu m0 [] 213 (sV q29)) ?_
   exact aN H
  exact aE H
 refine aa H λv122 Hj H=>jB ⟨[],(nI v122),210⟩ ?_ ?_
 .refine iT Hj (λq=>⟨[(0,tP 200),(44,tI (v26.aF.length:Int)),(45,tI q.1)],(nI q.2),210⟩) ?_
  rintro⟨v30,v41⟩ o H
  refine ad ?_
  refine cC H ?_ ?_<;>intro H
  .refine wI ?_
   refine aa H λv159 Hj H=>OP ⟨[(0,tP 200),(4,tI v30),(5,tP 210),(44,tI (v26.aF.length:Int)),(45,tI v30)],(nI v41++(oM [.t,.t,.t,.t,.n 211,.t] 210 195 (bD v159))),212⟩ Try.follows ?_ ?_
   .have H:=Hj
    refine Ht 18 19 rfl ?_ ?_
    .refine IQ [0,1,2,3,4,5,6,7,8,9,10,11,12,13,14,15,16,17,19,18,20] (by kernel_rfl) (by kernel_rfl) rfl ?_
     refine wI ?_
     refine aa H λx160 hx160 H=>zA (xwT hx160) ?_
     refine zA (oea (he:=ez _ hx160)) ?_
     refine aa H λx161 hx161 H=>zA (xwT hx161) ?_
     refine zA (oea (he:=ez _ hx161)) ?_
     refine aa H λr162 q162 H=>zB bK (fQ rfl (cwv [] [(210,211)] 212 (xO q162))) bK ?_
     refine wA (spx 100657) ?_
     exact ai H
    refine IQ [0,1,2,3,4,5,6,7,8,9,10,11,12,13,14,15,16,17,18,19,20] (by kernel_rfl) (by kernel_rfl) rfl ?_
    refine wI ?_
    refine aa H λx160 hx160 H=>zA (xwT hx160) ?_
    refine zA (oea (he:=ez _ hx160)) ?_
    refine aa H λx161 hx161 H=>zA (xwT hx161) ?_
    refine zA (oea (he:=ez _ hx161)) ?_
    refine aa H λr162 q162 H=>zB bK (fQ rfl (cwv [] [(210,210)] 211 (xO q162))) bK ?_
    refine wA (spx 100658) ?_
    cases H
    refine an (wS 210 211) ?_
    exact wo
   refine wI ?_
   refine zI (f4 9) ?_
   refine aa H λx163 hx163 H=>zA (xwT hx163) ?_
   refine zB bK (fQ rfl (soT (enc:=bZ) (a':=v159.aU) hx163)) bK ?_
   refine zI (f4 9) ?_
   refine aa H λx164 hx164 H=>zA (xwT hx164) ?_
   refine zB bK (fQ rfl (soT (enc:=cT) (a':=v159.d8) hx164)) bK ?_
   refine aa H λr165 q165 H=>bG (fG 211) ?_
   refine bG (wB 191 ((v41.aF.set (v30).toNat v159.aU).length)) ?_
   refine bG (wB 192 ((v41.bk.set (v30).toNat v159.d8).length)) ?_
   refine sA (cwu m0 [] 212 (xf q165)) ?_
   refine aa H λv190 Hj H=>jB ⟨[(0,tP 200),(44,tI (v26.aF.length:Int)),(45,tI v30)],(nI v190),210⟩ ?_ ?_
   .refine iT Hj (λq=>⟨[(0,tP 200),(4,tI v30),(5,tP 210),(44,tI (v26.aF.length:Int)),(45,tI v30),(89,.v (.c (.d true (.l (v159.cA.map db))))),(90,tI (v159.cA.length:Int)),(91,tI q.1)],(nI q.2++[(210,.var 195 (kM [.t,.t,.t,.t,.t,.t] (bD v159)))]),211⟩) ?_
    rintro⟨v166,v177⟩ o H
    refine ad ?_
    refine cC H ?_ ?_<;>intro H
    .refine aa H λx191 hx191 H=>nA (xdT (enc:=db) hx191) ?_
     refine aa H λr192 q192 H=>sA (cwu m0 [] 212 (Jv q192)) ?_
     exact aN H
    exact aE H
   exact aN H
  exact aE H
 cases H
 exact cg
def sS (a0:ab) (a1:dN):Option (Bool×ab):=
 abU (cf a1.cB 0 (WR ((a0.aT.length:Int)-1))) λr1=>bif !r1 then(some (false,a0)) else(bif eqB a1.bh 2 then(abU (xR a0 a1.cB) λr2=>some (true,r2)) else(bif eqB a1.bh 3 then(abU (qz a0 a1.cB) λr3=>some (true,{r3.2 with ki:=WR (r3.2.ki+1)})) else(bif eqB a1.bh 4 then(bif leB 200 (a0.aT.length:Int) then(some (false,a0)) else(abU (ix a0.aT a1.cB) λx4=>abU (qy a0 x4) λr5=>some (true,r5))) else(some (true,a0)))))
def Bb (a0:aJ):Option aY:=
 bif !eqB a0.bi 0 then(abU (cV a0 []) λr1=>some r1) else(abU (mS {a0 with bi:=1,fA:=3}) λr2=>abU (cV {a0 with bi:=1,fA:=3} [r2]) λr3=>some r3)
instance ZL {a0:aJ} {r:aY}:FC prog (Bb a0=some r) 152 [.agg (c9 a0)] [.agg (qM [.o,.o,.o] (cd r))]:=gF func152 ntmps152 (hz 5)
def tT (a0:aJ) (a1:Int):Option aY:=
 abU (bif eqB a1 a0.bg then(some true) else(abU (cf a1 0 5) λr2=>some (!r2))) λ(v1:Bool)=>bif v1 then(abU (cV a0 []) λr3=>some r3) else(abU (bif !eqB a0.bi 2 then(some true) else(some (leB 999999 a0.aX))) λ(v4:Bool)=>bif v4 then(abU (cV {a0 with bg:=a1} []) λr5=>some r5) else(abU (iz {a0 with bg:=a1,aX:=WR (a0.aX+1)}) λr6=>some r6))
instance Wy {a0:aJ} {a1:Int} {r:aY}:FC prog (tT a0 a1=some r) 153 [.agg (c9 a0),aI a1] [.agg (qM [.o,.o,.o] (cd r))]:=gF func153 ntmps153 (hb 9 13) (hb 21 25)
def nJ (a0:ab) (a1:dN):Option (Bool×ab):=
 abU (cf a1.cB 0 (WR ((a0.av.length:Int)-1))) λr1=>bif !r1 then(some (false,a0)) else(bif eqB a1.bh 5 then(abU (ix a0.av a1.cB) λx2=>bif !eqB x2.bi 0 then(some (false,a0)) else(abU (ix a0.av a1.cB) λx3=>abU (Bb x3) λr4=>abU (gM a0 a1.cB r4) λr5=>some (true,r5))) else(bif eqB a1.bh 6 then(abU (lr a0.ei a1.bg) λr6=>abU (bif !r6 then(some true) else(abU (ix a0.av a1.cB) λx8=>some (eqB a1.bg x8.bg))) λ(v7:Bool)=>bif v7 then(some (false,a0)) else(abU (ix a0.av a1.cB) λx9=>abU (tT x9 a1.bg) λr10=>abU (gM a0 a1.cB r10) λr11=>some (true,r11))) else(bif eqB a1.bh 7 then(abU (ix a0.av a1.cB) λx12=>bif !eqB x12.bi 2 then(some (false,a0)) else(abU (ix a0.av a1.cB) λx13=>abU (wd x13) λr14=>abU (ix a0.av a1.cB) λx15=>some (true,{a0 with av:=(a0.av.set (a1.cB).toNat r14)}))) else(bif eqB a1.bh 8 then(abU (ix a0.aF a1.cB) λx16=>abU (p8 x16 a1.bb) λr17=>bif !r17.2 then(some (false,a0)) else(abU (ix a0.aF a1.cB) λx18=>some (true,{a0 with aF:=(a0.aF.set (a1.cB).toNat r17.1)}))) else(some (true,a0))))))
def wh (a0:ab) (a1:dN):Option (Bool×ab):=
 abU (lr a0.ei a1.cB) λr1=>abU (bif !r1 then(some true) else(abU (vg a0 a1.cB) λr3=>some (booB r3 (eqB a1.bh 10)))) λ(v2:Bool)=>bif v2 then(some (false,a0)) else(bif leB 0 a1.cB then(some (true,{a0 with dy:=IU .i64 a0.dy (md .i64 1 a1.cB)})) else none)
def qq (a0:bH) (a1:Int):Option Bool:=
 abU (kn a0) λr1=>abU (bif r1 then(abU (cf a1 0 (WR (a0.fx-1))) λr3=>bif r3 then(bif leB 0 a1 then(some (eqB (zY .i64 (En .i64 a0.fB a1) 1) 1)) else none) else(some false)) else(some false)) λ(v2:Bool)=>some v2
instance Wv {a0:bH} {a1:Int} {r:Bool}:FC prog (qq a0 a1=some r) 156 [.agg (je a0),aI a1] [.c (.d (.b r))]:=gF func156 ntmps156 (hb 7 4)
end Go.AM
