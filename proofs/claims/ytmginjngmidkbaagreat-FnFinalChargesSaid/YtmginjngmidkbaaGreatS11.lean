/- A part. -/
import Derived.Test.YtmginjngmidkbaaGreatS10
set_option linter.unusedVariables false
open Option renaming bind->abU
open List renaming range->f4
namespace Go.AM
open Go.Proofs
open Tryz
attribute [local irreducible] AWN NS AWO AWR AWC DR DZ dS gp iter
set_option maxRecDepth 100000
set_option maxHeartbeats 40000000
def uA (a0:ab) (a1:Int):Option ab:=
 abU (yD a0 a1) λr1=>abU (vz r1.2 r1.1.bg) λr2=>abU (bif !r2 then(some {r1.2 with ki:=WR (r1.2.ki+1)}) else(abU (bif r1.1.eW then(bif !r1.1.ef then(some (eqB r1.1.bA.bg r1.1.bg)) else(some false)) else(some false)) λ(v14:Bool)=>abU (bif v14 then(abU (ix r1.2.aF r1.1.bm) λx26=>abU (o9 x26 r1.1.bA) λr27=>abU (ix r1.2.aF r1.1.bm) λx28=>abU (ma {r1.2 with aF:=(r1.2.aF.set (r1.1.bm).toNat r27.aU)} r1.1.bm false r27.dE) λr29=>some r29) else(abU (bif r1.1.eW then(some r1.2) else(abU (ix r1.2.av r1.1.bm) λx41=>abU (bif !eqB x41.bg r1.1.bg then(some {r1.2 with ki:=WR (r1.2.ki+1)}) else(abU (bif r1.1.ef then(abU (ix r1.2.av r1.1.bm) λx64=>abU (qf x64 r1.1.cA) λr65=>abU (jx r1.2 r1.1.bm r65) λr66=>some r66) else(abU (ix r1.2.av r1.1.bm) λx67=>abU (o8 x67 r1.1.bA) λr68=>abU (jx r1.2 r1.1.bm r68) λr69=>some r69)) λ(v63:ab)=>some v63)) λ(v52:ab)=>some v52)) λ(v40:ab)=>some v40)) λ(v25:ab)=>some v25)) λ(v13:ab)=>some v13
theorem Hl {a0:ab} {a1:Int} {r:ab} (H:uA a0 a1=some r):FnV prog 267 (nS a0) [tP 200,tI a1] (nS r) (.tup []) []:=by
 refine fV func267 ntmps267 ?_
 refine aa H λr1 q1 H=>sA (cwu m0 [] 210 (Gu q1)) ?_
 refine dI ?_
 refine aa H λr2 q2 H=>dA (ca (hF:=C9.h q2)) ?_
 refine wI ?_
 refine aa H λv13 Hj H=>jA ⟨[],(nS v13),210⟩ ?_ ?_
 .refine cC Hj ?_ ?_<;>intro H
  .exact ai H
  refine aa H λv14 Hj H=>jR ⟨[(0,tP 200),(4,tP 210),(5,tI r1.1.bm),(41,tB v14)],(nS r1.2++[(210,.var 49 (kM [.t] (mN r1.1)))]),211⟩ ?_ ?_
  .exact az Hj
  refine aa H λv25 Hj H=>jA ⟨[],(nS v25),210⟩ ?_ ?_
  .refine cC Hj ?_ ?_<;>intro H
   .refine zI (f4 12) ?_
    refine aa H λx26 hx26 H=>zA (qN hx26) ?_
    refine zA (JR (he:=ez _ hx26)) ?_
    refine aa H λr27 q27 H=>zA (ca (hF:=CC.h q27)) ?_
    refine wA (spx 100472) ?_
    refine zI (f4 9) ?_
    refine aa H λx28 hx28 H=>zA (qN hx28) ?_
    refine zB (mc 191 (hne:=xW (enc:=bZ) hx28)) (fQ rfl (soT (enc:=bZ) (a':=r27.aU) hx28)) bK ?_
    refine aa H λr29 q29 H=>bG (aV (o:=211)) ?_
    refine bG (bN (k:=78)) ?_
    refine bG (ec 191) ?_
    refine bG (wB 191 ((r1.2.aF.set (r1.1.bm).toNat r27.aU).length)) ?_
    refine sA (cwu m0 [] 213 (uV q29)) ?_
    exact ai H
   refine aa H λv40 Hj H=>jA ⟨[],(nS v40),210⟩ ?_ ?_
   .refine cC Hj ?_ ?_<;>intro H
    .exact ai H
    refine dI ?_
    refine aa H λx41 hx41 H=>dA (qN hx41) ?_
    refine dA (oen (he:=ez _ hx41)) ?_
    refine wI ?_
    refine aa H λv52 Hj H=>jA ⟨[],(nS v52),210⟩ ?_ ?_
    .refine cC Hj ?_ ?_<;>intro H
     .exact ai H
     refine aa H λv63 Hj H=>jA ⟨[],(nS v63),210⟩ ?_ ?_
     .refine cC Hj ?_ ?_<;>intro H
      .refine zI (f4 13) ?_
       refine aa H λx64 hx64 H=>zA (qN hx64) ?_
       refine zA (JR (he:=ez _ hx64)) ?_
       refine aa H λr65 q65 H=>zA (ca (hF:=DB.h q65)) ?_
       refine aa H λr66 q66 H=>zB (an (aV (o:=211)) (an (aV (o:=212)) (bN (k:=117)))) (fQ rfl (cwu m0 [] 213 (pu q66))) bK ?_
       exact ai H
      refine zI (f4 13) ?_
      refine aa H λx67 hx67 H=>zA (qN hx67) ?_
      refine zA (JR (he:=ez _ hx67)) ?_
      refine aa H λr68 q68 H=>zA (ca (hF:=CB.h q68)) ?_
      refine aa H λr69 q69 H=>zB (an (aV (o:=211)) (bN (k:=23))) (fQ rfl (cwu m0 [] 212 (pu q69))) bK ?_
      exact ai H
     exact ai H
    exact ai H
   exact ai H
  exact ai H
 cases H
 exact mO
def wV (a0:ab) (a1:dN):Option (Bool×ab):=
 abU (du a1.cB 0 (WR ((a0.aT.length:Int)-1))) λr1=>bif !r1 then(some (false,a0)) else(bif eqB a1.bh 2 then(abU (uA a0 a1.cB) λr2=>some (true,r2)) else(bif eqB a1.bh 3 then(abU (yD a0 a1.cB) λr3=>some (true,{r3.2 with ki:=WR (r3.2.ki+1)})) else(bif leB 200 (a0.aT.length:Int) then(some (false,a0)) else(abU (ix a0.aT a1.cB) λx4=>abU (gq a0 x4) λr5=>some (true,r5)))))
theorem Kl {a0:ab} {a1:dN} {r:Bool×ab} (H:wV a0 a1=some r):FnV prog 192 (nS a0) [tP 200,.v (.agg (kM [.t,.t] (f8 a1)))] (nS r.2) (.v (.c (.d false (.b r.1)))) []:=by
 refine fV func192 ntmps192 ?_
 refine dI ?_
 refine aa H λr1 q1 H=>dA (ca (hF:=nC.h q1)) ?_
 refine wI ?_
 refine cC H ?_ ?_<;>intro H
 .cases H
  exact cg
 refine cC H ?_ ?_<;>intro H
 .refine aa H λr2 q2 H=>sA (cwu m0 [] 211 (Hl q2)) ?_
  cases H
  exact cg
 refine cC H ?_ ?_<;>intro H
 .refine aa H λr3 q3 H=>sA (cwu m0 [] 211 (Gu q3)) ?_
  cases H
  exact cg
 refine cC H ?_ ?_<;>intro H
 .cases H
  exact cg
 refine zI (f4 10) ?_
 refine aa H λx4 hx4 H=>zA (qN hx4) ?_
 refine zA (JR (he:=ez _ hx4)) ?_
 refine aa H λr5 q5 H=>zB bK (fQ rfl (cwu m0 [] 211 (tp q5))) bK ?_
 cases H
 exact cg
def D2 (a0:ab) (a1:dN):Option (Bool×ab):=
 abU (du a1.cB 0 (WR ((a0.av.length:Int)-1))) λr1=>bif !r1 then(some (false,a0)) else(abU (ix a0.av a1.cB) λx2=>bif eqB a1.bh 5 then(bif !eqB x2.bi 0 then(some (false,a0)) else(abU (yp x2) λr3=>abU (jx a0 a1.cB r3) λr4=>some (true,r4))) else(bif eqB a1.bh 6 then(abU (bif eqB a1.bg x2.bg then(some true) else(abU (du a1.bg 0 (WR ((a0.ei.a8.length:Int)-1))) λr6=>some (!r6))) λ(v5:Bool)=>bif v5 then(some (false,a0)) else(abU (uf x2 a1.bg) λr7=>abU (jx a0 a1.cB r7) λr8=>some (true,r8))) else(bif eqB a1.bh 7 then(bif !eqB x2.bi 2 then(some (false,a0)) else(abU (wy x2) λr9=>abU (ix a0.av a1.cB) λx10=>some (true,{a0 with av:=(a0.av.set (a1.cB).toNat r9)}))) else(abU (ix a0.aF a1.cB) λx11=>abU (na x11 a1.bb) λr12=>abU (ix a0.aF a1.cB) λx13=>some (r12.2,{a0 with aF:=(a0.aF.set (a1.cB).toNat r12.1)})))))
theorem Si {a0:ab} {a1:dN} {r:Bool×ab} (H:D2 a0 a1=some r):FnV prog 193 (nS a0) [tP 200,.v (.agg (kM [.t,.t] (f8 a1)))] (nS r.2) (.v (.c (.d false (.b r.1)))) []:=by
 refine fV func193 ntmps193 ?_
 refine aa H λr1 q1 H=>nA (ca (hF:=nC.h q1)) ?_
 refine cC H ?_ ?_<;>intro H
 .cases H
  exact cg
 refine aa H λx2 hx2 H=>bG (mc 190 (hne:=xW (enc:=c9) hx2)) ?_
 refine nA (xwT hx2) ?_
 refine nA (oea (he:=ez _ hx2)) ?_
 refine cC H ?_ ?_<;>intro H
 .refine cC H ?_ ?_<;>intro H
  .cases H
   refine bF ((ec 190)) ?_
   exact cg
  refine aa H λr3 q3 H=>nA (ca (hF:=FX.h q3)) ?_
  refine aa H λr4 q4 H=>bG (aV (o:=212)) ?_
  refine bG (bN (k:=58)) ?_
  refine bG (ec 190) ?_
  refine sA (cwu m0 [] 213 (pu q4)) ?_
  cases H
  exact cg
 refine cC H ?_ ?_<;>intro H
 .refine dI ?_
  refine aa H λv5 Hj H=>yO ⟨[(0,tP 200),(3,tP 210),(5,tI a1.cB),(6,tP 211),(79,tB v5)],(oM [.t,.w 190,.n 191,.n 192,.n 193] 200 34 (bw a0)++[(210,.var 51 (kM [.t,.t] (f8 a1))),(211,.var 93 (kM [.t,.t] (dF x2)))]),212⟩ ?_ ?_
  .have H:=Hj
   refine wI ?_
   refine dC H ?_ ?_<;>intro H
   .refine wI ?_
    exact ai H
   refine aa H λr6 q6 H=>dG (ca (hF:=nC.h q6)) ?_
   refine wI ?_
   exact ai H
  refine wI ?_
  refine cC H ?_ ?_<;>intro H
  .refine wI ?_
   cases H
   refine bF ((ec 190)) ?_
   exact cg
  refine aa H λr7 q7 H=>nA (ca (hF:=He.h q7)) ?_
  refine aa H λr8 q8 H=>bG (aV (o:=212)) ?_
  refine bG (bN (k:=85)) ?_
  refine bG (ec 190) ?_
  refine sA (cwu m0 [] 213 (pu q8)) ?_
  refine wI ?_
  cases H
  exact cg
 refine cC H ?_ ?_<;>intro H
 .refine cC H ?_ ?_<;>intro H
  .cases H
   refine bF ((ec 190)) ?_
   exact cg
  refine zI (f4 9) ?_
  refine aa H λr9 q9 H=>zA (ca (hF:=J5.h q9)) ?_
  refine aa H λx10 hx10 H=>zA (xwT hx10) ?_
  refine zB (an (aV (o:=212)) (an (aV (o:=213)) (bN (k:=98)))) (fQ rfl (soT (enc:=c9) (a':=r9) hx10)) bK ?_
  cases H
  refine bF ((ec 190)) ?_
  refine bF ((wB 190 ((a0.av.set (a1.cB).toNat r9).length))) ?_
  exact cg
 refine zI (f4 16) ?_
 refine aa H λx11 hx11 H=>zA (qN hx11) ?_
 refine zA (JR (he:=ez _ hx11)) ?_
 refine aa H λr12 q12 H=>zA (ca (hF:=xk.h q12)) ?_
 refine wA (spx 100474) ?_
 refine zI (f4 8) ?_
 refine aa H λx13 hx13 H=>zA (qN hx13) ?_
 refine zB (an (aV (o:=212)) (an (aV (o:=213)) (an (aV (o:=214)) (an (bN (k:=47)) (mc 191 (hne:=xW (enc:=bZ) hx13)))))) (fQ rfl (soT (enc:=bZ) (a':=r12.1) hx13)) bK ?_
 cases H
 refine bF ((ec 190)) ?_
 refine bF ((ec 191)) ?_
 refine bF ((wB 191 ((a0.aF.set (a1.cB).toNat r12.1).length))) ?_
 exact cg
def zh (a0:ab) (a1:dN):Option (Bool×ab):=
 bif eqB a1.bh 1 then(abU (BV a0) λr1=>some (r1.1,r1.2)) else(abU (bif eqB a1.bh 2 then(some (eqB a1.bh 2)) else(abU (bif eqB a1.bh 3 then(some (eqB a1.bh 3)) else(some (eqB a1.bh 4))) λ(v3:Bool)=>some v3)) λ(v2:Bool)=>bif v2 then(abU (wV a0 a1) λr4=>some (r4.1,r4.2)) else(abU (bif eqB a1.bh 5 then(some (eqB a1.bh 5)) else(abU (bif eqB a1.bh 6 then(some (eqB a1.bh 6)) else(abU (bif eqB a1.bh 7 then(some (eqB a1.bh 7)) else(some (eqB a1.bh 8))) λ(v7:Bool)=>some v7)) λ(v6:Bool)=>some v6)) λ(v5:Bool)=>bif v5 then(abU (D2 a0 a1) λr8=>some (r8.1,r8.2)) else(abU (bif eqB a1.bh 9 then(some (eqB a1.bh 9)) else(some (eqB a1.bh 10))) λ(v9:Bool)=>bif v9 then(abU (BS a0 a1.cB (eqB a1.bh 10)) λr10=>some (r10.1,r10.2)) else(abU (bif eqB a1.bh 11 then(some (eqB a1.bh 11)) else(some (eqB a1.bh 12))) λ(v11:Bool)=>bif v11 then(abU (wW a0 a1.cB (eqB a1.bh 12)) λr12=>some (r12.1,r12.2)) else(bif eqB a1.bh 13 then(abU (ky a0 a1.b8) λr13=>bif !r13 then(some (false,a0)) else(abU (gq a0 a1.b8) λr14=>some (true,r14))) else(some (false,a0)))))))
theorem Mx {a0:ab} {a1:dN} {r:Bool×ab} (H:zh a0 a1=some r):FnV prog 115 (nS a0) [tP 200,.v (.agg (kM [.t,.t] (f8 a1)))] (nS r.2) (.v (.c (.d false (.b r.1)))) []:=by
 refine fV func115 ntmps115 ?_
 refine cC H ?_ ?_<;>intro H
 .refine aa H λr1 q1 H=>sA (cwu m0 [] 211 (Oq q1)) ?_
  cases H
  exact cg
 refine aa H λv2 Hj H=>jA ⟨[(0,tP 200),(3,tP 210),(6,tI a1.bh),(11,tB v2)],(nS a0++[(210,.var 51 (kM [.t,.t] (f8 a1)))]),211⟩ ?_ ?_
 .refine cC Hj ?_ ?_<;>intro H
  .exact ai H
  refine aa H λv3 Hj H=>jA ⟨[(0,tP 200),(3,tP 210),(6,tI a1.bh),(11,tB v3)],(nS a0++[(210,.var 51 (kM [.t,.t] (f8 a1)))]),211⟩ ?_ ?_
  .exact az Hj
  exact ai H
 refine cC H ?_ ?_<;>intro H
 .refine aa H λr4 q4 H=>sA (cwu m0 [] 211 (Kl q4)) ?_
  cases H
  exact cg
 refine aa H λv5 Hj H=>jA ⟨[(0,tP 200),(3,tP 210),(6,tI a1.bh),(18,tB v5)],(nS a0++[(210,.var 51 (kM [.t,.t] (f8 a1)))]),211⟩ ?_ ?_
 .refine cC Hj ?_ ?_<;>intro H
  .exact ai H
  refine aa H λv6 Hj H=>jA ⟨[(0,tP 200),(3,tP 210),(6,tI a1.bh),(18,tB v6)],(nS a0++[(210,.var 51 (kM [.t,.t] (f8 a1)))]),211⟩ ?_ ?_
  .refine cC Hj ?_ ?_<;>intro H
   .exact ai H
   refine aa H λv7 Hj H=>jA ⟨[(0,tP 200),(3,tP 210),(6,tI a1.bh),(18,tB v7)],(nS a0++[(210,.var 51 (kM [.t,.t] (f8 a1)))]),211⟩ ?_ ?_
   .exact az Hj
   exact ai H
  exact ai H
 refine cC H ?_ ?_<;>intro H
 .refine aa H λr8 q8 H=>sA (cwu m0 [] 211 (Si q8)) ?_
  cases H
  exact cg
 refine aa H λv9 Hj H=>jA ⟨[(0,tP 200),(3,tP 210),(6,tI a1.bh),(26,tB v9)],(nS a0++[(210,.var 51 (kM [.t,.t] (f8 a1)))]),211⟩ ?_ ?_
 .exact az Hj
 refine cC H ?_ ?_<;>intro H
 .refine aa H λr10 q10 H=>sA (cwu m0 [] 211 (Om q10)) ?_
  cases H
  exact cg
 refine aa H λv11 Hj H=>jA ⟨[(0,tP 200),(3,tP 210),(6,tI a1.bh),(36,tB v11)],(nS a0++[(210,.var 51 (kM [.t,.t] (f8 a1)))]),211⟩ ?_ ?_
 .exact az Hj
 refine cC H ?_ ?_<;>intro H
 .refine aa H λr12 q12 H=>sA (cwu m0 [] 211 (Km q12)) ?_
  cases H
  exact cg
 refine cC H ?_ ?_<;>intro H
 .refine dI ?_
  refine aa H λr13 q13 H=>dA (ca (hF:=Gs.h q13)) ?_
  refine wI ?_
  refine cC H ?_ ?_<;>intro H
  .cases H
   exact cg
  refine aa H λr14 q14 H=>sA (cwu m0 [] 211 (tp q14)) ?_
  cases H
  exact cg
 cases H
 exact cg
def Gt:(Int×List dN×bj×ab)->Option (ct (Int×List dN×bj×ab) (List dN×bj×ab))
 |(v4,v8,v19,v20)=>bif ltB 0 v4 then(abU (BT v19 v20) λr51=>bif da 224 (v8++[r51.1]).length then(abU (yB v20) λr52=>abU (zh r52 r51.1) λr53=>abU (bif r53.1 then(some r53.2) else(some v20)) λ(v64:ab)=>some (.next (WR (v4-1),(v8++[r51.1]),r51.2,v64))) else none) else(some (.done (v8,v19,v20)))
def BU (a0:bj) (a1:Int):Option (ab×List dN×ab×bj):=
 abU (BR a0) λr1=>abU (yB r1.1) λr2=>abU (cO r1.2 a1) λr3=>abU (iter (Gt) FU (WR (3+r3.1),([]:List dN),r3.2,r2)) λ((v38,v49,v50):List dN×bj×ab)=>some (r1.1,v38,v50,v49)
theorem Sj {a0:bj} {a1:Int} {r:ab×List dN×ab×bj} (H:BU a0 a1=some r):FnW prog 58 (.var 135 (kM [.f] (co a0))) [tP 200,tI a1] (.var 135 (kM [.f] (co r.2.2.2))) [.agg (qM [.d,.d,.d,.d,.d] (bw r.1)),.c (.own 51 25 (r.2.1.map DJ) r.2.1.length),.agg (qM [.d,.d,.d,.d,.d] (bw r.2.2.1))]:=by
 refine fW func58 ntmps58 ?_
 refine aa H λr1 q1 H=>sA (cwv [(200,200)] [(210,212),(211,213),(212,214),(213,215)] 216 (Se q1)) ?_
 refine aa H λr2 q2 H=>bG (fG 212) ?_
 refine bG (fG 213) ?_
 refine bG (fG 214) ?_
 refine bG (fG 215) ?_
 refine sA (cwv [] [(210,217),(211,218),(212,219),(213,220)] 221 (Gp q2)) ?_
 refine aa H λr3 q3 H=>sA (cw (o:=200) (cp q3)) ?_
 obtain⟨⟨v38,v49,v50⟩,Hj,H⟩:=ob H
 refine jB ⟨[(4,tP 210),(6,tP 211),(7,tP 216),(8,tP 221),(9,.v (.c (.w 222 v38.length)))],[(200,.var 135 (kM [.f] (co v49))),(210,.var 34 (kM [.z,.z,.z,.z,.z] (bw {dV with ei:=(⟨[]⟩:aS)}))),(211,.var 34 (kM [.z,.z,.z,.z,.z] (bw {dV with ei:=(⟨[]⟩:aS)}))),(216,.var 34 (kM [.t,.t,.t,.t,.t] (bw r1.1))),(221,.var 34 (kM [.t,.t,.t,.t,.t] (bw v50))),(222,w51 v38)],223⟩ ?_ ?_
 .refine iT Hj (λq=>⟨[(0,tP 200),(4,tP 210),(6,tP 211),(7,tP 216),(8,tP 221),(9,.v (.c (.w 222 q.2.1.length))),(10,tI q.1)],[(200,.var 135 (kM [.f] (co q.2.2.1))),(210,.var 34 (kM [.z,.z,.z,.z,.z] (bw {dV with ei:=(⟨[]⟩:aS)}))),(211,.var 34 (kM [.z,.z,.z,.z,.z] (bw {dV with ei:=(⟨[]⟩:aS)}))),(216,.var 34 (kM [.t,.t,.t,.t,.t] (bw r1.1))),(221,.var 34 (kM [.t,.t,.t,.t,.t] (bw q.2.2.2))),(222,w51 q.2.1)],223⟩) ?_ (by refine an (fG 217) ?_;refine an (fG 218) ?_;refine an (fG 219) ?_;refine an (fG 220) ?_;exact wo)
  rintro⟨v4,v8,v19,v20⟩ o H
  refine ad ?_
  refine cC H ?_ ?_<;>intro H
  .refine aa H λr51 q51 H=>sA (cwv [(200,200)] [(210,223)] 224 (Oo q51)) ?_
   refine aW (fG 223) ?_
   obtain⟨h,H⟩:=rq H
   refine sA (apT (enc:=DJ) (ys:=v8) (zs:=[r51.1]) h) ?_
   refine aa H λr52 q52 H=>sA (cwv [] [(210,226),(211,227),(212,228),(213,229)] 230 (Gp q52)) ?_
   refine aa H λr53 q53 H=>sA (cwu [(190,226),(191,227),(192,228),(193,229),(200,230)] [] 231 (Mx q53)) ?_
   refine aa H λv64 Hj H=>jA ⟨[(0,tP 200),(4,tP 210),(6,tP 211),(7,tP 216),(8,tP 221),(9,.v (.c (.w 222 ((v8++[r51.1]).length)))),(10,tI v4)],[(200,.var 135 (kM [.f] (co r51.2))),(210,.var 34 (kM [.z,.z,.z,.z,.z] (bw {dV with ei:=(⟨[]⟩:aS)}))),(211,.var 34 (kM [.z,.z,.z,.z,.z] (bw {dV with ei:=(⟨[]⟩:aS)}))),(216,.var 34 (kM [.t,.t,.t,.t,.t] (bw r1.1))),(221,.var 34 (kM [.t,.t,.t,.t,.t] (bw v64))),(222,w51 (v8++[r51.1]))],223⟩ ?_ ?_
   .refine cC Hj ?_ ?_<;>intro H
    .cases H
     refine an (fG 226) ?_
     refine an (fG 227) ?_
     refine an (fG 228) ?_
     refine an (fG 229) ?_
     exact wo
    exact ai H
   exact aN H
  exact aE H
 refine zI (f4 6) ?_
 refine wA (spx 100488) ?_
 refine wA (spx 100487) ?_
 cases H
 exact f9
end Go.AM
