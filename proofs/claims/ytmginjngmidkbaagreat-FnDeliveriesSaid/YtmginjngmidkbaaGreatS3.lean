/- A part. -/
import Derived.Test.YtmginjngmidkbaaGreatS2
set_option linter.unusedVariables false
open Option renaming bind->abU
namespace Go.AM
open Go.Proofs
open Tryz
attribute [local irreducible] AWN NS AWO AWR AWC DR ea gL
set_option maxRecDepth 100000
set_option maxHeartbeats 40000000
def EB:(Int×List Int×bm)->Option (cq (Int×List Int×bm) (List Int×bm))
 |(v4,v8,v9)=>bif ltB v4 4 then(abU (i9 v9 3) λr17=>abU (bif r17.1 then(bif c8 8 (v8++[v4]).length then(some (v8++[v4])) else none) else(some v8)) λ(v18:List Int)=>some (.next (WR (v4+1),v18,r17.2))) else(some (.done (v8,v9)))
def CN (a0:bm):Option (bD×bm):=
 abU (cI a0 9) λr1=>abU (cI r1.2 4) λr2=>abU (cI r2.2 20) λr3=>abU (iter (EB) FU (0,([]:List Int),r3.2)) λ((v15,v16):List Int×bm)=>some ((⟨WR (1+r1.1),WR (1+r2.1),WR (1+r3.1),v15⟩:bD),v16)
theorem O1 {a0:bm} {r:bD×bm} (H:CN a0=some r):FnV prog 174 [(200,.var 135 (kM [.f] (ci a0)))] [tP 200] [(200,.var 135 (kM [.f] (ci r.2)))] (.v (.agg (kM [.n 210] (dX r.1)))) [(210,n3 r.1.bC)]:=by
 refine fV func174 ntmps174 ?_
 refine aa H λr1 q1 H=>sA (cw (o:=200) (cp q1)) ?_
 refine aa H λr2 q2 H=>sA (cw (o:=200) (cp q2)) ?_
 refine aa H λr3 q3 H=>sA (cw (o:=200) (cp q3)) ?_
 obtain⟨⟨v15,v16⟩,Hj,H⟩:=ob H
 refine jB ⟨[(2,tP 210),(3,tP 211)],(oM [.n 212] 211 65 (dX (⟨WR (1+r1.1),WR (1+r2.1),WR (1+r3.1),v15⟩:bD))++[(200,.var 135 (kM [.f] (ci v16))),(210,.var 65 (kM [.z] (dX pb)))]),213⟩ ?_ ?_
 .refine iT Hj (λq=>⟨[(0,tP 200),(2,tP 210),(3,tP 211),(4,tI q.1)],(oM [.n 212] 211 65 (dX (⟨WR (1+r1.1),WR (1+r2.1),WR (1+r3.1),q.2.1⟩:bD))++[(200,.var 135 (kM [.f] (ci q.2.2))),(210,.var 65 (kM [.z] (dX pb)))]),213⟩) ?_ (by refine aq (dY (o:=211) (j:=3) 3 1 true) ?_;refine aq (wB 212 (([]:List Int).length)) ?_;exact wo)
  rintro⟨v4,v8,v9⟩ o H
  refine ad ?_
  refine cC H ?_ ?_<;>intro H
  .refine aa H λr17 q17 H=>sA (cw (o:=200) (iQ q17)) ?_
   refine aa H λv18 Hj H=>jA ⟨[(0,tP 200),(2,tP 210),(3,tP 211),(4,tI v4)],(oM [.n 212] 211 65 (dX (⟨WR (1+r1.1),WR (1+r2.1),WR (1+r3.1),v18⟩:bD))++[(200,.var 135 (kM [.f] (ci r17.2))),(210,.var 65 (kM [.z] (dX pb)))]),213⟩ ?_ ?_
   .refine cC Hj ?_ ?_<;>intro H
    .obtain⟨h,H⟩:=rq H
     refine sA (EI (enc:=eI) (ys:=v8) (zs:=[v4]) h (by first|exact List.cons_ne_nil _ _|simp) rfl (λ_=>rfl) (by first|rfl|simp) (.w rfl (by first|rfl|exact lm _|simp)) rfl rfl rfl rfl rfl rfl rfl rfl rfl rfl) ?_
     cases H
     refine aq (ee 212) ?_
     exact wo
    exact ai H
   exact aN H
  exact aE H
 cases H
 refine co (wS 212 210) ?_
 exact cd
def o6 (a0:List aP) (v1:Int):Int->Option (cq (Int) (cq (Int) (Bool)))
 |v4=>bif ltB v4 v1 then(abU (ix a0 v4) λx5=>abU (ix a0 v1) λx6=>bif(eqB x5.ID.dN x6.ID.dN&&(eqB x5.ID.bL x6.ID.bL&&true)) then(dn (dn (some false))) else(some (.next (WR (v4+1))))) else(dn (some (.next (WR (v1+1)))))
def o5 (a0:List aP):Int->Option (cq (Int) (Bool))
 |v1=>bif ltB v1 (a0.length:Int) then(abU (ix a0 v1) λx2=>abU (eN x2) λr3=>bif !r3 then(dn (some false)) else(iter (o6 a0 v1) FU 0)) else(dn (some (leB (a0.length:Int) 4)))
def uo (a0:List aP):Option Bool:=
 iter (o5 a0) FU 0
theorem IE {a0:List aP} {r:Bool} (H:uo a0=some r):Fn prog 245 [aL (a0.map cQ)] [.c (.d (.b r))]:=by
 refine fI func245 ntmps245 ?_
 refine iT H (λq=>⟨[(0,.v (.c (.d false (.l (a0.map cQ))))),(3,tI q)],[],0⟩) ?_
 rintro v1 o H
 refine ad ?_
 refine cC H ?_ ?_<;>intro H
 .refine aa H λx2 hx2 H=>nA (xdT (enc:=cQ) hx2) ?_
  refine aa H λr3 q3 H=>nA (ca (hF:=iH q3)) ?_
  refine cC H ?_ ?_<;>intro H
  .exact aQ H
  refine iT H (λq=>⟨[(0,.v (.c (.d false (.l (a0.map cQ))))),(3,tI v1),(4,tI q)],[],0⟩) ?_
  rintro v4 o H
  refine ad ?_
  refine cC H ?_ ?_<;>intro H
  .refine dI ?_
   refine aa H λx5 hx5 H=>dA (xdT (enc:=cQ) hx5) ?_
   refine aa H λx6 hx6 H=>dA (xdT (enc:=cQ) hx6) ?_
   refine wI ?_
   refine cC H ?_ ?_<;>intro H
   .refine aR H λH=>?_
    exact aQ H
   exact aN H
  refine aR H λH=>?_
  exact aN H
 exact aQ H
def kV (a1:ae) (r1:aO):Int->Option (cq (Int) (Int))
 |v6=>abU (bif ltB v6 (r1.aC.length:Int) then(abU (ix r1.aC v6) λx11=>some (ltB x11.cV a1.cV)) else(some false)) λ(v10:Bool)=>bif v10 then(some (.next (WR (v6+1)))) else(some (.done v6))
def t0:aO->Option (cq (aO) (aO))
 |v15=>abU (bif ltB 0 (v15.aC.length:Int) then(abU (ix v15.aC 0) λx24=>bif eqB x24.cV v15.bB then(some (ltB (v15.bi.length:Int) 24)) else(some false)) else(some false)) λ(v23:Bool)=>bif v23 then(abU (ix v15.aC 0) λx25=>bif c8 24 (v15.bi++[(⟨x25.bg⟩:bM)]).length then(bif eT v15.aC 1 v15.aC.length then(some (.next (⟨WR (v15.bB+1),v15.aC.drop ((1:Int)).toNat,(v15.bi++[(⟨x25.bg⟩:bM)])⟩:aO))) else none) else none) else(some (.done v15))
def oT (a0:aO) (a1:ae):Option aO:=
 abU (zn a0) λr1=>abU (jF a0) λr2=>abU (bif !r2 then(some true) else(bif ltB 60 (a1.bg.length:Int) then(some true) else(abU (dB a1.cV a0.bB (WR ((WR (a0.bB+8))-1))) λr4=>bif !r4 then(some true) else(abU (HD a0.aC a1.cV) λr5=>bif leB 0 r5 then(some true) else(some (leB 24 (a0.bi.length:Int))))))) λ(v3:Bool)=>bif v3 then(some r1) else(abU (iter (kV a1 r1) FU 0) λ(v9:Int)=>bif c8 1 (([]:List Int)++a1.bg).length then(bif eT r1.aC 0 v9 then(bif eT r1.aC v9 r1.aC.length then(bif c8 32 (([]:List ae)++(r1.aC.take (v9).toNat)).length then(bif c8 32 ((([]:List ae)++(r1.aC.take (v9).toNat))++[(⟨a1.cV,(([]:List Int)++a1.bg)⟩:ae)]).length then(bif c8 32 (((([]:List ae)++(r1.aC.take (v9).toNat))++[(⟨a1.cV,(([]:List Int)++a1.bg)⟩:ae)])++(r1.aC.drop (v9).toNat)).length then(abU (iter (t0) FU {r1 with aC:=(((([]:List ae)++(r1.aC.take (v9).toNat))++[(⟨a1.cV,(([]:List Int)++a1.bg)⟩:ae)])++(r1.aC.drop (v9).toNat))}) λ(v22:aO)=>abU (bif eqB (v22.bi.length:Int) 24 then(some ([]:List ae)) else(some v22.aC)) λ(v26:List ae)=>some {v22 with aC:=v26}) else none) else none) else none) else none) else none) else none)
theorem DO {a0:aO} {a1:ae} {r:aO} (H:oT a0 a1=some r):Fn prog 358 [.agg (fK a0),.agg (an a1)] [.agg (qM [.d,.o] (bH r))]:=by
 refine fI func358 ntmps358 ?_
 refine aa H λr1 q1 H=>nA (ca (hF:=HE q1)) ?_
 refine aa H λr2 q2 H=>nA (ca (hF:=sU q2)) ?_
 refine aa H λv3 Hj H=>jR ⟨[(3,tP 1),(4,tP 2),(5,tP 5),(44,tB v3)],(oM [.w 3,.w 4] 5 91 (bH r1)++[(1,.var 131 (kM [.f] (di a1))),(2,.var 91 (kM [.z,.z] (bH c7)))]),6⟩ ?_ ?_
 .refine gC Hj ?_ ?_<;>intro H
  .exact ai H
  refine gC H ?_ ?_<;>intro H
  .exact ai H
  refine aa H λr4 q4 H=>nG (ca (hF:=cm q4)) ?_
  refine gC H ?_ ?_<;>intro H
  .exact ai H
  refine aa H λr5 q5 H=>nG (ca (hF:=O2 q5)) ?_
  exact az H
 refine cC H ?_ ?_<;>intro H
 .cases H
  refine du (bb (o:=3)) ?_
  refine du (cL (o:=2)) ?_
  exact dW
 refine aa H λv9 Hj H=>jB ⟨[(3,tP 1),(4,tP 2),(5,tP 5),(6,tI v9)],(oM [.w 3,.w 4] 5 91 (bH r1)++[(1,.var 131 (kM [.f] (di a1))),(2,.var 91 (kM [.z,.z] (bH c7)))]),6⟩ ?_ ?_
 .refine iT Hj (λq=>⟨[(3,tP 1),(4,tP 2),(5,tP 5),(6,tI q)],(oM [.w 3,.w 4] 5 91 (bH r1)++[(1,.var 131 (kM [.f] (di a1))),(2,.var 91 (kM [.z,.z] (bH c7)))]),6⟩) ?_
  rintro v6 o H
  refine ad ?_
  refine dI ?_
  refine aa H λv10 Hj H=>fA ⟨[(3,tP 1),(4,tP 2),(5,tP 5),(6,tI v6),(61,tB v10)],(oM [.w 3,.w 4] 5 91 (bH r1)++[(1,.var 131 (kM [.f] (di a1))),(2,.var 91 (kM [.z,.z] (bH c7)))]),6⟩ ?_ ?_
  .have H:=Hj
   refine wI ?_
   refine dC H ?_ ?_<;>intro H
   .refine aa H λx11 hx11 H=>dG (xwT hx11) ?_
    refine dG (oe (he:=f7 _ hx11)) ?_
    refine wI ?_
    exact ai H
   refine wI ?_
   exact ai H
  refine wI ?_
  refine cC H ?_ ?_<;>intro H
  .refine wI ?_
   exact aN H
  exact aE H
 refine zI [0,1,2,3,4,7,5,6,8] ?_
 obtain⟨h,H⟩:=rq H
 refine wA (H5 (enc:=eU8) (ys:=([]:List Int)) (zs:=a1.bg) [6] h) ?_
 refine wA (spx 100452) ?_
 refine mK (ds:=[6]) (by kernel_rfl) (by kernel_rfl) rfl ?_
 refine wI ?_
 refine nP (bb (o:=8)) ?_
 refine nP (b7 (k:=69)) ?_
 refine nP (b7 (k:=70)) ?_
 refine nP (cL (o:=7)) ?_
 refine zI [0,1,2,3,4,6,7,9,10,11,12,5,8,13,14,15] ?_
 obtain⟨hs10,H⟩:=rq H
 refine zA (YJ (enc:=an) hs10 (by first|rfl|simp) rfl rfl rfl rfl) ?_
 obtain⟨hs11,H⟩:=rq H
 refine zA (Tx (enc:=an) hs11 (by first|rfl|simp) rfl rfl rfl rfl) ?_
 obtain⟨h,H⟩:=rq H
 refine wA (apx (enc:=an) (ys:=([]:List ae)) (zs:=r1.aC.take (v9).toNat) [9,3] h (hs:=VI (enc:=an) hs10 rfl)) ?_
 obtain⟨h,H⟩:=rq H
 refine wA (apx (enc:=an) (ys:=(([]:List ae)++(r1.aC.take (v9).toNat))) (zs:=[(⟨a1.cV,(([]:List Int)++a1.bg)⟩:ae)]) [11,10] h) ?_
 obtain⟨h,H⟩:=rq H
 refine wA (apx (enc:=an) (ys:=((([]:List ae)++(r1.aC.take (v9).toNat))++[(⟨a1.cV,(([]:List Int)++a1.bg)⟩:ae)])) (zs:=r1.aC.drop (v9).toNat) [12,3] h (hs:=QQ (enc:=an) hs11 (by first|rfl|simp) rfl)) ?_
 refine wA (spx 100451) ?_
 refine mK (ds:=[9,11,12]) (by kernel_rfl) (by kernel_rfl) rfl ?_
 refine wI ?_
 refine aa H λv22 Hj H=>jB ⟨[(4,tP 2),(5,tP 5)],(oM [.t,.w 4] 5 91 (bH v22)++[(2,.var 91 (kM [.z,.z] (bH c7)))]),6⟩ ?_ ?_
 .refine iT Hj (λq=>⟨[(4,tP 2),(5,tP 5)],(oM [.t,.w 4] 5 91 (bH q)++[(2,.var 91 (kM [.z,.z] (bH c7)))]),6⟩) ?_ (by refine aq (bb (o:=13)) ?_;refine aq (b7 (k:=84)) ?_;refine aq (cL (o:=5)) ?_;exact wo)
  rintro v15 o H
  refine ad ?_
  refine dI ?_
  refine aa H λv23 Hj H=>fA ⟨[(4,tP 2),(5,tP 5),(105,tB v23)],(oM [.t,.w 4] 5 91 (bH v15)++[(2,.var 91 (kM [.z,.z] (bH c7)))]),6⟩ ?_ ?_
  .have H:=Hj
   refine wI ?_
   refine dC H ?_ ?_<;>intro H
   .refine aa H λx24 hx24 H=>dG (xdT (enc:=an) hx24) ?_
    refine dC H ?_ ?_<;>intro H
    .refine wI ?_
     exact ai H
    refine wI ?_
    exact ai H
   refine wI ?_
   exact ai H
  refine wI ?_
  refine cC H ?_ ?_<;>intro H
  .refine zI (List.range 12) ?_
   refine aa H λx25 hx25 H=>zA (xdT (enc:=an) hx25) ?_
   obtain⟨h,H⟩:=rq H
   refine zB b8 (gG rfl (apT (enc:=da) (ys:=v15.bi) (zs:=[(⟨x25.bg⟩:bM)]) h)) b8 ?_
   refine wA (spx 100450) ?_
   obtain⟨h,H⟩:=rq H
   refine nA (Ww (enc:=an) h (λ_=>rfl) rfl rfl rfl) ?_
   exact aN H
  exact aE H
 refine aa H λv26 Hj H=>jA ⟨[(4,tP 2),(5,tP 5)],(oM [.t,.w 4] 5 91 (bH {v22 with aC:=v26})++[(2,.var 91 (kM [.z,.z] (bH c7)))]),6⟩ ?_ ?_
 .refine cC Hj ?_ ?_<;>intro H
  .cases H
   refine aq (bb (o:=6)) ?_
   refine aq (b7 (k:=129)) ?_
   refine aq (cL (o:=5)) ?_
   exact wo
  exact ai H
 exact ao H
def CT (a0:ab) (a1:Int) (a2:Bool):Option (Bool×ab):=
 abU (dB a1 0 (WR ((a0.eo.aX.length:Int)-1))) λr1=>abU (bif !r1 then(some true) else(abU (vC a0 a1) λr3=>some (booB r3 a2))) λ(v2:Bool)=>bif v2 then(some (false,a0)) else(bif leB 0 a1 then(some (true,{a0 with dv:=J5 .i64 a0.dv (lJ .i64 1 a1)})) else none)
theorem O5 {a0:ab} {a1:Int} {a2:Bool} {r:Bool×ab} (H:CT a0 a1 a2=some r):FnV prog 194 (nS a0) [tP 200,tI a1,tB a2] (nS r.2) (.v (.c (.d false (.b r.1)))) []:=by
 refine fV func194 ntmps194 ?_
 refine aa H λr1 q1 H=>nA (ca (hF:=cm q1)) ?_
 refine aa H λv2 Hj H=>jR ⟨[(0,tP 200),(1,tI a1),(25,tB v2)],(nS a0),210⟩ ?_ ?_
 .refine gC Hj ?_ ?_<;>intro H
  .exact ai H
  refine aa H λr3 q3 H=>nG (ca (hF:=Et q3)) ?_
  exact ai H
 refine cC H ?_ ?_<;>intro H
 .cases H
  exact cd
 refine zI (List.range 11) ?_
 obtain⟨h,H⟩:=rq H
 refine zA (Ig h rfl rfl rfl rfl) ?_
 refine wA (spx 100476) ?_
 cases H
 exact cd
def rK (a0:bN) (a1:Int) (a2:Bool):Option bN:=
 abU (lQ a0) λr1=>abU (bif !r1 then(some true) else(abU (dB a1 0 (WR (a0.fo-1))) λr3=>some (!r3))) λ(v2:Bool)=>bif v2 then(some a0) else(abU (bif a2 then(bif leB 0 a1 then(some (bOr .i64 a0.fj (lJ .i64 1 a1))) else none) else(bif leB 0 a1 then(some (vZ .i64 a0.fj (lJ .i64 1 a1))) else none)) λ(v4:Int)=>some (⟨a0.fo,v4⟩:bN))
theorem Hu {a0:bN} {a1:Int} {a2:Bool} {r:bN} (H:rK a0 a1 a2=some r):Fn prog 271 [.agg (nR a0),aI a1,aB a2] [.agg (qM [] (eR r))]:=by
 refine fI func271 ntmps271 ?_
 refine aa H λr1 q1 H=>nA (ca (hF:=sT q1)) ?_
 refine aa H λv2 Hj H=>jR ⟨[(1,tI a1),(2,tB a2),(3,tP 0),(6,tP 1),(18,tB v2)],[(0,.var 32 (kM [] (eR a0))),(1,.var 32 (kM [] (eR xm)))],2⟩ ?_ ?_
 .refine gC Hj ?_ ?_<;>intro H
  .exact ai H
  refine aa H λr3 q3 H=>nG (ca (hF:=cm q3)) ?_
  exact ai H
 refine cC H ?_ ?_<;>intro H
 .exact ao H
 refine aa H λv4 Hj H=>jA ⟨[(6,tP 1),(7,tP 2)],[(1,.var 32 (kM [] (eR xm))),(2,.var 32 (kM [] (eR (⟨a0.fo,v4⟩:bN))))],3⟩ ?_ ?_
 .refine cC Hj ?_ ?_<;>intro H
  .refine zI (List.range 7) ?_
   obtain⟨h,H⟩:=rq H
   refine zA (Ig h rfl rfl rfl rfl) ?_
   refine wA (spx 100483) ?_
   exact ai H
  refine zI (List.range 7) ?_
  obtain⟨h,H⟩:=rq H
  refine zA (Ig h rfl rfl rfl rfl) ?_
  refine wA (spx 100484) ?_
  exact ai H
 exact ao H
def qp (a0:bN) (a1:Int):Option Bool:=
 abU (lQ a0) λr1=>abU (bif r1 then(abU (dB a1 0 (WR (a0.fo-1))) λr3=>bif r3 then(bif leB 0 a1 then(some (eqB (AT .i64 (FQ .i64 a0.fj a1) 1) 1)) else none) else(some false)) else(some false)) λ(v2:Bool)=>some v2
theorem AG {a0:bN} {a1:Int} {r:Bool} (H:qp a0 a1=some r):Fn prog 272 [.agg (nR a0),aI a1] [.c (.d (.b r))]:=by
 refine fI func272 ntmps272 ?_
 refine aa H λr1 q1 H=>nA (ca (hF:=sT q1)) ?_
 refine aa H λv2 Hj H=>jR ⟨[(4,tB v2)],[],0⟩ ?_ ?_
 .refine gC Hj ?_ ?_<;>intro H
  .refine aa H λr3 q3 H=>nG (ca (hF:=cm q3)) ?_
   refine gC H ?_ ?_<;>intro H
   .obtain⟨h,H⟩:=rq H
    refine nG (Ig h rfl rfl rfl rfl) ?_
    exact ai H
   exact ai H
  exact ai H
 exact ao H
end Go.AM
