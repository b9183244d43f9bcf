/- A part. -/
import Derived.Test.YtmginjngmidkbaaGreatS8
set_option linter.unusedVariables false
open Option renaming bind->abU
open List renaming range->hV
namespace Go.AM
open Go.Proofs
open Tryz
attribute [local irreducible] AWN NS AWO AWR AWC DR ea gL
set_option maxRecDepth 100000
set_option maxHeartbeats 40000000
variable {a0:Go.AM.ah}
def oG (a0:ab) (a1:dh):Int->Option (cq (Int) (Bool))
 |v4=>bif ltB v4 (a0.aK.length:Int) then(abU (ix a0.aK v4) λx5=>abU (o7 x5 a1.bS) λr6=>bif r6 then(dn (some true)) else(some (.next (WR (v4+1))))) else(dn (abU (ix a0.av a1.bS.bk) λx7=>abU (bif a1.bS.dR then(some (!a1.bS.eH)) else(some false)) λ(v8:Bool)=>bif v8 then(abU (bif ltB a1.bS.cz.ag x7.ag then(some true) else(bif eqB a1.bS.cz.ag x7.ag then(abU (o3 x7.aV a1.bS.cz) λr10=>some (!r10)) else(some false))) λ(v9:Bool)=>some v9) else(bif a1.bS.dR then(some true) else(bif a1.bS.eH then(abU (ix a0.aF a1.bS.bk) λx11=>abU (o9 x11 a1.bS.bh) λr12=>some r12) else(abU (lV x7 a1.bS.bh) λr13=>some r13)))))
def tT (a0:ab) (a1:dh):Option Bool:=
 abU (bif !eqB a1.a8 13 then(some true) else(abU (mT a0) λr2=>bif !r2 then(some true) else(abU (jW a0 a1.bS) λr3=>some (!r3)))) λ(v1:Bool)=>bif v1 then(some true) else(iter (oG a0 a1) FU 0)
theorem Iv {a0:ab} {a1:dh} {r:Bool} (H:tT a0 a1=some r):Fn prog 25 [.agg (iy a0),.agg (Fk a1)] [.c (.d (.b r))]:=by
 refine fI func25 ntmps25 ?_
 refine aa H λv1 Hj H=>jR ⟨[(2,tP 0),(5,tP 2),(23,tB v1)],[(0,.var 34 (kM [.f,.f,.f,.f,.f] (aU a0))),(2,.var 49 (kM [.f] (jt a1.bS)))],3⟩ ?_ ?_
 .refine gC Hj ?_ ?_<;>intro H
  .exact ai H
  refine aa H λr2 q2 H=>nG (ca (hF:=Ct q2)) ?_
  refine gC H ?_ ?_<;>intro H
  .exact ai H
  refine aa H λr3 q3 H=>nG (ca (hF:=zw q3)) ?_
  exact ai H
 refine cC H ?_ ?_<;>intro H
 .exact ao H
 refine iT H (λq=>⟨[(2,tP 0),(5,tP 2),(6,tI q)],[(0,.var 34 (kM [.f,.f,.f,.f,.f] (aU a0))),(2,.var 49 (kM [.f] (jt a1.bS)))],3⟩) ?_
 rintro v4 o H
 refine ad ?_
 refine cC H ?_ ?_<;>intro H
 .refine dI ?_
  refine aa H λx5 hx5 H=>dA (xdT (enc:=dr) hx5) ?_
  refine aa H λr6 q6 H=>dA (ca (hF:=D4 q6)) ?_
  refine wI ?_
  refine cC H ?_ ?_<;>intro H
  .exact aQ H
  exact aN H
 refine aR H λH=>?_
 refine aa H λx7 hx7 H=>nA (xdT (enc:=cS) hx7) ?_
 refine aa H λv8 Hj H=>jR ⟨[(2,tP 0),(5,tP 2),(7,tP 3),(44,tB v8)],[(0,.var 34 (kM [.f,.f,.f,.f,.f] (aU a0))),(2,.var 49 (kM [.f] (jt a1.bS))),(3,.var 93 (kM [.f,.f] (dt x7)))],4⟩ ?_ ?_
 .exact az Hj
 refine cC H ?_ ?_<;>intro H
 .refine aa H λv9 Hj H=>jR ⟨[(4,tB v9)],[],0⟩ ?_ ?_
  .refine gC Hj ?_ ?_<;>intro H
   .exact ai H
   refine gC H ?_ ?_<;>intro H
   .refine aa H λr10 q10 H=>nG (ca (hF:=zj q10)) ?_
    exact ai H
   exact ai H
  exact ao H
 refine cC H ?_ ?_<;>intro H
 .exact ao H
 refine cC H ?_ ?_<;>intro H
 .refine dI ?_
  refine aa H λx11 hx11 H=>dA (xdT (enc:=bU) hx11) ?_
  refine aa H λr12 q12 H=>dA (ca (hF:=D5 q12)) ?_
  refine wI ?_
  exact ao H
 refine aa H λr13 q13 H=>nA (ca (hF:=Bs q13)) ?_
 exact ao H
def xa (a0:bm) (a1:ah):Option (aD×bm):=
 abU (cI a0 8) λr1=>abU (cI r1.2 5) λr2=>abU (cI r2.2 3) λr3=>abU (cI r3.2 2) λr4=>abU (bif eqB (WR (1+r1.1)) 3 then(some (r4.2,(⟨WR (1+r1.1),r2.1,a1.bE,WR ((WR (a1.aT+r3.1))-r4.1),a1.aC.vT,cg,0⟩:aD))) else(abU (bif eqB (WR (1+r1.1)) 8 then(abU (cI r4.2 4) λr17=>abU (cI r17.2 2) λr18=>abU (Hi 0 (WR ((WR (a1.ax.bB-r17.1))+r18.1))) λr19=>some (r19,r18.2)) else(some (0,r4.2))) λ((v15,v16):Int×bm)=>some (v16,(⟨WR (1+r1.1),r2.1,a1.ag,WR ((WR (a1.aT+r3.1))-r4.1),v15,cg,0⟩:aD)))) λ((v10,v11):bm×aD)=>abU (jI a1.aV v11) λr20=>abU (cI v10 8) λr21=>abU (bif eqB r21.1 0 then(abU (Ab r21.2) λr38=>some (r38.2,{r20 with iM:=r38.1})) else(abU (bif eqB r21.1 1 then(some {r20 with bL:=WR (r20.bL+1)}) else(abU (bif eqB r21.1 2 then(some (WR (r20.ag+1))) else(some r20.ag)) λ(v42:Int)=>some {r20 with ag:=v42})) λ(v41:aD)=>some (r21.2,v41))) λ((v36,v37):bm×aD)=>some (v37,v36)
theorem Le {a0:bm} {a1:ah} {r:aD×bm} (H:xa a0 a1=some r):FnW prog 262 (.var 135 (kM [.f] (ci a0))) [tP 200,.v (.agg (kM [.f,.f,.f] (ct a1)))] (.var 135 (kM [.f] (ci r.2))) [.agg (qM [] (cP r.1))]:=by
 refine fW func262 ntmps262 ?_
 refine zI (hV 18) ?_
 refine aa H λr1 q1 H=>wA (cwx (o:=200) (cp q1)) ?_
 refine aa H λr2 q2 H=>wA (cwx (o:=200) (cp q2)) ?_
 refine aa H λr3 q3 H=>wA (cwx (o:=200) (cp q3)) ?_
 refine aa H λr4 q4 H=>wA (cwx (o:=200) (cp q4)) ?_
 refine wA (spx 100324) ?_
 obtain⟨⟨v10,v11⟩,Hj,H⟩:=ob H
 refine jA ⟨[(0,tP 200),(3,tP 210),(4,tP 211),(5,tP 212)],[(200,.var 135 (kM [.f] (ci v10))),(210,.var 75 (kM [.f,.f,.f] (ct a1))),(211,.var 43 (kM [] (cP dQ))),(212,.var 43 (kM [] (cP v11)))],213⟩ ?_ ?_
 .refine cC Hj ?_ ?_<;>intro H
  .exact ai H
  obtain⟨⟨v15,v16⟩,Hj,H⟩:=ob H
  refine jA ⟨[(0,tP 200),(3,tP 210),(4,tP 211),(5,tP 212)],[(200,.var 135 (kM [.f] (ci v16))),(210,.var 75 (kM [.f,.f,.f] (ct a1))),(211,.var 43 (kM [] (cP dQ))),(212,.var 43 (kM [] (cP (⟨WR (1+r1.1),r2.1,a1.ag,WR ((WR (a1.aT+r3.1))-r4.1),v15,cg,0⟩:aD))))],213⟩ ?_ ?_
  .refine cC Hj ?_ ?_<;>intro H
   .refine zI (hV 12) ?_
    refine aa H λr17 q17 H=>wA (cwx (o:=200) (cp q17)) ?_
    refine aa H λr18 q18 H=>wA (cwx (o:=200) (cp q18)) ?_
    refine aa H λr19 q19 H=>zA (ca (hF:=DL q19)) ?_
    refine wA (spx 100323) ?_
    exact ai H
   exact ai H
  exact ai H
 refine aa H λr20 q20 H=>nA (ca (hF:=mC q20)) ?_
 refine aa H λr21 q21 H=>sA (cw (o:=200) (cp q21)) ?_
 obtain⟨⟨v36,v37⟩,Hj,H⟩:=ob H
 refine jA ⟨[(4,tP 211),(5,tP 212)],[(200,.var 135 (kM [.f] (ci v36))),(211,.var 43 (kM [] (cP dQ))),(212,.var 43 (kM [] (cP v37)))],213⟩ ?_ ?_
 .refine cC Hj ?_ ?_<;>intro H
  .refine aa H λr38 q38 H=>sA (cw (o:=200) (D6 q38)) ?_
   exact ai H
  refine aa H λv41 Hj H=>jA ⟨[(4,tP 211),(5,tP 212)],[(200,.var 135 (kM [.f] (ci r21.2))),(211,.var 43 (kM [] (cP dQ))),(212,.var 43 (kM [] (cP v41)))],213⟩ ?_ ?_
  .refine cC Hj ?_ ?_<;>intro H
   .exact ai H
   refine aa H λv42 Hj H=>jA ⟨[(4,tP 211),(5,tP 212)],[(200,.var 135 (kM [.f] (ci r21.2))),(211,.var 43 (kM [] (cP dQ))),(212,.var 43 (kM [] (cP {r20 with ag:=v42})))],213⟩ ?_ ?_
   .exact az Hj
   exact ai H
  exact ai H
 cases H
 exact f4
def vN (a0:aJ):Option aD:=
 abU (jI a0.aV (⟨5,a0.be,a0.ag,a0.aT,0,cg,0⟩:aD)) λr1=>some r1
theorem Bq {a0:aJ} {r:aD} (H:vN a0=some r):Fn prog 319 [.agg (cS a0)] [.agg (qM [] (cP r))]:=by
 refine fI func319 ntmps319 ?_
 refine aa H λr1 q1 H=>nA (ca (hF:=mC q1)) ?_
 exact ao H
def uc (a0:aJ):Option a9:=
 abU (kv a0) λr1=>bif ltB 0 a0.eU then(some (⟨{r1 with eU:=WR (a0.eU-1)},([]:List aD)⟩:a9)) else(bif eqB a0.bj 1 then(abU (s4 a0) λr2=>abU (mH r1 r2) λr3=>some r3) else(abU (bif eqB a0.bj 2 then(some (!a0.cj)) else(some false)) λ(v4:Bool)=>bif v4 then(abU (vN a0) λr5=>abU (mH r1 r5) λr6=>some r6) else(some (⟨r1,([]:List aD)⟩:a9))))
theorem IA {a0:aJ} {r:a9} (H:uc a0=some r):Fn prog 264 [.agg (cS a0)] [.agg (qM [.d,.d,.o] (cf r))]:=by
 refine fI func264 ntmps264 ?_
 refine aa H λr1 q1 H=>nA (ca (hF:=jV q1)) ?_
 refine cC H ?_ ?_<;>intro H
 .cases H
  refine du (wB 5 (([]:List aD).length)) ?_
  refine du (bb (o:=2)) ?_
  refine du (bb (o:=3)) ?_
  refine du (cL (o:=1)) ?_
  exact dW
 refine cC H ?_ ?_<;>intro H
 .refine zI (hV 5) ?_
  refine aa H λr2 q2 H=>zA (ca (hF:=CP q2)) ?_
  refine aa H λr3 q3 H=>zB (aq (bb (o:=2)) (aq (bb (o:=3)) (b7 (k:=18)))) (gG rfl (cwu [] [(210,5)] 6 (FnV.up (s6 q3) rfl rfl))) b8 ?_
  refine wA (spx 100333) ?_
  exact ao H
 refine aa H λv4 Hj H=>jR ⟨[(1,tP 0),(2,tP 1),(3,tP 4),(22,tB v4)],(oM [.w 2,.w 3] 4 93 (dt r1)++[(0,.var 93 (kM [.f,.f] (dt a0))),(1,.var 189 (kM [.z,.z,.z] (cf dZ)))]),5⟩ ?_ ?_
 .exact az Hj
 refine cC H ?_ ?_<;>intro H
 .refine zI (hV 5) ?_
  refine aa H λr5 q5 H=>zA (ca (hF:=Bq q5)) ?_
  refine aa H λr6 q6 H=>zB (aq (bb (o:=2)) (aq (bb (o:=3)) (b7 (k:=31)))) (gG rfl (cwu [] [(210,5)] 6 (FnV.up (s6 q6) rfl rfl))) b8 ?_
  refine wA (spx 100334) ?_
  exact ao H
 cases H
 refine du (wB 5 (([]:List aD).length)) ?_
 refine du (bb (o:=2)) ?_
 refine du (bb (o:=3)) ?_
 refine du (cL (o:=1)) ?_
 exact dW
def zt (a0:ah) (a1:ae):Option aA:=
 abU (sW a0.aV a0.ag a0.aT a1) λr1=>some r1
theorem HK {a1:ae} {r:aA} (H:zt a0 a1=some r):Fn prog 347 [.agg (bU a0),.agg (an a1)] [.agg (qM [.o] (jd r))]:=by
 refine fI func347 ntmps347 ?_
 refine aa H λr1 q1 H=>nA (ca (hF:=Cy q1)) ?_
 exact ao H
def jG (a0:ah):(Int×List aA)->Option (cq (Int×List aA) (List aA))
 |(v1,v2)=>abU (bif ltB v1 (a0.ax.aw.length:Int) then(bif ltB v1 2 then(some (eqB a0.bj 1)) else(some false)) else(some false)) λ(v7:Bool)=>bif v7 then(abU (ix a0.ax.aw v1) λx8=>abU (zt a0 x8) λr9=>bif c8 64 (v2++[r9]).length then(some (.next (WR (v1+1),(v2++[r9])))) else none) else(some (.done v2))
def nD (a0:ah):Option (List aA):=
 abU (iter (jG a0) FU (0,([]:List aA))) λ(v6:List aA)=>some v6
theorem AK {r:List aA} (H:nD a0=some r):Fn prog 324 [.agg (bU a0)] [.c (.own 47 6 (r.map dH) r.length)]:=by
 refine fI func324 ntmps324 ?_
 refine aa H λv6 Hj H=>jB ⟨[(3,.v (.c (.w 1 v6.length)))],[(1,w47 v6)],2⟩ ?_ ?_
 .refine iT Hj (λq=>⟨[(1,tP 0),(3,.v (.c (.w 1 q.2.length))),(4,tI q.1)],[(0,.var 75 (kM [.f,.f,.f] (ct a0))),(1,w47 q.2)],2⟩) ?_
  rintro⟨v1,v2⟩ o H
  refine ad ?_
  refine aa H λv7 Hj H=>jR ⟨[(1,tP 0),(3,.v (.c (.w 1 v2.length))),(4,tI v1),(20,tB v7)],[(0,.var 75 (kM [.f,.f,.f] (ct a0))),(1,w47 v2)],2⟩ ?_ ?_
  .exact az Hj
  refine cC H ?_ ?_<;>intro H
  .refine zI (hV 12) ?_
   refine aa H λx8 hx8 H=>zA (xdT (enc:=an) hx8) ?_
   refine aa H λr9 q9 H=>zA (ca (hF:=(HK q9).frzs (by repeat (first|exact trivial|refine⟨?_,?_⟩|exact lm _|rfl)))) ?_
   obtain⟨h,H⟩:=rq H
   refine wA (apx (enc:=dH) (ys:=v2) (zs:=[r9]) [1,2] h) ?_
   refine mK (ds:=[1]) (by kernel_rfl) (by kernel_rfl) rfl ?_
   refine wI ?_
   cases H
   refine uQ ?_
   refine aq (wS 1 3) ?_
   exact wo
  exact aE H
 exact ao H
def ua (a0:ah):(Int×bZ)->Option (cq (Int×bZ) (bZ))
 |(v3,v39)=>abU (bif ltB v3 2 then(bif leB v39.aZ.ax.bB (a0.aM.length:Int) then(some (ltB (v39.aZ.ax.aw.length:Int) 8)) else(some false)) else(some false)) λ(v40:Bool)=>bif v40 then(abU (ix a0.aM (WR (v39.aZ.ax.bB-1))) λx41=>abU (rG v39.aZ v39.eL (x41.bg.length:Int)) λr42=>abU (oR r42.1 (x41.bg.length:Int)) λr43=>bif ltB 0 r43 then(dn (some {v39 with aZ:=r42.1,eL:=r42.2})) else(abU (qs r42.1.ax x41.bg) λr44=>bif r44.2.2 then(abU (zt a0 r44.2.1) λr45=>bif c8 64 (v39.cz++[r45]).length then(some (.next (WR (v3+1),(⟨{r42.1 with ax:=r44.1},r42.2,v39.kF,(v39.cz++[r45])⟩:bZ)))) else none) else(dn (some {v39 with aZ:=r42.1,eL:=r42.2})))) else(dn (some v39))
def zi (a0:ah) (a1:am):Option bZ:=
 abU (s8 a0 a1) λr1=>abU (zp a0) λr2=>bif r2 then(some r1) else(iter (ua a0) FU (0,r1))
theorem Hr {a1:am} {r:bZ} (H:zi a0 a1=some r):Fn prog 325 [.agg (bU a0),.agg (cN a1)] [.agg (qM [.o,.o,.o,.o,.o,.o] (cY r))]:=by
 refine fI func325 ntmps325 ?_
 refine aa H λr1 q1 H=>nA (ca (hF:=Br q1)) ?_
 refine aa H λr2 q2 H=>nA (ca (hF:=HI q2)) ?_
 refine cC H ?_ ?_<;>intro H
 .exact ao H
 refine iT H (λq=>⟨[(2,tP 0),(4,tP 2),(5,tP 9),(6,tI q.1)],(oM [.w 3,.w 4,.w 5,.w 6,.w 7,.w 8] 9 195 (cY q.2)++[(0,.var 75 (kM [.f,.f,.f] (ct a0))),(2,.var 195 (kM [.z,.z,.z,.z,.z,.z] (cY dw)))]),10⟩) ?_
 rintro⟨v3,v39⟩ o H
 refine ad ?_
 refine aa H λv40 Hj H=>jR ⟨[(2,tP 0),(4,tP 2),(5,tP 9),(6,tI v3),(38,tB v40)],(oM [.w 3,.w 4,.w 5,.w 6,.w 7,.w 8] 9 195 (cY v39)++[(0,.var 75 (kM [.f,.f,.f] (ct a0))),(2,.var 195 (kM [.z,.z,.z,.z,.z,.z] (cY dw)))]),10⟩ ?_ ?_
 .exact az Hj
 refine cC H ?_ ?_<;>intro H
 .refine aa H λx41 hx41 H=>nA (xdT (enc:=da) hx41) ?_
  refine aa H λr42 q42 H=>nA (ca (hF:=Hh q42)) ?_
  refine aa H λr43 q43 H=>nA (ca (hF:=y8 q43)) ?_
  refine cC H ?_ ?_<;>intro H
  .exact aQ H
  obtain⟨r44,q44,H⟩:=ob H
  rcases hb:r44.2.2 with _|_
  .have H:=bf hb H
   refine xr rfl (ca (hF:=Hs q44 hb)) ?_
   simp only[hb]
   refine wI ?_
   exact aQ H
  have H:=bt hb H
  refine xr rfl (ca (hF:=Ht q44 hb)) ?_
  simp only[hb]
  refine wI ?_
  refine zI (hV 9) ?_
  refine aa H λr45 q45 H=>zA (ca (hF:=(HK q45).frzs (by repeat (first|exact trivial|refine⟨?_,?_⟩|exact lm _|rfl)))) ?_
  obtain⟨h,H⟩:=rq H
  refine zB b8 (gG rfl (apT (enc:=dH) (ys:=v39.cz) (zs:=[r45]) h)) b8 ?_
  refine wA (spx 100400) ?_
  cases H
  refine uQ ?_
  refine aq (wS 3 10) ?_
  refine aq (wS 4 11) ?_
  refine aq (wS 5 16) ?_
  refine aq (wS 6 13) ?_
  exact wo
 exact aQ H
def s7 (a0:ah) (a1:Int):Option bI:=
 abU (jI a0.aV (⟨a1,a0.be,a0.ag,a0.aT,0,cg,0⟩:aD)) λr1=>some (⟨a0,[r1]⟩:bI)
theorem CQ {a1:Int} {r:bI} (H:s7 a0 a1=some r):FnV prog 369 [] [.v (.agg (kM [.f,.f,.f] (ct a0))),tI a1] [] (.v (.agg (kM [.f,.f,.f,.w 210] (cK r)))) [(210,w43 r.db)]:=by
 refine fV func369 ntmps369 ?_
 refine zI (hV 8) ?_
 refine aa H λr1 q1 H=>zA (ca (hF:=mC q1)) ?_
 refine wA (spx 100420) ?_
 cases H
 refine co (wS 213 210) ?_
 refine co ((wB 210 [r1].length)) ?_
 exact cd
def vO (a0:ah) (a1:aD):Option Bool:=
 abU (bif eqB a0.bj 1 then(bif eqB a1.ag a0.ag then(abU (it a0.aV a1) λr2=>some r2) else(some false)) else(some false)) λ(v1:Bool)=>some v1
theorem ED {a1:aD} {r:Bool} (H:vO a0 a1=some r):Fn prog 370 [.agg (bU a0),.agg (c9 a1)] [.c (.d (.b r))]:=by
 refine fI func370 ntmps370 ?_
 refine aa H λv1 Hj H=>jR ⟨[(4,tB v1)],[],0⟩ ?_ ?_
 .refine gC Hj ?_ ?_<;>intro H
  .refine gC H ?_ ?_<;>intro H
   .refine aa H λr2 q2 H=>nG (ca (hF:=ku q2)) ?_
    exact ai H
   exact ai H
  exact ai H
 exact ao H
def wW (a0:Int) (a1:Int) (a2:Int) (a3:aA):Option (ae×Bool):=
 abU (bif !eqB a3.ag a1 then(some true) else(bif !eqB a3.aT a2 then(some true) else(abU (o3 a0 a3) λr2=>some (!r2)))) λ(v1:Bool)=>bif v1 then(some (bP,false)) else(abU (rX a0 a2) λr3=>abU (Bk r3 1 0 a3.bz) λr4=>some ((⟨r4.2.1,r4.1⟩:ae),r4.2.2))
theorem K4 {a0:Int} {a1:Int} {a2:Int} {a3:aA} {r:ae×Bool} (H:wW a0 a1 a2 a3=some r):Fn prog 357 [aI a0,aI a1,aI a2,.agg (dH a3)] [.agg (qM [.d] (di r.1)),.c (.d (.b r.2))]:=by
 refine fI func357 ntmps357 ?_
 refine aa H λv1 Hj H=>jR ⟨[(0,tI a0),(2,tI a2),(7,tP 0),(8,tP 1),(28,tB v1)],[(0,.var 47 (kM [.f] (jd a3))),(1,.var 131 (kM [.z] (di bP)))],2⟩ ?_ ?_
 .refine gC Hj ?_ ?_<;>intro H
  .exact ai H
  refine gC H ?_ ?_<;>intro H
  .exact ai H
  refine aa H λr2 q2 H=>nG (ca (hF:=zj q2)) ?_
  exact ai H
 refine cC H ?_ ?_<;>intro H
 .cases H
  refine du (NI (o:=1)) ?_
  exact dW
 refine dI ?_
 refine aa H λr3 q3 H=>dA (ca (hF:=y9 q3)) ?_
 refine aa H λr4 q4 H=>dA (ca (hF:=K5 q4)) ?_
 refine wI ?_
 cases H
 refine du (bb (o:=2)) ?_
 refine du (cL (o:=1)) ?_
 exact dW
def z7 (a0:aJ) (a1:aD):Option a9:=
 abU (mg a0.df a1.bW) λr1=>abU (kv a0) λr2=>bif !eqB r1.2.Code 0 then(some (⟨r2,([]:List aD)⟩:a9)) else(some (⟨{r2 with df:=r1.1,ag:=a1.ag,aV:=r1.2.vU},[(⟨3,a0.be,a1.ag,0,r1.2.vT,cg,0⟩:aD)]⟩:a9))
theorem No {a0:aJ} {a1:aD} {r:a9} (H:z7 a0 a1=some r):Fn prog 359 [.agg (cS a0),.agg (c9 a1)] [.agg (qM [.o,.o,.o] (cf r))]:=by
 refine fI func359 ntmps359 ?_
 refine aa H λr1 q1 H=>nA (ca (hF:=xS q1)) ?_
 refine aa H λr2 q2 H=>nA (ca (hF:=jV q2)) ?_
 refine cC H ?_ ?_<;>intro H
 .cases H
  refine du (wB 8 (([]:List aD).length)) ?_
  exact dW
 cases H
 refine du (wB 8 ([(⟨3,a0.be,a1.ag,0,r1.2.vT,cg,0⟩:aD)].length)) ?_
 exact dW
end Go.AM
