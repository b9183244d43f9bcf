/- A part. -/
import Derived.Test.YtmginjngmidkbaaGreatS3
import Derived.Test.YtmginjngmidkbaaGreatS4
set_option linter.unusedVariables false
open Option renaming bind->abU
open Int renaming tmod->abV
open List renaming range->f4,cons_ne_nil->abW
namespace Go.AM
open Go.Proofs
open Tryz
attribute [local irreducible] AWN NS AWO AWR AWC DR DZ dS gp iter
set_option maxRecDepth 100000
set_option maxHeartbeats 40000000
variable {a0 a1 r:Int}
def o3 (a0:aS) (a1:List aO) (a2:bP) (a3:Int):(Int×List am×List ah×List aJ)->Option (ct (Int×List am×List ah×List aJ) (List am×List ah×List aJ))
 |(v6,v7,v8,v9)=>bif ltB v6 (a1.length:Int) then(abU (ix a1 v6) λx17=>bif !eqB (a0.a8.length:Int) 0 then(abU (wE (⟨x17.ID,x17.fo,x17.c8⟩:lC) (abV v6 (a0.a8.length:Int))) λr18=>bif da 144 (v9++[{r18 with bY:={de with bB:=r18.bY.bB}}]).length then(abU (ui x17 a2 v6) λr19=>bif da 288 (v8++[{r19 with aG:=[],aw:=(⟨r19.aw.bB,[]⟩:a9)}]).length then(abU (ug a3) λr20=>bif da 48 (v7++[{r20 with aj:=[]}]).length then(some (.next (WR (v6+1),(v7++[{r20 with aj:=[]}]),(v8++[{r19 with aG:=[],aw:=(⟨r19.aw.bB,[]⟩:a9)}]),(v9++[{r18 with bY:={de with bB:=r18.bY.bB}}])))) else none) else none) else none) else none) else(some (.done (v7,v8,v9)))
def uh (a0:aS) (a1:List aO) (a2:bP) (a3:Int):Option ab:=
 abU (qF a0) λr1=>abU (bif !r1 then(some true) else(abU (gX a2) λr3=>bif !r3 then(some true) else(abU (uy a1) λr4=>some (!r4)))) λ(v2:Bool)=>bif v2 then(some {dV with ei:=(⟨[]⟩:aS)}) else(abU (qI a0) λr5=>abU (iter (o3 a0 a1 a2 a3) FU (0,([]:List am),([]:List ah),([]:List aJ))) λ((v14,v15,v16):List am×List ah×List aJ)=>some (⟨r5,v16,v15,v14,[],0,(⟨2,3⟩:bH),0,0⟩:ab))
theorem zM {a0:aS} {a1:List aO} {a2:bP} {a3:Int} {r:ab} (H:uh a0 a1 a2 a3=some r):FnV prog 175 [] [.v (.agg [.d false (.l (a0.a8.map dK))]),.v (.c (.d false (.l (a1.map dO)))),.v (.agg (kM [.f] (eN a2))),tI a3] [] (.v (.agg (kM [.n 210,.n 211,.n 212,.n 213,.z] (bw {r with aT:=[]})))) [(210,Ri r.ei.a8),(211,n93 r.av),(212,n75 r.aF),(213,n57 r.bk)]:=by
 refine fV func175 ntmps175 ?_
 refine aa H λr1 q1 H=>nA (ca (hF:=Hb.h q1)) ?_
 refine aa H λv2 Hj H=>jR ⟨[(1,.v (.c (.d false (.l (a1.map dO))))),(3,tI a3),(4,tP 210),(6,tP 211),(8,tP 212),(24,tB v2)],[(210,.var 26 [.d false (.l (a0.a8.map dK))]),(211,.var 65 (kM [.f] (eN a2))),(212,.var 34 (kM [.z,.z,.z,.z,.z] (bw {dV with ei:=(⟨[]⟩:aS)})))],213⟩ ?_ ?_
 .refine gC Hj ?_ ?_<;>intro H
  .exact ai H
  refine aa H λr3 q3 H=>nG (ca (hF:=wz.h q3)) ?_
  refine gC H ?_ ?_<;>intro H
  .exact ai H
  refine aa H λr4 q4 H=>nG (ca (hF:=Hk.h q4)) ?_
  exact ai H
 refine cC H ?_ ?_<;>intro H
 .cases H
  refine bF ((dH (o:=212) (j:=0) 147 2 true)) ?_
  refine bF ((dH (o:=212) (j:=1) 93 14 true)) ?_
  refine bF ((dH (o:=212) (j:=2) 75 30 true)) ?_
  refine bF ((dH (o:=212) (j:=3) 57 4 true)) ?_
  refine bF (wS 213 210) ?_
  refine bF (wS 214 211) ?_
  refine bF (wS 215 212) ?_
  refine bF (wS 216 213) ?_
  refine bF ((wB 210 (([]:List fy).length))) ?_
  refine bF ((wB 211 (([]:List aJ).length))) ?_
  refine bF ((wB 212 (([]:List ah).length))) ?_
  refine bF ((wB 213 (([]:List am).length))) ?_
  exact cg
 refine aa H λr5 q5 H=>sA (cwv [] [(210,213)] 214 (Od q5)) ?_
 obtain⟨⟨v14,v15,v16⟩,Hj,H⟩:=ob H
 refine jB ⟨[(8,tP 212),(9,tP 214)],(oM [.n 213,.n 215,.n 216,.n 217,.z] 214 34 (bw (⟨r5,v16,v15,v14,[],0,(⟨2,3⟩:bH),0,0⟩:ab))++[(212,.var 34 (kM [.z,.z,.z,.z,.z] (bw {dV with ei:=(⟨[]⟩:aS)})))]),218⟩ ?_ ?_
 .refine iT Hj (λq=>⟨[(1,.v (.c (.d false (.l (a1.map dO))))),(3,tI a3),(4,tP 210),(6,tP 211),(8,tP 212),(9,tP 214),(10,tI q.1)],(oM [.n 213,.n 215,.n 216,.n 217,.z] 214 34 (bw (⟨r5,q.2.2.2,q.2.2.1,q.2.1,[],0,(⟨2,3⟩:bH),0,0⟩:ab))++[(210,.var 26 [.d false (.l (a0.a8.map dK))]),(211,.var 65 (kM [.f] (eN a2))),(212,.var 34 (kM [.z,.z,.z,.z,.z] (bw {dV with ei:=(⟨[]⟩:aS)})))]),218⟩) ?_ (by refine an (dH (o:=214) (j:=1) 93 14 true) ?_;refine an (dH (o:=214) (j:=2) 75 30 true) ?_;refine an (dH (o:=214) (j:=3) 57 4 true) ?_;refine an (wB 215 (([]:List aJ).length)) ?_;refine an (wB 216 (([]:List ah).length)) ?_;refine an (wB 217 (([]:List am).length)) ?_;exact wo)
  rintro⟨v6,v7,v8,v9⟩ o H
  refine ad ?_
  refine cC H ?_ ?_<;>intro H
  .refine aa H λx17 hx17 H=>nA (xdT (enc:=dO) hx17) ?_
   refine zI (f4 19) ?_
   obtain⟨h,H⟩:=rq H
   refine zA (ir rfl rfl rfl (ne0 h)) ?_
   refine aa H λr18 q18 H=>zA (ca (hF:=J8.h q18)) ?_
   obtain⟨h,H⟩:=rq H
   refine zB bK (fQ rfl (AJ (enc:=c9) (ys:=v9) (zs:=[{r18 with bY:={de with bB:=r18.bY.bB}}]) h (by first|exact abW _ _|simp) rfl (λ_=>rfl) (by first|rfl|simp) (.w rfl (by first|rfl|exact lm _|simp)) rfl rfl rfl rfl rfl rfl rfl rfl rfl rfl)) bK ?_
   refine wA (spx 100072) ?_
   refine zI (f4 10) ?_
   refine aa H λr19 q19 H=>zA (ca (hF:=(Hg.h q19).frzs (by repeat (first|exact trivial|refine⟨?_,?_⟩|exact lm _|rfl)))) ?_
   obtain⟨h,H⟩:=rq H
   refine zB bK (fQ rfl (AJ (enc:=bZ) (ys:=v8) (zs:=[{r19 with aG:=[],aw:=(⟨r19.aw.bB,[]⟩:a9)}]) h (by first|exact abW _ _|simp) rfl (λ_=>rfl) (by first|rfl|simp) (.w rfl (by first|rfl|exact lm _|simp)) rfl rfl rfl rfl rfl rfl rfl rfl rfl rfl)) bK ?_
   refine wA (spx 100071) ?_
   refine zI (f4 8) ?_
   refine aa H λr20 q20 H=>zA (ca (hF:=Hf.h q20)) ?_
   obtain⟨h,H⟩:=rq H
   refine zB bK (fQ rfl (AJ (enc:=cT) (ys:=v7) (zs:=[{r20 with aj:=[]}]) h (by first|exact abW _ _|simp) rfl (λ_=>rfl) (by first|rfl|simp) (.w rfl (by first|rfl|exact lm _|simp)) rfl rfl rfl rfl rfl rfl rfl rfl rfl rfl)) bK ?_
   refine wA (spx 100070) ?_
   cases H
   refine tD ?_
   refine an (ec 215) ?_
   refine an (ec 216) ?_
   refine an (ec 217) ?_
   exact wo
  exact aE H
 cases H
 refine bF (wS 213 210) ?_
 refine bF (wS 215 211) ?_
 refine bF (wS 216 212) ?_
 refine bF (wS 217 213) ?_
 exact cg
def yp (a0:aJ):Option aY:=
 bif !eqB a0.bi 0 then(abU (th a0) λr1=>some r1) else(abU (kS a0) λr2=>abU (tg a0) λr3=>abU (nj {r2 with bi:=1} r3) λr4=>some r4)
instance FX {a0:aJ} {r:aY}:FC prog (yp a0=some r) 181 [.agg (c9 a0)] [.agg (qM [.d,.d,.o] (cd r))]:=⟨λH=>by
 refine fI func181 ntmps181 ?_
 refine cC H ?_ ?_<;>intro H
 .refine aa H λr1 q1 H=>nA (ca (hF:=wO.h q1)) ?_
  cases H
  refine dR (aV (o:=2)) ?_
  refine dR (aV (o:=3)) ?_
  refine dR (cz (o:=1)) ?_
  exact bX
 refine aa H λr2 q2 H=>nA (ca (hF:=nT.h q2)) ?_
 refine zI (f4 5) ?_
 refine aa H λr3 q3 H=>zA (ca (hF:=BP.h q3)) ?_
 refine aa H λr4 q4 H=>zB (an (aV (o:=2)) (an (aV (o:=3)) (bN (k:=12)))) (fQ rfl (cwu [] [(210,5)] 6 (FnV.up (ti q4) rfl rfl))) bK ?_
 refine wA (spx 100080) ?_
 cases H
 exact bX⟩
def kP (a0:ah):Option Bool:=
 abU (bif eqB a0.bi 1 then(abU (iA a0.aZ) λr2=>bif !r2 then(some true) else(bif ltB 0 a0.bL then(abU (iA a0.aK.fo) λr3=>bif !r3 then(some true) else(abU (du a0.bi 0 1) λr4=>some (!r4))) else(abU (du a0.bi 0 1) λr5=>some (!r5)))) else(bif ltB 0 a0.bL then(abU (iA a0.aK.fo) λr6=>bif !r6 then(some true) else(abU (du a0.bi 0 1) λr7=>some (!r7))) else(abU (du a0.bi 0 1) λr8=>some (!r8)))) λ(v1:Bool)=>bif v1 then(some false) else(abU (eR a0.bE) λr9=>abU (bif !r9 then(some true) else(abU (gX a0.gG) λr11=>bif !r11 then(some true) else(abU (oY a0.gr) λr12=>bif !r12 then(some true) else(abU (iB a0.bU) λr13=>bif !r13 then(some true) else(abU (wT a0) λr14=>some (!r14)))))) λ(v10:Bool)=>bif v10 then(some false) else(abU (du a0.bL 0 999999) λr15=>abU (bif !r15 then(some true) else(abU (du a0.ag 0 999999) λr17=>bif !r17 then(some true) else(abU (du a0.aX 0 999999) λr18=>bif !r18 then(some true) else(abU (du a0.aZ 0 2147483646) λr19=>some (!r19))))) λ(v16:Bool)=>bif v16 then(some false) else(abU (du a0.bg 0 5) λr20=>abU (bif r20 then(abU (du a0.dX 0 5) λr22=>bif r22 then(abU (du a0.dP 0 3) λr23=>some r23) else(some false)) else(some false)) λ(v21:Bool)=>some v21)))
instance Qd {a0:ah} {r:Bool}:FC prog (kP a0=some r) 204 [.agg (bZ a0)] [.c (.d (.b r))]:=gF func204 ntmps204 (hb 6 29) (hb 34 56) (hb 61 78) (hb 82 2)
def CI (a0:Int) (a1:bv):Option Int:=
 abU (rK a1.bb) λr1=>bif da 8 ([a1.cY,a1.fU]++r1).length then(abU (fk a0 ([a1.cY,a1.fU]++r1)) λr2=>some r2) else none
instance sl8Mac_c {a1:bv} :FC prog (CI a0 a1=some r) 208 [aI a0,.agg (eQ a1)] [.c (.d (.i .i64 r))]:=⟨λH=>by
 refine fI func208 ntmps208 ?_
 refine zI (f4 12) ?_
 refine aa H λr1 q1 H=>zA (ca (hF:=FK.h q1)) ?_
 obtain⟨h,H⟩:=rq H
 refine wA (GI (enc:=eI) (ys:=[a1.cY,a1.fU]) (zs:=r1) [1,2] h) ?_
 refine aa H λr2 q2 H=>zA (ca (hF:=wC.h q2)) ?_
 refine nn (ds:=[1]) (by kernel_rfl) (by kernel_rfl) rfl ?_
 refine wI ?_
 cases H
 exact bX⟩
def pT (a0:Int) (a1:Int):Option Int:=
 abU (fk a0 [9,a1]) λr1=>abU (FQ 1 r1) λr2=>some r2
instance Yc:FC prog (pT a0 a1=some r) 290 [aI a0,aI a1] [.c (.d (.i .i64 r))]:=gF func290 ntmps290
def m9 (a0:Int) (a1:Int):Option Int:=
 abU (fk a0 [1,a1]) λr1=>abU (Hc r1 1000000) λr2=>some r2
instance SO:FC prog (m9 a0 a1=some r) 293 [aI a0,aI a1] [.c (.d (.i .i64 r))]:=gF func293 ntmps293
def ym (a0:Int) (a1:List Int):(Int×List Int)->Option (ct (Int×List Int) (List Int))
 |(v1,v2)=>bif ltB v1 (a1.length:Int) then(abU (ix a1 v1) λx6=>abU (fk a0 [v1]) λr7=>bif da 1 (v2++[IntKind.u8.wrap (abV (WR ((WR (x6))+(abV r7 256))) 256)]).length then(some (.next (WR (v1+1),(v2++[IntKind.u8.wrap (abV (WR ((WR (x6))+(abV r7 256))) 256)])))) else none) else(some (.done v2))
def BC (a0:Int) (a1:List Int):Option (List Int):=
 abU (iter (ym a0 a1) FU (0,([]:List Int))) λ(v5:List Int)=>some v5
instance sEncrypt_c {a1:List Int} {r:List Int}:FC prog (BC a0 a1=some r) 342 [aI a0,aL (a1.map eU8)] [.c (.own 5 1 (r.map eU8) r.length)]:=⟨λH=>by
 refine fI func342 ntmps342 ?_
 refine aa H λv5 Hj H=>jB ⟨[(5,.v (.c (.w 0 v5.length)))],[(0,w5 v5)],1⟩ ?_ ?_
 .refine iT Hj (λq=>⟨[(0,tI a0),(1,.v (.c (.d false (.l (a1.map eU8))))),(5,.v (.c (.w 0 q.2.length))),(6,tI q.1)],[(0,w5 q.2)],1⟩) ?_
  rintro⟨v1,v2⟩ o H
  refine ad ?_
  refine cC H ?_ ?_<;>intro H
  .refine qS [0,1,2,3,4,5,6,7,8,9,10,11,12,13,14,15,16] (h:=?_)
   refine wkb ?_
   refine aa H λx6 hx6 H=>jP rfl (xdT (enc:=eU8) hx6) ?_
   refine wkb ?_
   refine Cc rfl (bsx (bs rfl rfl rfl rfl rfl rfl rfl rfl) rfl) ?_
   refine wkb ?_
   refine aa H λr7 q7 H=>jP rfl (ca (hF:=wC.h q7)) ?_
   refine wkb ?_
   refine jP rfl (ir rfl rfl rfl (by decide)) ?_
   refine wkb ?_
   refine jP rfl (ir rfl rfl rfl (by decide)) ?_
   refine wkb ?_
   refine jP rfl (bs rfl rfl rfl rfl rfl rfl rfl rfl) ?_
   refine wkb ?_
   obtain⟨h,H⟩:=rq H
   refine Cc rfl (GI (enc:=eU8) (ys:=v2) (zs:=[IntKind.u8.wrap (abV (WR ((WR (x6))+(abV r7 256))) 256)]) [0,2] h) ?_
   refine wkb ?_
   refine nn (ds:=[0]) (by kernel_rfl) (by kernel_rfl) rfl ?_
   refine wI ?_
   cases H
   refine tD ?_
   refine an (wS 0 3) ?_
   exact wo
  exact aE H
 cases H
 exact bX⟩
def lU (a0:dw) (a1:Int):Option Int:=
 abU (fk 29 [a0.dZ,a0.bW,a1]) λr1=>some r1
instance Cy {a0:dw} :FC prog (lU a0 a1=some r) 315 [.agg (om a0),aI a1] [.c (.d (.i .i64 r))]:=gF func315 ntmps315
def jx (a0:ab) (a1:Int) (a2:aY):Option ab:=
 abU (ix a0.av a1) λx1=>abU (ma {a0 with av:=(a0.av.set (a1).toNat a2.bm)} a1 true a2.dE) λr2=>some r2
theorem pu {a0:ab} {a2:aY} {r:ab} (H:jx a0 a1 a2=some r):FnV prog 263 (nS a0) [tP 200,tI a1,.v (.agg (kM [.t,.t,.t] (cd a2)))] (nS r) (.tup []) []:=by
 refine fV func263 ntmps263 ?_
 refine zI (f4 9) ?_
 refine aa H λx1 hx1 H=>zA (qN hx1) ?_
 refine zB (mc 190 (hne:=xW (enc:=c9) hx1)) (fQ rfl (soT (enc:=c9) (a':=a2.bm) hx1)) bK ?_
 refine aa H λr2 q2 H=>bG (ec 190) ?_
 refine bG (wB 190 ((a0.av.set (a1).toNat a2.bm).length)) ?_
 refine sA (cwu m0 [] 211 (uV q2)) ?_
 cases H
 exact mO
def Dh (r5:cN×List Int):(Int×List aH)->Option (ct (Int×List aH) (List aH))
 |(v6,v7)=>bif ltB v6 (r5.2.length:Int) then(abU (ix r5.2 v6) λx10=>bif da 88 (v7++[{dQ with bh:=7,bg:=x10}]).length then(some (.next (WR (v6+1),(v7++[{dQ with bh:=7,bg:=x10}])))) else none) else(some (.done v7))
def yz (a0:ah) (a1:am) (a2:aS):Option bM:=
 abU (tk a0 a1) λr1=>abU (du a0.bg 0 (WR ((a2.a8.length:Int)-1))) λr2=>abU (bif r2 then(abU (ix a2.a8 a0.bg) λx4=>some x4.f6) else(some 0)) λ(v3:Int)=>abU (um {a0.gr with f6:=v3} a2) λr5=>abU (iter (Dh r5) FU (0,r1.ja)) λ(v9:List aH)=>some {r1 with aU:={r1.aU with gr:=r5.1},ja:=v9}
instance Gm {a0:ah} {a1:am} {a2:aS} {r:bM}:FC prog (yz a0 a1 a2=some r) 323 [.agg (bZ a0),.agg (cT a1),.agg (gu a2)] [.agg (qM [.o,.o,.o,.o,.o,.o] (bD r))]:=⟨λH=>by
 refine fI func323 ntmps323 ?_
 refine aa H λr1 q1 H=>nA (ca (hF:=Ay.h q1)) ?_
 refine aa H λr2 q2 H=>nA (ca (hF:=nC.h q2)) ?_
 refine aa H λv3 Hj H=>jA ⟨[(5,tP 2),(6,tP 3),(7,tP 10),(8,tP 11)],(oM [.w 4,.w 5,.w 6,.w 7,.w 8,.w 9] 10 195 (bD r1)++[(2,.var 26 [.d false (.l (a2.a8.map dK))]),(3,.var 195 (kM [.z,.z,.z,.z,.z,.z] (bD cj))),(11,.var 67 (kM [] (iw {a0.gr with f6:=v3})))]),12⟩ ?_ ?_
 .refine cC Hj ?_ ?_<;>intro H
  .refine aa H λx4 hx4 H=>nA (xdT (enc:=dK) hx4) ?_
   exact ai H
  exact ai H
 refine aa H λr5 q5 H=>nA (ca (hF:=Hi.h q5)) ?_
 refine aa H λv9 Hj H=>jB ⟨[(6,tP 3),(7,tP 10)],(oM [.w 4,.w 5,.w 6,.w 7,.w 8,.w 9] 10 195 (bD {r1 with aU:={r1.aU with gr:=r5.1},ja:=v9})++[(3,.var 195 (kM [.z,.z,.z,.z,.z,.z] (bD cj)))]),11⟩ ?_ ?_
 .refine iT Hj (λq=>⟨[(6,tP 3),(7,tP 10),(10,.v (.c (.w 12 r5.2.length))),(11,tI q.1)],(oM [.w 4,.w 5,.w 6,.w 7,.w 8,.w 9] 10 195 (bD {r1 with aU:={r1.aU with gr:=r5.1},ja:=q.2})++[(3,.var 195 (kM [.z,.z,.z,.z,.z,.z] (bD cj))),(12,w3 r5.2)]),13⟩) ?_
  rintro⟨v6,v7⟩ o H
  refine ad ?_
  refine cC H ?_ ?_<;>intro H
  .refine zI (f4 11) ?_
   refine aa H λx10 hx10 H=>zA (xwT hx10) ?_
   refine zA (oe (he:=ez _ hx10)) ?_
   obtain⟨h,H⟩:=rq H
   refine zB bK (fQ rfl (apT (enc:=cZ) (ys:=v7) (zs:=[{dQ with bh:=7,bg:=x10}]) h)) bK ?_
   refine wA (spx 100358) ?_
   exact aN H
  exact aE H
 cases H
 exact bX⟩
def rO (a0:ah) (a1:am) (a2:Int):Option (ah×am):=
 abU (jo a0) λr1=>abU (o5 a0 a2) λr2=>bif leB r2 0 then(abU (ni a1) λr3=>some (r1,r3)) else(abU (FQ r2 a0.gG.et) λr4=>abU (qg a1 a0.bU r4) λr5=>some ({r1 with bU:=r5.2},r5.1))
instance FM {a0:ah} {a1:am} {a2:Int} {r:ah×am}:FC prog (rO a0 a1 a2=some r) 348 [.agg (bZ a0),.agg (cT a1),aI a2] [.agg (qM [.o,.o,.o] (c7 r.1)),.agg (qM [.o] (cq r.2))]:=gF func348 ntmps348 (hz 4) (hz 7) (hz 5)
def yl (a0:Int) (a1:List Int):(Int×List Int)->Option (ct (Int×List Int) (List Int))
 |(v1,v2)=>bif ltB v1 (a1.length:Int) then(abU (ix a1 v1) λx7=>abU (fk a0 [v1]) λr8=>abU (Hc (WR ((WR (x7))-(abV r8 256))) 256) λr9=>bif da 1 (v2++[IntKind.u8.wrap (r9)]).length then(some (.next (WR (v1+1),(v2++[IntKind.u8.wrap (r9)])))) else none) else(some (.done v2))
def BB (a0:Int) (a1:List Int):Option (List Int):=
 abU (iter (yl a0 a1) FU (0,([]:List Int))) λ(v6:List Int)=>some v6
instance sDecrypt_c {a1:List Int} {r:List Int}:FC prog (BB a0 a1=some r) 378 [aI a0,aL (a1.map eU8)] [.c (.own 5 1 (r.map eU8) r.length)]:=⟨λH=>by
 refine fI func378 ntmps378 ?_
 refine aa H λv6 Hj H=>jB ⟨[(5,.v (.c (.w 0 v6.length)))],[(0,w5 v6)],1⟩ ?_ ?_
 .refine iT Hj (λq=>⟨[(0,tI a0),(1,.v (.c (.d false (.l (a1.map eU8))))),(5,.v (.c (.w 0 q.2.length))),(6,tI q.1)],[(0,w5 q.2)],1⟩) ?_
  rintro⟨v1,v2⟩ o H
  refine ad ?_
  refine cC H ?_ ?_<;>intro H
  .refine qS [0,1,2,3,4,5,6,7,8,9,10,11,12,13,14,15,16] (h:=?_)
   refine wkb ?_
   refine aa H λx7 hx7 H=>jP rfl (xdT (enc:=eU8) hx7) ?_
   refine wkb ?_
   refine Cc rfl (bsx (bs rfl rfl rfl rfl rfl rfl rfl rfl) rfl) ?_
   refine wkb ?_
   refine aa H λr8 q8 H=>jP rfl (ca (hF:=wC.h q8)) ?_
   refine wkb ?_
   refine jP rfl (ir rfl rfl rfl (by decide)) ?_
   refine wkb ?_
   refine aa H λr9 q9 H=>jP rfl (ca (hF:=sMod_c.h q9)) ?_
   refine wkb ?_
   refine jP rfl (bs rfl rfl rfl rfl rfl rfl rfl rfl) ?_
   refine wkb ?_
   obtain⟨h,H⟩:=rq H
   refine Cc rfl (GI (enc:=eU8) (ys:=v2) (zs:=[IntKind.u8.wrap (r9)]) [0,2] h) ?_
   refine wkb ?_
   refine nn (ds:=[0]) (by kernel_rfl) (by kernel_rfl) rfl ?_
   refine wI ?_
   cases H
   refine tD ?_
   refine an (wS 0 3) ?_
   exact wo
  exact aE H
 cases H
 exact bX⟩
def rR (a0:Int) (a1:Int) (a2:Int):Option Int:=
 abU (du a2 0 999999) λr1=>bif !r1 then(some (-1)) else(abU (fk a0 [5,a1,a2]) λr2=>abU (Hc r2 1000) λr3=>some (WR ((WR (1000000*r3))+a2)))
instance VI {a2:Int} :FC prog (rR a0 a1 a2=some r) 379 [aI a0,aI a1,aI a2] [.c (.d (.i .i64 r))]:=gF func379 ntmps379
def jl (a0:Int) (a1:Int):Option Int:=
 abU (fk 17 [a0,a1]) λr1=>some (abV (WR (r1*r1)) 2147483647)
instance M5:FC prog (jl a0 a1=some r) 330 [aI a0,aI a1] [.c (.d (.i .i64 r))]:=gF func330 ntmps330
end Go.AM
