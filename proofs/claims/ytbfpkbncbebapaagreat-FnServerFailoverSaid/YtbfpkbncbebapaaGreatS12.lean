/- A part. -/
import Derived.Test.YtbfpkbncbebapaaGreatS11
set_option linter.unusedVariables false
open Option renaming bind->YL
open List renaming range->hV
namespace Go.AM
open Go.Proofs
open Tryz
attribute [local irreducible] AWN NS AWO AWR AWC DR dQ gQ
set_option maxRecDepth 100000
set_option maxHeartbeats 40000000
def xz (a0:aT) (a1:ab):Option (cR×aT):=
 YL (co a0 (a1.an.length:Int)) λr1=>YL (ix a1.an r1.1) λx2=>YL (co r1.2 (a1.d8.aR.length:Int)) λr3=>YL (im r3.2 2) λr4=>YL (co r4.2 3) λr5=>YL (bif eqB r5.1 0 then(YL (co r5.2 9) λr30=>YL (qL x2.aO x2.ag x2.a9 (⟨WR (1+r30.1),[9]⟩:ae)) λr31=>some (r30.2,(⟨r1.1,false,true,r3.1,d6,{r31 with bp:={r31.bp with iZ:=Int.tmod (WR (r31.bp.iZ+1)) 2147483647}}⟩:bD))) else(YL (bif eqB r5.1 1 then(YL (CE r5.2 x2) λr49=>some (false,r49.2,r49.1)) else(YL (ix a1.aj r1.1) λx50=>YL (uK r5.2 x50) λr51=>some (true,r51.2,r51.1))) λ((v35,v47,v48):Bool×aT×aH)=>some (v47,(⟨r1.1,v35,false,r3.1,v48,eC⟩:bD)))) λ((v28,v29):aT×bD)=>YL (rS a1 {dN with aV:=13,bG:=v29}) λr52=>YL (bif !r52 then(some 7) else(some v29.aY.aV)) λ(v53:Int)=>some ({dN with aV:=13,bG:={v29 with aY:={v29.aY with aV:=v53}}},v28)
theorem Kn {a0:aT} {a1:ab} {r:cR×aT} (H:xz a0 a1=some r):FnV prog 235 [(200,.var 148 (kM [.f] (bS a0)))] [tP 200,.v (.agg (kM [.f,.f,.f,.f,.f] (aJ a1)))] [(200,.var 148 (kM [.f] (bS r.2)))] (.v (.agg (kM [.z,.n 210] (eF {r.1 with aS:=[]})))) [(210,n5 r.1.bG.cr.bp.aS)]:=by
 refine fV func235 ntmps235 ?_
 refine aa H λr1 q1 H=>sA (cw (o:=200) (bU q1)) ?_
 refine aa H λx2 hx2 H=>nA (xdT (enc:=cI) hx2) ?_
 refine aa H λr3 q3 H=>sA (cw (o:=200) (bU q3)) ?_
 refine aa H λr4 q4 H=>sA (cw (o:=200) (ia q4)) ?_
 refine aa H λr5 q5 H=>sA (cw (o:=200) (bU q5)) ?_
 obtain⟨⟨v28,v29⟩,Hj,H⟩:=ob H
 refine jA ⟨[(3,tP 210),(4,tP 211),(7,tP 213)],(oM [.n 215] 213 48 (lf v29)++[(200,.var 148 (kM [.f] (bS v28))),(210,.var 34 (kM [.f,.f,.f,.f,.f] (aJ a1))),(211,.var 50 (kM [.z,.z] (eF dN)))]),216⟩ ?_ ?_
 .refine cC Hj ?_ ?_<;>intro H
  .refine zI (hV 14) ?_
   refine aa H λr30 q30 H=>wA (cwx (o:=200) (bU q30)) ?_
   refine aa H λr31 q31 H=>zA (ca (hF:=Ad q31)) ?_
   refine wA (spx 100330) ?_
   refine nA (ir rfl rfl rfl (by decide)) ?_
   cases H
   refine ay (dS 215) ?_
   refine ay (wB 214 [9].length) ?_
   exact wo
  obtain⟨⟨v35,v47,v48⟩,Hj,H⟩:=ob H
  refine jA ⟨[(3,tP 210),(4,tP 211),(7,tP 213)],[(200,.var 148 (kM [.f] (bS v47))),(210,.var 34 (kM [.f,.f,.f,.f,.f] (aJ a1))),(211,.var 50 (kM [.z,.z] (eF dN))),(213,.var 48 (kM [.z] (lf (⟨r1.1,v35,false,r3.1,v48,eC⟩:bD))))],214⟩ ?_ ?_
  .refine cC Hj ?_ ?_<;>intro H
   .refine aa H λr49 q49 H=>sA (cw (o:=200) (Pd q49)) ?_
    exact ai H
   refine aa H λx50 hx50 H=>nA (xdT (enc:=bB) hx50) ?_
   refine aa H λr51 q51 H=>sA (cw (o:=200) (Ia q51)) ?_
   exact ai H
  cases H
  refine ay (dE (o:=213) (j:=19) 5 1 true) ?_
  refine ay (wB 214 (([]:List Int).length)) ?_
  refine ay (AG (nx':=216) rfl) ?_
  refine ay (wS 215 214) ?_
  exact wo
 refine aa H λr52 q52 H=>nA (ca (hF:=Fm q52)) ?_
 refine aa H λv53 Hj H=>jA ⟨[(4,tP 211),(8,tP 216)],(oM [.z,.n 215] 216 50 (eF {dN with aV:=13,bG:={v29 with aY:={v29.aY with aV:=v53}}})++[(200,.var 148 (kM [.f] (bS v28))),(211,.var 50 (kM [.z,.z] (eF dN)))]),217⟩ ?_ ?_
 .refine cC Hj ?_ ?_<;>intro H
  .exact ai H
  exact ai H
 cases H
 refine bV (wS 215 210) ?_
 exact bO
def iU (a0:ah):(Int×List aC)->Option (cf (Int×List aC) (List aC))
 |(v1,v2)=>YL (bif ltB v1 (a0.aw.az.length:Int) then(bif ltB v1 2 then(some (eqB a0.bu 1)) else(some false)) else(some false)) λ(v7:Bool)=>bif v7 then(YL (ix a0.aw.az v1) λx8=>YL (wQ a0 x8) λr9=>bif dh 64 (v2++[r9]).length then(some (.next (WR (v1+1),(v2++[r9])))) else none) else(some (.done v2))
def ma (a0:ah):Option (List aC):=
 YL (iter (iU a0) FU (0,([]:List aC))) λ(v6:List aC)=>some v6
theorem yh {a0:ah} {r:List aC} (H:ma a0=some r):Fn prog 345 [.agg (bB a0)] [.c (.own 46 6 (r.map dR) r.length)]:=by
 refine fI func345 ntmps345 ?_
 refine aa H λv6 Hj H=>jB ⟨[(3,.v (.c (.w 1 v6.length)))],[(1,w46 v6)],2⟩ ?_ ?_
 .refine iT Hj (λq=>⟨[(1,tP 0),(3,.v (.c (.w 1 q.2.length))),(4,tI q.1)],[(0,.var 69 (kM [.f,.f,.f] (b8 a0))),(1,w46 q.2)],2⟩) ?_
  rintro⟨v1,v2⟩ o H
  try dsimp only
  refine wI ?_
  refine aa H λv7 Hj H=>jR ⟨[(1,tP 0),(3,.v (.c (.w 1 v2.length))),(4,tI v1),(20,tB v7)],[(0,.var 69 (kM [.f,.f,.f] (b8 a0))),(1,w46 v2)],2⟩ ?_ ?_
  .refine gC Hj ?_ ?_<;>intro H
   .refine gC H ?_ ?_<;>intro H
    .exact ai H
    exact ai H
   exact ai H
  refine cC H ?_ ?_<;>intro H
  .refine zI (hV 12) ?_
   refine aa H λx8 hx8 H=>zA (xdT (enc:=av) hx8) ?_
   refine aa H λr9 q9 H=>zA (ca (hF:=(EB q9).frzs (by repeat (first|exact trivial|refine⟨?_,?_⟩|exact lm _|rfl)))) ?_
   obtain⟨h,H⟩:=rq H
   refine wA (apx (enc:=dR) (ys:=v2) (zs:=[r9]) [1,2] h) ?_
   refine lD (ds:=[1]) (by kernel_rfl) (by kernel_rfl) rfl ?_
   refine wI ?_
   cases H
   refine dy ?_
   refine ay (wS 1 3) ?_
   exact wo
  cases H
  refine dF (λhq=>?_)
  cases hq
  refine wI ?_
  exact wo
 exact ao H
def sj (a0:ah):(Int×bY)->Option (cf (Int×bY) (bY))
 |(v3,v39)=>YL (bif ltB v3 2 then(bif leB v39.aP.aw.bz (a0.aA.length:Int) then(some (ltB (v39.aP.aw.az.length:Int) 8)) else(some false)) else(some false)) λ(v40:Bool)=>bif v40 then(YL (ix a0.aA (WR (v39.aP.aw.bz-1))) λx41=>YL (pW v39.aP v39.eo (x41.aS.length:Int)) λr42=>YL (nf r42.1 (x41.aS.length:Int)) λr43=>bif ltB 0 r43 then(dn (some {v39 with aP:=r42.1,eo:=r42.2})) else(YL (oQ r42.1.aw x41.aS) λr44=>bif r44.2.2 then(YL (wQ a0 r44.2.1) λr45=>bif dh 64 (v39.cr++[r45]).length then(some (.next (WR (v3+1),(⟨{r42.1 with aw:=r44.1},r42.2,v39.jZ,(v39.cr++[r45])⟩:bY)))) else none) else(dn (some {v39 with aP:=r42.1,eo:=r42.2})))) else(dn (some v39))
def wC (a0:ah) (a1:am):Option bY:=
 YL (qU a0 a1) λr1=>YL (wO a0) λr2=>bif r2 then(some r1) else(iter (sj a0) FU (0,r1))
theorem Eg {a0:ah} {a1:am} {r:bY} (H:wC a0 a1=some r):Fn prog 346 [.agg (bB a0),.agg (cp a1)] [.agg (qM [.o,.o,.o,.o,.o,.o] (cB r))]:=by
 refine fI func346 ntmps346 ?_
 refine aa H λr1 q1 H=>nA (ca (hF:=yX q1)) ?_
 refine aa H λr2 q2 H=>nA (ca (hF:=Ez q2)) ?_
 refine cC H ?_ ?_<;>intro H
 .exact ao H
 refine iT H (λq=>⟨[(2,tP 0),(4,tP 2),(5,tP 9),(6,tI q.1)],(oM [.w 3,.w 4,.w 5,.w 6,.w 7,.w 8] 9 188 (cB q.2)++[(0,.var 69 (kM [.f,.f,.f] (b8 a0))),(2,.var 188 (kM [.z,.z,.z,.z,.z,.z] (cB dr)))]),10⟩) ?_
 rintro⟨v3,v39⟩ o H
 try dsimp only
 refine wI ?_
 refine aa H λv40 Hj H=>jR ⟨[(2,tP 0),(4,tP 2),(5,tP 9),(6,tI v3),(38,tB v40)],(oM [.w 3,.w 4,.w 5,.w 6,.w 7,.w 8] 9 188 (cB v39)++[(0,.var 69 (kM [.f,.f,.f] (b8 a0))),(2,.var 188 (kM [.z,.z,.z,.z,.z,.z] (cB dr)))]),10⟩ ?_ ?_
 .refine gC Hj ?_ ?_<;>intro H
  .refine gC H ?_ ?_<;>intro H
   .exact ai H
   exact ai H
  exact ai H
 refine cC H ?_ ?_<;>intro H
 .refine aa H λx41 hx41 H=>nA (xdT (enc:=cd) hx41) ?_
  refine aa H λr42 q42 H=>nA (ca (hF:=D7 q42)) ?_
  refine aa H λr43 q43 H=>nA (ca (hF:=ww q43)) ?_
  refine cC H ?_ ?_<;>intro H
  .obtain⟨r0,Hd,rfl⟩:=dnE H
   refine f6 (λhq=>?_)
   have H:=Hd.trans (congrArg some hq)
   refine wI ?_
   exact ao H
  obtain⟨r44,q44,H⟩:=ob H
  rcases hb:r44.2.2 with _|_
  .have H:=bf hb H
   refine xW rfl (ca (hF:=Eh q44 hb)) ?_
   simp only[hb]
   refine wI ?_
   obtain⟨r0,Hd,rfl⟩:=dnE H
   refine f6 (λhq=>?_)
   have H:=Hd.trans (congrArg some hq)
   refine wI ?_
   exact ao H
  have H:=bt hb H
  refine xW rfl (ca (hF:=Ei q44 hb)) ?_
  simp only[hb]
  refine wI ?_
  refine zI (hV 9) ?_
  refine aa H λr45 q45 H=>zA (ca (hF:=(EB q45).frzs (by repeat (first|exact trivial|refine⟨?_,?_⟩|exact lm _|rfl)))) ?_
  obtain⟨h,H⟩:=rq H
  refine zB bW (hP rfl (apT (enc:=dR) (ys:=v39.cr) (zs:=[r45]) h)) bW ?_
  refine wA (spx 100400) ?_
  cases H
  refine dy ?_
  refine ay (wS 3 10) ?_
  refine ay (wS 4 11) ?_
  refine ay (wS 5 16) ?_
  refine ay (wS 6 13) ?_
  exact wo
 obtain⟨r0,Hd,rfl⟩:=dnE H
 refine dF (λhq=>?_)
 have H:=Hd.trans (congrArg some hq)
 refine wI ?_
 exact ao H
def kK (a0:ah) (a1:aH):Option bR:=
 YL (bif leB a0.bF 0 then(some true) else(bif !eqB a1.ag a0.bF then(some true) else(YL (oc a0.aF a1.bK) λr2=>bif !r2 then(some true) else(some (leB 999999 a0.a9))))) λ(v1:Bool)=>bif v1 then(YL (ny a0) λr3=>some r3) else(YL (ip a0) λr4=>YL (qT (⟨r4.bC,r4.g7,1,cz,0,a0.bF,a0.aF.eP,WR (a0.a9+1),a1.bg,0,fk,r4.aA,r4.aw,r4.d7,r4.bM⟩:ah) 4) λr5=>some r5)
theorem yN {a0:ah} {a1:aH} {r:bR} (H:kK a0 a1=some r):Fn prog 370 [.agg (bB a0),.agg (ey a1)] [.agg (qM [.d,.d,.d,.o] (eB r))]:=by
 refine fI func370 ntmps370 ?_
 refine aa H λv1 Hj H=>jR ⟨[(2,tP 0),(3,tP 1),(4,tP 2),(28,tB v1)],[(0,.var 69 (kM [.f,.f,.f] (b8 a0))),(1,.var 42 (kM [] (cY a1))),(2,.var 237 (kM [.z,.z,.z,.z] (eB pw)))],3⟩ ?_ ?_
 .refine gC Hj ?_ ?_<;>intro H
  .exact ai H
  refine gC H ?_ ?_<;>intro H
  .exact ai H
  refine aa H λr2 q2 H=>nG (ca (hF:=yO q2)) ?_
  refine gC H ?_ ?_<;>intro H
  .exact ai H
  exact ai H
 refine cC H ?_ ?_<;>intro H
 .refine aa H λr3 q3 H=>nA (ca (hF:=oi q3)) ?_
  cases H
  refine cU (aU (o:=3)) ?_
  refine cU (aU (o:=4)) ?_
  refine cU (aU (o:=5)) ?_
  refine cU (dq (o:=2)) ?_
  exact dT
 refine aa H λr4 q4 H=>nA (ca (hF:=gW q4)) ?_
 refine aa H λr5 q5 H=>bH (aU (o:=3)) ?_
 refine bH (aU (o:=4)) ?_
 refine bH (aU (o:=5)) ?_
 refine bH (cj (k:=54)) ?_
 refine sA (cwu [] [(210,7)] 8 (FnV.up (Aw q5) rfl rfl)) ?_
 exact ao H
def jg (a0:ah) (a1:aH):Option bR:=
 YL (tV a0 a1) λr1=>YL (bif !r1 then(some true) else(bif ltB a1.a9 a0.a9 then(some true) else(bif eqB a1.a9 a0.a9 then(some (!eqB a1.bg a0.bg)) else(some false)))) λ(v2:Bool)=>bif v2 then(YL (ny a0) λr3=>some r3) else(YL (ip a0) λr4=>YL (qT {r4 with a9:=a1.a9,bg:=a1.bg,d9:=0,gZ:=fk,d7:=0} 6) λr5=>some r5)
theorem wy {a0:ah} {a1:aH} {r:bR} (H:jg a0 a1=some r):Fn prog 371 [.agg (bB a0),.agg (ey a1)] [.agg (qM [.d,.d,.d,.o] (eB r))]:=by
 refine fI func371 ntmps371 ?_
 refine aa H λr1 q1 H=>nA (ca (hF:=BZ q1)) ?_
 refine aa H λv2 Hj H=>jR ⟨[(2,tP 0),(3,tP 1),(4,tP 2),(30,tB v2)],[(0,.var 69 (kM [.f,.f,.f] (b8 a0))),(1,.var 42 (kM [] (cY a1))),(2,.var 237 (kM [.z,.z,.z,.z] (eB pw)))],3⟩ ?_ ?_
 .refine gC Hj ?_ ?_<;>intro H
  .exact ai H
  refine gC H ?_ ?_<;>intro H
  .exact ai H
  refine gC H ?_ ?_<;>intro H
  .exact ai H
  exact ai H
 refine cC H ?_ ?_<;>intro H
 .refine aa H λr3 q3 H=>nA (ca (hF:=oi q3)) ?_
  cases H
  refine cU (aU (o:=3)) ?_
  refine cU (aU (o:=4)) ?_
  refine cU (aU (o:=5)) ?_
  refine cU (dq (o:=2)) ?_
  exact dT
 refine aa H λr4 q4 H=>nA (ca (hF:=gW q4)) ?_
 refine aa H λr5 q5 H=>bH (aU (o:=3)) ?_
 refine bH (aU (o:=4)) ?_
 refine bH (aU (o:=5)) ?_
 refine bH (cj (k:=45)) ?_
 refine sA (cwu [] [(210,7)] 8 (FnV.up (Aw q5) rfl rfl)) ?_
 exact ao H
def lI (a0:ah) (a1:aH):Option bR:=
 YL (tV a0 a1) λr1=>YL (bif !r1 then(some true) else(some (ltB a0.aw.bz a1.bK))) λ(v2:Bool)=>bif v2 then(YL (ny a0) λr3=>some r3) else(YL (ip a0) λr4=>YL (jT a0.aw a1.bK) λr5=>YL (oh a0.aw.az) λr6=>YL (oh r5.az) λr7=>YL (ox a0.bM (WR (r6-r7))) λr8=>some (⟨{r4 with d9:=0,aw:=r5,bM:=r8.1},([]:List aH)⟩:bR))
theorem Ab {a0:ah} {a1:aH} {r:bR} (H:lI a0 a1=some r):Fn prog 372 [.agg (bB a0),.agg (ey a1)] [.agg (qM [.o,.o,.o,.o] (eB r))]:=by
 refine fI func372 ntmps372 ?_
 refine aa H λr1 q1 H=>nA (ca (hF:=BZ q1)) ?_
 refine aa H λv2 Hj H=>jR ⟨[(2,tP 0),(3,tP 1),(4,tP 2),(19,tB v2)],[(0,.var 69 (kM [.f,.f,.f] (b8 a0))),(1,.var 42 (kM [] (cY a1))),(2,.var 237 (kM [.z,.z,.z,.z] (eB pw)))],3⟩ ?_ ?_
 .refine gC Hj ?_ ?_<;>intro H
  .exact ai H
  exact ai H
 refine cC H ?_ ?_<;>intro H
 .refine aa H λr3 q3 H=>nA (ca (hF:=oi q3)) ?_
  exact ao H
 refine aa H λr4 q4 H=>nA (ca (hF:=gW q4)) ?_
 refine aa H λr5 q5 H=>nA (ca (hF:=xP q5)) ?_
 refine zI (hV 18) ?_
 refine aa H λr6 q6 H=>zA (ca (hF:=sC q6)) ?_
 refine aa H λr7 q7 H=>zA (ca (hF:=sC q7)) ?_
 refine aa H λr8 q8 H=>zA (ca (hF:=Ch q8)) ?_
 refine wA (spx 100438) ?_
 cases H
 refine cU (wB 9 (([]:List aH).length)) ?_
 exact dT
def oA (a0:aD) (a1:aC):Option bh:=
 YL (uD a0.aO a0.ag a0.a9 a1) λr1=>YL (bif !eqB a0.bu 2 then(some true) else(some (!r1.2))) λ(v2:Bool)=>bif v2 then(YL (qR a0) λr3=>some r3) else(YL (jy a0) λr4=>YL (ni a0.bI r1.1) λr5=>YL (i7 a0.aO (⟨8,a0.bg,a0.ag,a0.a9,r5.bz,cz,0⟩:aH)) λr6=>some (⟨{r4 with bI:=r5},[r6]⟩:bh))
theorem Ck {a0:aD} {a1:aC} {r:bh} (H:oA a0 a1=some r):Fn prog 348 [.agg (cI a0),.agg (dR a1)] [.agg (qM [.d,.o,.o] (cL r))]:=by
 refine fI func348 ntmps348 ?_
 refine aa H λr1 q1 H=>nA (ca (hF:=HW q1)) ?_
 refine aa H λv2 Hj H=>jR ⟨[(2,tP 0),(4,tP 2),(5,tP 3),(26,tB v2)],[(0,.var 86 (kM [.f,.f] (db a0))),(2,.var 181 (kM [.z,.z,.z] (cL eO))),(3,.var 144 (kM [.t] (eh r1.1)))],4⟩ ?_ ?_
 .refine gC Hj ?_ ?_<;>intro H
  .exact ai H
  exact ai H
 refine cC H ?_ ?_<;>intro H
 .refine aa H λr3 q3 H=>nA (ca (hF:=uI q3)) ?_
  cases H
  refine cU (aU (o:=4)) ?_
  refine cU (dq (o:=2)) ?_
  exact dT
 refine aa H λr4 q4 H=>nA (ca (hF:=jh q4)) ?_
 refine aa H λr5 q5 H=>nA (ca (hF:=Bg q5)) ?_
 refine aa H λr6 q6 H=>nA (ca (hF:=lu q6)) ?_
 cases H
 refine cU (wB 9 [r6].length) ?_
 exact dT
def wN (a0:aD):Option bh:=
 YL (tU {a0 with a9:=WR (a0.a9+1),de:=false}) λr1=>YL (lB {a0 with a9:=WR (a0.a9+1),de:=false} r1) λr2=>some r2
theorem Ex {a0:aD} {r:bh} (H:wN a0=some r):FnV prog 350 [] [.v (.agg (kM [.f,.f] (db a0)))] [] (.v (.agg (kM [.f,.f,.w 210] (cL r)))) [(210,w42 r.dX)]:=by
 refine fV func350 ntmps350 ?_
 refine zI (hV 5) ?_
 refine aa H λr1 q1 H=>zA (ca (hF:=yW q1)) ?_
 refine aa H λr2 q2 H=>zB bW (hP rfl (cwv [] [(210,212)] 213 (qS q2))) bW ?_
 refine wA (spx 100454) ?_
 cases H
 refine bV (wS 212 210) ?_
 exact bO
end Go.AM
