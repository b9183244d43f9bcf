/- A part. -/
import Derived.Test.YtmginjngmidkbaaGreatS7
set_option linter.unusedVariables false
open Option renaming bind->abU
open List renaming range->f4
namespace Go.AM
open Go.Proofs
open Tryz
attribute [local irreducible] AWN NS AWO AWR AWC DR DZ dS gp iter
set_option maxRecDepth 100000
set_option maxHeartbeats 40000000
variable {a0:Go.AM.ah}
def oU (a0:ab) (a1:dN):Int->Option (ct (Int) (Bool))
 |v4=>bif ltB v4 (a0.aT.length:Int) then(abU (ix a0.aT v4) λx5=>abU (pt x5 a1.b8) λr6=>bif r6 then(dn (some true)) else(some (.next (WR (v4+1))))) else(dn (abU (ix a0.av a1.b8.bm) λx7=>abU (bif a1.b8.ef then(some (!a1.b8.eW)) else(some false)) λ(v8:Bool)=>bif v8 then(abU (bif ltB a1.b8.cA.ag x7.ag then(some true) else(bif eqB a1.b8.cA.ag x7.ag then(abU (ph x7.aZ a1.b8.cA) λr10=>some (!r10)) else(some false))) λ(v9:Bool)=>some v9) else(bif a1.b8.ef then(some true) else(bif a1.b8.eW then(abU (ix a0.aF a1.b8.bm) λx11=>abU (pw x11 a1.b8.bA) λr12=>some r12) else(abU (mA x7 a1.b8.bA) λr13=>some r13)))))
def ue (a0:ab) (a1:dN):Option Bool:=
 abU (bif !eqB a1.bh 13 then(some true) else(abU (nz a0) λr2=>bif !r2 then(some true) else(abU (ky a0 a1.b8) λr3=>some (!r3)))) λ(v1:Bool)=>bif v1 then(some true) else(iter (oU a0 a1) FU 0)
instance G8 {a0:ab} {a1:dN} {r:Bool}:FC prog (ue a0 a1=some r) 25 [.agg (gv a0),.agg (DJ a1)] [.c (.d (.b r))]:=gF func25 ntmps25 (hb 13 23) (hl 0 6) (hb 47 44) (hb 58 4)
def wR (a0:bj) (a1:ah):Option (aH×bj):=
 abU (cO a0 8) λr1=>abU (cO r1.2 5) λr2=>abU (cO r2.2 3) λr3=>abU (cO r3.2 2) λr4=>abU (bif eqB (WR (1+r1.1)) 3 then(some (r4.2,(⟨WR (1+r1.1),r2.1,a1.bL,WR ((WR (a1.aX+r3.1))-r4.1),a1.aK.yI,cr,0⟩:aH))) else(abU (bif eqB (WR (1+r1.1)) 8 then(abU (cO r4.2 4) λr17=>abU (cO r17.2 2) λr18=>abU (FQ 0 (WR ((WR (a1.aw.bB-r17.1))+r18.1))) λr19=>some (r19,r18.2)) else(some (0,r4.2))) λ((v15,v16):Int×bj)=>some (v16,(⟨WR (1+r1.1),r2.1,a1.ag,WR ((WR (a1.aX+r3.1))-r4.1),v15,cr,0⟩:aH)))) λ((v10,v11):bj×aH)=>abU (ke a1.aZ v11) λr20=>abU (cO v10 8) λr21=>abU (bif eqB r21.1 0 then(abU (zj r21.2) λr38=>some (r38.2,{r20 with jE:=r38.1})) else(abU (bif eqB r21.1 1 then(some {r20 with bW:=WR (r20.bW+1)}) else(abU (bif eqB r21.1 2 then(some (WR (r20.ag+1))) else(some r20.ag)) λ(v42:Int)=>some {r20 with ag:=v42})) λ(v41:aH)=>some (r21.2,v41))) λ((v36,v37):bj×aH)=>some (v37,v36)
theorem Kj {a0:bj} {a1:ah} {r:aH×bj} (H:wR a0 a1=some r):FnW prog 262 (.var 135 (kM [.f] (co a0))) [tP 200,.v (.agg (kM [.f,.f,.f] (c7 a1)))] (.var 135 (kM [.f] (co r.2))) [.agg (qM [] (dt r.1))]:=by
 refine fW func262 ntmps262 ?_
 refine zI (f4 18) ?_
 refine aa H λr1 q1 H=>wA (cwx (o:=200) (cp q1)) ?_
 refine aa H λr2 q2 H=>wA (cwx (o:=200) (cp q2)) ?_
 refine aa H λr3 q3 H=>wA (cwx (o:=200) (cp q3)) ?_
 refine aa H λr4 q4 H=>wA (cwx (o:=200) (cp q4)) ?_
 refine wA (spx 100324) ?_
 obtain⟨⟨v10,v11⟩,Hj,H⟩:=ob H
 refine jA ⟨[(0,tP 200),(3,tP 210),(4,tP 211),(5,tP 212)],[(200,.var 135 (kM [.f] (co v10))),(210,.var 75 (kM [.f,.f,.f] (c7 a1))),(211,.var 43 (kM [] (dt dQ))),(212,.var 43 (kM [] (dt v11)))],213⟩ ?_ ?_
 .refine cC Hj ?_ ?_<;>intro H
  .exact ai H
  obtain⟨⟨v15,v16⟩,Hj,H⟩:=ob H
  refine jA ⟨[(0,tP 200),(3,tP 210),(4,tP 211),(5,tP 212)],[(200,.var 135 (kM [.f] (co v16))),(210,.var 75 (kM [.f,.f,.f] (c7 a1))),(211,.var 43 (kM [] (dt dQ))),(212,.var 43 (kM [] (dt (⟨WR (1+r1.1),r2.1,a1.ag,WR ((WR (a1.aX+r3.1))-r4.1),v15,cr,0⟩:aH))))],213⟩ ?_ ?_
  .refine cC Hj ?_ ?_<;>intro H
   .refine zI (f4 12) ?_
    refine aa H λr17 q17 H=>wA (cwx (o:=200) (cp q17)) ?_
    refine aa H λr18 q18 H=>wA (cwx (o:=200) (cp q18)) ?_
    refine aa H λr19 q19 H=>zA (ca (hF:=VF.h q19)) ?_
    refine wA (spx 100323) ?_
    exact ai H
   exact ai H
  exact ai H
 refine aa H λr20 q20 H=>nA (ca (hF:=qh.h q20)) ?_
 refine aa H λr21 q21 H=>sA (cw (o:=200) (cp q21)) ?_
 obtain⟨⟨v36,v37⟩,Hj,H⟩:=ob H
 refine jA ⟨[(4,tP 211),(5,tP 212)],[(200,.var 135 (kM [.f] (co v36))),(211,.var 43 (kM [] (dt dQ))),(212,.var 43 (kM [] (dt v37)))],213⟩ ?_ ?_
 .refine cC Hj ?_ ?_<;>intro H
  .refine aa H λr38 q38 H=>sA (cw (o:=200) (CH q38)) ?_
   exact ai H
  refine aa H λv41 Hj H=>jA ⟨[(4,tP 211),(5,tP 212)],[(200,.var 135 (kM [.f] (co r21.2))),(211,.var 43 (kM [] (dt dQ))),(212,.var 43 (kM [] (dt v41)))],213⟩ ?_ ?_
  .refine cC Hj ?_ ?_<;>intro H
   .exact ai H
   refine aa H λv42 Hj H=>jA ⟨[(4,tP 211),(5,tP 212)],[(200,.var 135 (kM [.f] (co r21.2))),(211,.var 43 (kM [] (dt dQ))),(212,.var 43 (kM [] (dt {r20 with ag:=v42})))],213⟩ ?_ ?_
   .exact az Hj
   exact ai H
  exact ai H
 cases H
 exact f9
def vK (a0:aJ):Option aH:=
 abU (ke a0.aZ (⟨5,a0.bg,a0.ag,a0.aX,0,cr,0⟩:aH)) λr1=>some r1
instance Aw {a0:aJ} {r:aH}:FC prog (vK a0=some r) 319 [.agg (c9 a0)] [.agg (qM [] (dt r))]:=gF func319 ntmps319
def ul (a0:aJ):Option aY:=
 abU (kS a0) λr1=>bif ltB 0 a0.fA then(some (⟨{r1 with fA:=WR (a0.fA-1)},([]:List aH)⟩:aY)) else(bif eqB a0.bi 1 then(abU (tg a0) λr2=>abU (nj r1 r2) λr3=>some r3) else(abU (bif eqB a0.bi 2 then(some (!a0.cy)) else(some false)) λ(v4:Bool)=>bif v4 then(abU (vK a0) λr5=>abU (nj r1 r5) λr6=>some r6) else(some (⟨r1,([]:List aH)⟩:aY))))
instance Hh {a0:aJ} {r:aY}:FC prog (ul a0=some r) 264 [.agg (c9 a0)] [.agg (qM [.d,.d,.o] (cd r))]:=⟨λH=>by
 refine fI func264 ntmps264 ?_
 refine aa H λr1 q1 H=>nA (ca (hF:=nT.h q1)) ?_
 refine cC H ?_ ?_<;>intro H
 .cases H
  refine dR (wB 5 (([]:List aH).length)) ?_
  refine dR (aV (o:=2)) ?_
  refine dR (aV (o:=3)) ?_
  refine dR (cz (o:=1)) ?_
  exact bX
 refine cC H ?_ ?_<;>intro H
 .refine zI (f4 5) ?_
  refine aa H λr2 q2 H=>zA (ca (hF:=BP.h q2)) ?_
  refine aa H λr3 q3 H=>zB (an (aV (o:=2)) (an (aV (o:=3)) (bN (k:=18)))) (fQ rfl (cwu [] [(210,5)] 6 (FnV.up (ti q3) rfl rfl))) bK ?_
  refine wA (spx 100333) ?_
  exact ao H
 refine aa H λv4 Hj H=>jR ⟨[(1,tP 0),(2,tP 1),(3,tP 4),(22,tB v4)],(oM [.w 2,.w 3] 4 93 (dF r1)++[(0,.var 93 (kM [.f,.f] (dF a0))),(1,.var 189 (kM [.z,.z,.z] (cd d5)))]),5⟩ ?_ ?_
 .exact az Hj
 refine cC H ?_ ?_<;>intro H
 .refine zI (f4 5) ?_
  refine aa H λr5 q5 H=>zA (ca (hF:=Aw.h q5)) ?_
  refine aa H λr6 q6 H=>zB (an (aV (o:=2)) (an (aV (o:=3)) (bN (k:=31)))) (fQ rfl (cwu [] [(210,5)] 6 (FnV.up (ti q6) rfl rfl))) bK ?_
  refine wA (spx 100334) ?_
  exact ao H
 cases H
 refine dR (wB 5 (([]:List aH).length)) ?_
 refine dR (aV (o:=2)) ?_
 refine dR (aV (o:=3)) ?_
 refine dR (cz (o:=1)) ?_
 exact bX⟩
def yA (a0:ah) (a1:ae):Option ax:=
 abU (s8 a0.aZ a0.ag a0.aX a1) λr1=>some r1
instance Gn {a1:ae} {r:ax}:FC prog (yA a0 a1=some r) 347 [.agg (bZ a0),.agg (aM a1)] [.agg (qM [.o] (iy r))]:=gF func347 ntmps347
def jZ (a0:ah):(Int×List ax)->Option (ct (Int×List ax) (List ax))
 |(v1,v2)=>abU (bif ltB v1 (a0.aw.aA.length:Int) then(bif ltB v1 2 then(some (eqB a0.bi 1)) else(some false)) else(some false)) λ(v7:Bool)=>bif v7 then(abU (ix a0.aw.aA v1) λx8=>abU (yA a0 x8) λr9=>bif da 64 (v2++[r9]).length then(some (.next (WR (v1+1),(v2++[r9])))) else none) else(some (.done v2))
def n8 (a0:ah):Option (List ax):=
 abU (iter (jZ a0) FU (0,([]:List ax))) λ(v6:List ax)=>some v6
instance zQ {r:List ax}:FC prog (n8 a0=some r) 324 [.agg (bZ a0)] [.c (.own 47 6 (r.map db) r.length)]:=⟨λH=>by
 refine fI func324 ntmps324 ?_
 refine aa H λv6 Hj H=>jB ⟨[(3,.v (.c (.w 1 v6.length)))],[(1,w47 v6)],2⟩ ?_ ?_
 .refine iT Hj (λq=>⟨[(1,tP 0),(3,.v (.c (.w 1 q.2.length))),(4,tI q.1)],[(0,.var 75 (kM [.f,.f,.f] (c7 a0))),(1,w47 q.2)],2⟩) ?_
  rintro⟨v1,v2⟩ o H
  refine ad ?_
  refine aa H λv7 Hj H=>jR ⟨[(1,tP 0),(3,.v (.c (.w 1 v2.length))),(4,tI v1),(20,tB v7)],[(0,.var 75 (kM [.f,.f,.f] (c7 a0))),(1,w47 v2)],2⟩ ?_ ?_
  .exact az Hj
  refine cC H ?_ ?_<;>intro H
  .refine zI (f4 12) ?_
   refine aa H λx8 hx8 H=>zA (xdT (enc:=aM) hx8) ?_
   refine aa H λr9 q9 H=>zA (ca (hF:=(Gn.h q9).frzs (by repeat (first|exact trivial|refine⟨?_,?_⟩|exact lm _|rfl)))) ?_
   obtain⟨h,H⟩:=rq H
   refine wA (apx (enc:=db) (ys:=v2) (zs:=[r9]) [1,2] h) ?_
   refine nn (ds:=[1]) (by kernel_rfl) (by kernel_rfl) rfl ?_
   refine wI ?_
   cases H
   refine tD ?_
   refine an (wS 1 3) ?_
   exact wo
  exact aE H
 cases H
 exact bX⟩
def uk (a0:ah):(Int×bM)->Option (ct (Int×bM) (bM))
 |(v3,v39)=>abU (bif ltB v3 2 then(bif leB v39.aU.aw.bB (a0.aG.length:Int) then(some (ltB (v39.aU.aw.aA.length:Int) 8)) else(some false)) else(some false)) λ(v40:Bool)=>bif v40 then(abU (ix a0.aG (WR (v39.aU.aw.bB-1))) λx41=>abU (rO v39.aU v39.d8 (x41.bb.length:Int)) λr42=>abU (o5 r42.1 (x41.bb.length:Int)) λr43=>bif ltB 0 r43 then(dn (some {v39 with aU:=r42.1,d8:=r42.2})) else(abU (qH r42.1.aw x41.bb) λr44=>bif r44.2.2 then(abU (yA a0 r44.2.1) λr45=>bif da 64 (v39.cA++[r45]).length then(some (.next (WR (v3+1),(⟨{r42.1 with aw:=r44.1},r42.2,v39.ja,(v39.cA++[r45])⟩:bM)))) else none) else(dn (some {v39 with aU:=r42.1,d8:=r42.2})))) else(dn (some v39))
def yr (a0:ah) (a1:am):Option bM:=
 abU (tk a0 a1) λr1=>abU (yy a0) λr2=>bif r2 then(some r1) else(iter (uk a0) FU (0,r1))
instance F3 {a1:am} {r:bM}:FC prog (yr a0 a1=some r) 325 [.agg (bZ a0),.agg (cT a1)] [.agg (qM [.o,.o,.o,.o,.o,.o] (bD r))]:=⟨λH=>by
 refine fI func325 ntmps325 ?_
 refine aa H λr1 q1 H=>nA (ca (hF:=Ay.h q1)) ?_
 refine aa H λr2 q2 H=>nA (ca (hF:=Gl.h q2)) ?_
 refine cC H ?_ ?_<;>intro H
 .exact ao H
 refine iT H (λq=>⟨[(2,tP 0),(4,tP 2),(5,tP 9),(6,tI q.1)],(oM [.w 3,.w 4,.w 5,.w 6,.w 7,.w 8] 9 195 (bD q.2)++[(0,.var 75 (kM [.f,.f,.f] (c7 a0))),(2,.var 195 (kM [.z,.z,.z,.z,.z,.z] (bD cj)))]),10⟩) ?_
 rintro⟨v3,v39⟩ o H
 refine ad ?_
 refine aa H λv40 Hj H=>jR ⟨[(2,tP 0),(4,tP 2),(5,tP 9),(6,tI v3),(38,tB v40)],(oM [.w 3,.w 4,.w 5,.w 6,.w 7,.w 8] 9 195 (bD v39)++[(0,.var 75 (kM [.f,.f,.f] (c7 a0))),(2,.var 195 (kM [.z,.z,.z,.z,.z,.z] (bD cj)))]),10⟩ ?_ ?_
 .exact az Hj
 refine cC H ?_ ?_<;>intro H
 .refine aa H λx41 hx41 H=>nA (xdT (enc:=ee) hx41) ?_
  refine aa H λr42 q42 H=>nA (ca (hF:=FM.h q42)) ?_
  refine aa H λr43 q43 H=>nA (ca (hF:=FZ.h q43)) ?_
  refine cC H ?_ ?_<;>intro H
  .exact aQ H
  obtain⟨r44,q44,H⟩:=ob H
  rcases hb:r44.2.2 with _|_
  .have H:=bf hb H
   refine tH rfl (ca (hF:=F4 q44 hb)) ?_
   simp only[hb]
   refine wI ?_
   exact aQ H
  have H:=bt hb H
  refine tH rfl (ca (hF:=F5 q44 hb)) ?_
  simp only[hb]
  refine wI ?_
  refine zI (f4 9) ?_
  refine aa H λr45 q45 H=>zA (ca (hF:=(Gn.h q45).frzs (by repeat (first|exact trivial|refine⟨?_,?_⟩|exact lm _|rfl)))) ?_
  obtain⟨h,H⟩:=rq H
  refine zB bK (fQ rfl (apT (enc:=db) (ys:=v39.cA) (zs:=[r45]) h)) bK ?_
  refine wA (spx 100400) ?_
  cases H
  refine tD ?_
  refine an (wS 3 10) ?_
  refine an (wS 4 11) ?_
  refine an (wS 5 16) ?_
  refine an (wS 6 13) ?_
  exact wo
 refine aR H λH=>?_
 cases H
 exact bX⟩
def tj (a0:ah) (a1:Int):Option bI:=
 abU (ke a0.aZ (⟨a1,a0.bg,a0.ag,a0.aX,0,cr,0⟩:aH)) λr1=>some (⟨a0,[r1]⟩:bI)
theorem Kk {a1:Int} {r:bI} (H:tj a0 a1=some r):FnV prog 369 [] [.v (.agg (kM [.f,.f,.f] (c7 a0))),tI a1] [] (.v (.agg (kM [.f,.f,.f,.w 210] (eh r)))) [(210,w43 r.dE)]:=by
 refine fV func369 ntmps369 ?_
 refine zI (f4 8) ?_
 refine aa H λr1 q1 H=>zA (ca (hF:=qh.h q1)) ?_
 refine wA (spx 100420) ?_
 cases H
 refine bF (wS 213 210) ?_
 refine bF ((wB 210 [r1].length)) ?_
 exact cg
def vL (a0:ah) (a1:aH):Option Bool:=
 abU (bif eqB a0.bi 1 then(bif eqB a1.ag a0.ag then(abU (iC a0.aZ a1) λr2=>some r2) else(some false)) else(some false)) λ(v1:Bool)=>some v1
instance Mw {a1:aH} {r:Bool}:FC prog (vL a0 a1=some r) 370 [.agg (bZ a0),.agg (cZ a1)] [.c (.d (.b r))]:=gF func370 ntmps370 (hb 8 4)
def wF (a0:Int) (a1:Int) (a2:Int) (a3:ax):Option (ae×Bool):=
 abU (bif !eqB a3.ag a1 then(some true) else(bif !eqB a3.aX a2 then(some true) else(abU (ph a0 a3) λr2=>some (!r2)))) λ(v1:Bool)=>bif v1 then(some (bT,false)) else(abU (sj a0 a2) λr3=>abU (Ar r3 1 0 a3.bC) λr4=>some ((⟨r4.2.1,r4.1⟩:ae),r4.2.2))
instance J9 {a0:Int} {a1:Int} {a2:Int} {a3:ax} {r:ae×Bool}:FC prog (wF a0 a1 a2 a3=some r) 357 [aI a0,aI a1,aI a2,.agg (db a3)] [.agg (qM [.d] (dh r.1)),.c (.d (.b r.2))]:=⟨λH=>by
 refine fI func357 ntmps357 ?_
 refine aa H λv1 Hj H=>jR ⟨[(0,tI a0),(2,tI a2),(7,tP 0),(8,tP 1),(28,tB v1)],[(0,.var 47 (kM [.f] (iy a3))),(1,.var 131 (kM [.z] (dh bT)))],2⟩ ?_ ?_
 .refine gC Hj ?_ ?_<;>intro H
  .exact ai H
  refine gC H ?_ ?_<;>intro H
  .exact ai H
  refine aa H λr2 q2 H=>nG (ca (hF:=F9.h q2)) ?_
  exact ai H
 refine cC H ?_ ?_<;>intro H
 .cases H
  refine dR (MR (o:=1)) ?_
  exact bX
 refine dI ?_
 refine aa H λr3 q3 H=>dA (ca (hF:=Mj.h q3)) ?_
 refine aa H λr4 q4 H=>dA (ca (hF:=Kc.h q4)) ?_
 refine wI ?_
 cases H
 refine dR (aV (o:=2)) ?_
 refine dR (cz (o:=1)) ?_
 exact bX⟩
def zg (a0:aJ) (a1:aH):Option aY:=
 abU (mK a0.dq a1.cm) λr1=>abU (kS a0) λr2=>bif !eqB r1.2.Code 0 then(some (⟨r2,([]:List aH)⟩:aY)) else(some (⟨{r2 with dq:=r1.1,ag:=a1.ag,aZ:=r1.2.vQ},[(⟨3,a0.bg,a1.ag,0,r1.2.yI,cr,0⟩:aH)]⟩:aY))
instance Mv {a0:aJ} {a1:aH} {r:aY}:FC prog (zg a0 a1=some r) 359 [.agg (c9 a0),.agg (cZ a1)] [.agg (qM [.o,.o,.o] (cd r))]:=gF func359 ntmps359
end Go.AM
