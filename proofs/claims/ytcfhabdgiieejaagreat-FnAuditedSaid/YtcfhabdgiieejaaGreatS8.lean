/- A part. -/
import Derived.Test.YtcfhabdgiieejaaGreatS7
set_option linter.unusedVariables false
open Option renaming bind->abJ
open List renaming range->f5
namespace Go.AM
open Go.Proofs
open Tryz
attribute [local irreducible] AWN NS AWO AWR AWC DR DZ dQ f9 iter
set_option maxRecDepth 100000
set_option maxHeartbeats 40000000
variable {a0:Go.AM.ah}
def oJ (a0:ab) (a1:cX):Int->Option (cr (Int) (Bool))
 |v4=>bif ltB v4 (a0.aT.length:Int) then(abJ (ix a0.aT v4) λx5=>abJ (lQ x5 a1.bD) λr6=>bif r6 then(dn (some true)) else(some (.next (WR (v4+1))))) else(dn (abJ (ix a0.aw a1.bD.bm) λx7=>abJ (bif a1.bD.dZ then(some (!a1.bD.eG)) else(some false)) λ(v8:Bool)=>bif v8 then(abJ (bif ltB a1.bD.co.ag x7.ag then(some true) else(bif eqB a1.bD.co.ag x7.ag then(abJ (o4 x7.aZ a1.bD.co) λr10=>some (!r10)) else(some false))) λ(v9:Bool)=>some v9) else(bif a1.bD.dZ then(some true) else(bif a1.bD.eG then(abJ (ix a0.aA a1.bD.bm) λx11=>abJ (pa x11 a1.bD.bg) λr12=>some r12) else(abJ (mh x7 a1.bD.bg) λr13=>some r13)))))
def nJ (a0:ab) (a1:cX):Option Bool:=
 abJ (bif !eqB a1.a8 13 then(some true) else(abJ (na a0) λr2=>bif !r2 then(some true) else(abJ (kh a0 a1.bD) λr3=>some (!r3)))) λ(v1:Bool)=>bif v1 then(some true) else(iter (oJ a0 a1) FU 0)
instance uW {a0:ab} {a1:cX} {r:Bool}:FC prog (nJ a0 a1=some r) 9 [.agg (fG a0),.agg (yR a1)] [.c (.d (.b r))]:=gF func9 ntmps9 (hb 13 23) (hl 0 6) (hb 47 44) (hb 58 4)
def wO (a0:bk) (a1:ah):Option (aF×bk):=
 abJ (cH a0 8) λr1=>abJ (cH r1.2 5) λr2=>abJ (cH r2.2 3) λr3=>abJ (cH r3.2 2) λr4=>abJ (bif eqB (WR (1+r1.1)) 3 then(some (r4.2,(⟨WR (1+r1.1),r2.1,a1.bI,WR ((WR (a1.aV+r3.1))-r4.1),a1.aK.w8,cp,0⟩:aF))) else(abJ (bif eqB (WR (1+r1.1)) 8 then(abJ (cH r4.2 4) λr17=>abJ (cH r17.2 2) λr18=>abJ (FB 0 (WR ((WR (a1.ax.bE-r17.1))+r18.1))) λr19=>some (r19,r18.2)) else(some (0,r4.2))) λ((v15,v16):Int×bk)=>some (v16,(⟨WR (1+r1.1),r2.1,a1.ag,WR ((WR (a1.aV+r3.1))-r4.1),v15,cp,0⟩:aF)))) λ((v10,v11):bk×aF)=>abJ (jO a1.aZ v11) λr20=>abJ (cH v10 8) λr21=>abJ (bif eqB r21.1 0 then(abJ (zl r21.2) λr38=>some (r38.2,{r20 with iK:=r38.1})) else(abJ (bif eqB r21.1 1 then(some {r20 with bV:=WR (r20.bV+1)}) else(abJ (bif eqB r21.1 2 then(some (WR (r20.ag+1))) else(some r20.ag)) λ(v42:Int)=>some {r20 with ag:=v42})) λ(v41:aF)=>some (r21.2,v41))) λ((v36,v37):bk×aF)=>some (v37,v36)
theorem JY {a0:bk} {a1:ah} {r:aF×bk} (H:wO a0 a1=some r):FnW prog 255 (.var 125 (kM [.f] (cj a0))) [tP 200,.v (.agg (kM [.f,.f,.f] (c7 a1)))] (.var 125 (kM [.f] (cj r.2))) [.agg (qM [] (d6 r.1))]:=by
 refine fW func255 ntmps255 ?_
 refine zI (f5 18) ?_
 refine aa H λr1 q1 H=>wA (cwx (o:=200) (cm q1)) ?_
 refine aa H λr2 q2 H=>wA (cwx (o:=200) (cm q2)) ?_
 refine aa H λr3 q3 H=>wA (cwx (o:=200) (cm q3)) ?_
 refine aa H λr4 q4 H=>wA (cwx (o:=200) (cm q4)) ?_
 refine wA (spx 100494) ?_
 obtain⟨⟨v10,v11⟩,Hj,H⟩:=ob H
 refine jA ⟨[(0,tP 200),(3,tP 210),(4,tP 211),(5,tP 212)],[(200,.var 125 (kM [.f] (cj v10))),(210,.var 93 (kM [.f,.f,.f] (c7 a1))),(211,.var 42 (kM [] (d6 d9))),(212,.var 42 (kM [] (d6 v11)))],213⟩ ?_ ?_
 .refine cC Hj ?_ ?_<;>intro H
  .exact ai H
  obtain⟨⟨v15,v16⟩,Hj,H⟩:=ob H
  refine jA ⟨[(0,tP 200),(3,tP 210),(4,tP 211),(5,tP 212)],[(200,.var 125 (kM [.f] (cj v16))),(210,.var 93 (kM [.f,.f,.f] (c7 a1))),(211,.var 42 (kM [] (d6 d9))),(212,.var 42 (kM [] (d6 (⟨WR (1+r1.1),r2.1,a1.ag,WR ((WR (a1.aV+r3.1))-r4.1),v15,cp,0⟩:aF))))],213⟩ ?_ ?_
  .refine cC Hj ?_ ?_<;>intro H
   .refine zI (f5 12) ?_
    refine aa H λr17 q17 H=>wA (cwx (o:=200) (cm q17)) ?_
    refine aa H λr18 q18 H=>wA (cwx (o:=200) (cm q18)) ?_
    refine aa H λr19 q19 H=>zA (ca (hF:=VE.h q19)) ?_
    refine wA (spx 100493) ?_
    exact ai H
   exact ai H
  exact ai H
 refine aa H λr20 q20 H=>nA (ca (hF:=uY.h q20)) ?_
 refine aa H λr21 q21 H=>sA (cw (o:=200) (cm q21)) ?_
 obtain⟨⟨v36,v37⟩,Hj,H⟩:=ob H
 refine jA ⟨[(4,tP 211),(5,tP 212)],[(200,.var 125 (kM [.f] (cj v36))),(211,.var 42 (kM [] (d6 d9))),(212,.var 42 (kM [] (d6 v37)))],213⟩ ?_ ?_
 .refine cC Hj ?_ ?_<;>intro H
  .refine aa H λr38 q38 H=>sA (cw (o:=200) (CD q38)) ?_
   exact ai H
  refine aa H λv41 Hj H=>jA ⟨[(4,tP 211),(5,tP 212)],[(200,.var 125 (kM [.f] (cj r21.2))),(211,.var 42 (kM [] (d6 d9))),(212,.var 42 (kM [] (d6 v41)))],213⟩ ?_ ?_
  .refine cC Hj ?_ ?_<;>intro H
   .exact ai H
   refine aa H λv42 Hj H=>jA ⟨[(4,tP 211),(5,tP 212)],[(200,.var 125 (kM [.f] (cj r21.2))),(211,.var 42 (kM [] (d6 d9))),(212,.var 42 (kM [] (d6 {r20 with ag:=v42})))],213⟩ ?_ ?_
   .exact az Hj
   exact ai H
  exact ai H
 cases H
 exact f8
def vI (a0:aG):Option aF:=
 abJ (jO a0.aZ (⟨5,a0.bh,a0.ag,a0.aV,0,cp,0⟩:aF)) λr1=>some r1
instance N5 {a0:aG} {r:aF}:FC prog (vI a0=some r) 326 [.agg (cF a0)] [.agg (qM [] (d6 r))]:=gF func326 ntmps326
def uk (a0:aG):Option aX:=
 abJ (kE a0) λr1=>bif ltB 0 a0.fo then(some (⟨{r1 with fo:=WR (a0.fo-1)},([]:List aF)⟩:aX)) else(bif eqB a0.bp 1 then(abJ (ti a0) λr2=>abJ (mS r1 r2) λr3=>some r3) else(abJ (bif eqB a0.bp 2 then(some (!a0.cq)) else(some false)) λ(v4:Bool)=>bif v4 then(abJ (vI a0) λr5=>abJ (mS r1 r5) λr6=>some r6) else(some (⟨r1,([]:List aF)⟩:aX))))
instance G7 {a0:aG} {r:aX}:FC prog (uk a0=some r) 257 [.agg (cF a0)] [.agg (qM [.d,.d,.o] (dm r))]:=gF func257 ntmps257 (hz 5) (hb 26 22) (hz 7)
def yE (a0:ah) (a1:ae):Option av:=
 abJ (tc a0.aZ a0.ag a0.aV a1) λr1=>some r1
instance F8 {a1:ae} {r:av}:FC prog (yE a0 a1=some r) 366 [.agg (bS a0),.agg (aM a1)] [.agg (qM [.o] (jf r))]:=gF func366 ntmps366
def jL (a0:ah):(Int×List av)->Option (cr (Int×List av) (List av))
 |(v1,v2)=>abJ (bif ltB v1 (a0.ax.aC.length:Int) then(bif ltB v1 2 then(some (eqB a0.bp 1)) else(some false)) else(some false)) λ(v7:Bool)=>bif v7 then(abJ (ix a0.ax.aC v1) λx8=>abJ (yE a0 x8) λr9=>bif da 64 (v2++[r9]).length then(some (.next (WR (v1+1),(v2++[r9])))) else none) else(some (.done v2))
def nK (a0:ah):Option (List av):=
 abJ (iter (jL a0) FU (0,([]:List av))) λ(v6:List av)=>some v6
instance zX {r:List av}:FC prog (nK a0=some r) 331 [.agg (bS a0)] [.c (.own 46 6 (r.map cN) r.length)]:=⟨λH=>by
 refine fI func331 ntmps331 ?_
 refine aa H λv6 Hj H=>jB ⟨[(3,.v (.c (.w 1 v6.length)))],[(1,w46 v6)],2⟩ ?_ ?_
 .refine iT Hj (λq=>⟨[(1,tP 0),(3,.v (.c (.w 1 q.2.length))),(4,tI q.1)],[(0,.var 93 (kM [.f,.f,.f] (c7 a0))),(1,w46 q.2)],2⟩) ?_
  rintro⟨v1,v2⟩ o H
  refine ad ?_
  refine aa H λv7 Hj H=>jR ⟨[(1,tP 0),(3,.v (.c (.w 1 v2.length))),(4,tI v1),(20,tB v7)],[(0,.var 93 (kM [.f,.f,.f] (c7 a0))),(1,w46 v2)],2⟩ ?_ ?_
  .exact az Hj
  refine cC H ?_ ?_<;>intro H
  .refine zI (f5 12) ?_
   refine aa H λx8 hx8 H=>zA (xdT (enc:=aM) hx8) ?_
   refine aa H λr9 q9 H=>zA (ca (hF:=(F8.h q9).frzs (by repeat (first|exact trivial|refine⟨?_,?_⟩|exact lm _|rfl)))) ?_
   obtain⟨h,H⟩:=rq H
   refine wA (apx (enc:=cN) (ys:=v2) (zs:=[r9]) [1,2] h) ?_
   refine mU (ds:=[1]) (by kernel_rfl) (by kernel_rfl) rfl ?_
   refine wI ?_
   cases H
   refine sV ?_
   refine am (wS 1 3) ?_
   exact wo
  exact aE H
 cases H
 exact dM⟩
def uj (a0:ah):(Int×bO)->Option (cr (Int×bO) (bO))
 |(v3,v39)=>abJ (bif ltB v3 2 then(bif leB v39.aU.ax.bE (a0.aH.length:Int) then(some (ltB (v39.aU.ax.aC.length:Int) 8)) else(some false)) else(some false)) λ(v40:Bool)=>bif v40 then(abJ (ix a0.aH (WR (v39.aU.ax.bE-1))) λx41=>abJ (rQ v39.aU v39.eu (x41.a9.length:Int)) λr42=>abJ (oS r42.1 (x41.a9.length:Int)) λr43=>bif ltB 0 r43 then(dn (some {v39 with aU:=r42.1,eu:=r42.2})) else(abJ (qG r42.1.ax x41.a9) λr44=>bif r44.2.2 then(abJ (yE a0 r44.2.1) λr45=>bif da 64 (v39.co++[r45]).length then(some (.next (WR (v3+1),(⟨{r42.1 with ax:=r44.1},r42.2,v39.ju,(v39.co++[r45])⟩:bO)))) else none) else(dn (some {v39 with aU:=r42.1,eu:=r42.2})))) else(dn (some v39))
def yx (a0:ah) (a1:aj):Option bO:=
 abJ (tl a0 a1) λr1=>abJ (yC a0) λr2=>bif r2 then(some r1) else(iter (uj a0) FU (0,r1))
instance FL {a1:aj} {r:bO}:FC prog (yx a0 a1=some r) 332 [.agg (bS a0),.agg (cM a1)] [.agg (qM [.o,.o,.o,.o,.o,.o] (bB r))]:=⟨λH=>by
 refine fI func332 ntmps332 ?_
 refine aa H λr1 q1 H=>nA (ca (hF:=AC.h q1)) ?_
 refine aa H λr2 q2 H=>nA (ca (hF:=F6.h q2)) ?_
 refine cC H ?_ ?_<;>intro H
 .exact ao H
 refine iT H (λq=>⟨[(2,tP 0),(4,tP 2),(5,tP 9),(6,tI q.1)],(oM [.w 3,.w 4,.w 5,.w 6,.w 7,.w 8] 9 174 (bB q.2)++[(0,.var 93 (kM [.f,.f,.f] (c7 a0))),(2,.var 174 (kM [.z,.z,.z,.z,.z,.z] (bB ci)))]),10⟩) ?_
 rintro⟨v3,v39⟩ o H
 refine ad ?_
 refine aa H λv40 Hj H=>jR ⟨[(2,tP 0),(4,tP 2),(5,tP 9),(6,tI v3),(38,tB v40)],(oM [.w 3,.w 4,.w 5,.w 6,.w 7,.w 8] 9 174 (bB v39)++[(0,.var 93 (kM [.f,.f,.f] (c7 a0))),(2,.var 174 (kM [.z,.z,.z,.z,.z,.z] (bB ci)))]),10⟩ ?_ ?_
 .exact az Hj
 refine cC H ?_ ?_<;>intro H
 .refine aa H λx41 hx41 H=>nA (xdT (enc:=dN) hx41) ?_
  refine aa H λr42 q42 H=>nA (ca (hF:=Fz.h q42)) ?_
  refine aa H λr43 q43 H=>nA (ca (hF:=FH.h q43)) ?_
  refine cC H ?_ ?_<;>intro H
  .exact aQ H
  obtain⟨r44,q44,H⟩:=ob H
  rcases hb:r44.2.2 with _|_
  .have H:=bf hb H
   refine tF rfl (ca (hF:=FM q44 hb)) ?_
   simp only[hb]
   refine wI ?_
   exact aQ H
  have H:=bt hb H
  refine tF rfl (ca (hF:=FN q44 hb)) ?_
  simp only[hb]
  refine wI ?_
  refine zI (f5 9) ?_
  refine aa H λr45 q45 H=>zA (ca (hF:=(F8.h q45).frzs (by repeat (first|exact trivial|refine⟨?_,?_⟩|exact lm _|rfl)))) ?_
  obtain⟨h,H⟩:=rq H
  refine zB bC (fg rfl (apT (enc:=cN) (ys:=v39.co) (zs:=[r45]) h)) bC ?_
  refine wA (spx 100570) ?_
  cases H
  refine sV ?_
  refine am (wS 3 10) ?_
  refine am (wS 4 11) ?_
  refine am (wS 5 16) ?_
  refine am (wS 6 13) ?_
  exact wo
 refine aR H λH=>?_
 cases H
 exact dM⟩
def tk (a0:ah) (a1:Int):Option bN:=
 abJ (jO a0.aZ (⟨a1,a0.bh,a0.ag,a0.aV,0,cp,0⟩:aF)) λr1=>some (⟨a0,[r1]⟩:bN)
instance Yv {a1:Int} {r:bN}:FCV prog (tk a0 a1=some r) 380 [] [.v (.agg (kM [.f,.f,.f] (c7 a0))),tI a1] [] (.v (.agg (kM [.f,.f,.f,.w 210] (ef r)))) [(210,w42 r.dy)]:=⟨λH=>by
 refine fV func380 ntmps380 ?_
 refine zI (f5 8) ?_
 refine aa H λr1 q1 H=>zA (ca (hF:=uY.h q1)) ?_
 refine wA (spx 100590) ?_
 cases H
 refine bA (wS 213 210) ?_
 refine bA ((wB 210 [r1].length)) ?_
 exact bj⟩
def mf (a0:ah) (a1:aF):Option bN:=
 abJ (bif leB a0.bI 0 then(some true) else(bif !eqB a1.ag a0.bI then(some true) else(abJ (pH a0.aK a1.bV) λr2=>bif !r2 then(some true) else(some (leB 999999 a0.aV))))) λ(v1:Bool)=>bif v1 then(abJ (o6 a0) λr3=>some r3) else(abJ (i9 a0) λr4=>abJ (tk (⟨r4.bF,r4.gT,1,cp,0,a0.bI,a0.aK.eX,WR (a0.aV+1),a1.bh,0,et,r4.aH,r4.ax,r4.dP,r4.b9⟩:ah) 4) λr5=>some r5)
instance NJ {a1:aF} {r:bN}:FC prog (mf a0 a1=some r) 345 [.agg (bS a0),.agg (cU a1)] [.agg (qM [.d,.d,.d,.o] (ef r))]:=gF func345 ntmps345 (hb 9 28)
def vJ (a0:ah) (a1:aF):Option Bool:=
 abJ (bif eqB a0.bp 1 then(bif eqB a1.ag a0.ag then(abJ (im a0.aZ a1) λr2=>some r2) else(some false)) else(some false)) λ(v1:Bool)=>some v1
instance Zk {a1:aF} {r:Bool}:FC prog (vJ a0 a1=some r) 392 [.agg (bS a0),.agg (cU a1)] [.c (.d (.b r))]:=gF func392 ntmps392 (hb 8 4)
def wE (a0:Int) (a1:Int) (a2:Int) (a3:av):Option (ae×Bool):=
 abJ (bif !eqB a3.ag a1 then(some true) else(bif !eqB a3.aV a2 then(some true) else(abJ (o4 a0 a3) λr2=>some (!r2)))) λ(v1:Bool)=>bif v1 then(some (bT,false)) else(abJ (sv a0 a2) λr3=>abJ (Av r3 1 0 a3.bz) λr4=>some ((⟨r4.2.1,r4.1⟩:ae),r4.2.2))
instance Yi {a0:Int} {a1:Int} {a2:Int} {a3:av} {r:ae×Bool}:FC prog (wE a0 a1 a2 a3=some r) 373 [aI a0,aI a1,aI a2,.agg (cN a3)] [.agg (qM [.d] (dq r.1)),.c (.d (.b r.2))]:=gF func373 ntmps373 (hb 17 28)
def zi (a0:aG) (a1:aF):Option aX:=
 abJ (my a0.dr a1.cd) λr1=>abJ (kE a0) λr2=>bif !eqB r1.2.Code 0 then(some (⟨r2,([]:List aF)⟩:aX)) else(some (⟨{r2 with dr:=r1.1,ag:=a1.ag,aZ:=r1.2.vO},[(⟨3,a0.bh,a1.ag,0,r1.2.w8,cp,0⟩:aF)]⟩:aX))
instance Zi {a0:aG} {a1:aF} {r:aX}:FC prog (zi a0 a1=some r) 375 [.agg (cF a0),.agg (cU a1)] [.agg (qM [.o,.o,.o] (dm r))]:=gF func375 ntmps375
end Go.AM
