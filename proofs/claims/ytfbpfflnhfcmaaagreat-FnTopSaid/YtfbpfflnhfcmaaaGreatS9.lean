/- A part. -/
import Derived.Test.YtfbpfflnhfcmaaaGreatS8
set_option linter.unusedVariables false
open Option renaming some->ς,none->ξ
open Bool renaming true->ζ,false->η
open True renaming intro->θ
open Option renaming bind->afW
namespace Go.AM
open Go.Proofs
open Tryz
attribute [local irreducible] AWN NS AWO AWR AWC DR DZ dm gK iter
set_option maxRecDepth 100000
set_option maxHeartbeats 40000000
variable{a0:Go.AM.ag}
def qo(a0:ab)(a1:cU):Int->Option (cj (Int) (Bool))
 |v4=>cond (ltB v4 (a0.aH.length:Int)) (afW (ix a0.aH v4) λx5=>afW (qO x5 a1.b8) λr6=>cond r6 (dn (ς ζ)) (ς (.next (WR (v4+1))))) (dn (afW (ix a0.aj a1.b8.aY) λx7=>afW (cond a1.b8.cg (ς (!a1.b8.dF)) (ς η)) λ(v8:Bool)=>cond v8 (afW (cond (ltB a1.b8.bV.ae x7.ae) (ς ζ) (cond (eqB a1.b8.bV.ae x7.ae) (afW (qI x7.aZ a1.b8.bV) λr10=>ς (!r10)) (ς η))) λ(v9:Bool)=>ς v9) (cond a1.b8.cg (ς ζ) (cond a1.b8.dF (afW (ix a0.an a1.b8.aY) λx11=>afW (qP x11 a1.b8.aP) λr12=>ς r12) (afW (nH x7 a1.b8.aP) λr13=>ς r13)))))
def sX(a0:ab)(a1:cU):Option Bool:=
 afW (cond (!eqB a1.bb 13) (ς ζ) (afW (oO a0) λr2=>cond (!r2) (ς ζ) (afW (lu a0 a1.b8) λr3=>ς (!r3)))) λ(v1:Bool)=>cond v1 (ς ζ) (iter (qo a0 a1) FU 0)
instance abL{a0:ab}{a1:cU}{r:Bool}:FC prog (sX a0 a1=ς r) 8 [.agg (eb a0),.agg (Bd a1)] [.c (.d (.b r))]:=gG func8 ntmps8 (hb 13 23) (hl 0 6) (hb 47 44) (hb 58 4)
def Ge(a0:bu)(a1:aA):Option (aG×bu):=
 afW (cS a0 8) λr1=>afW (cond (eqB (WR (1+r1.1)) 2) (afW (mO a1.dq.ID (WR (a1.dq.dh+1))) λr18=>afW (jw a1.dq.eV r18 (WR (a1.dq.dh+1))) λr19=>afW (jY r1.2 3) λr20=>afW (cond r20.1 (afW (BG r20.2) λr31=>ς (r31.2,(⟨WR (1+r1.1),a1.aS,WR (a1.dq.dh+1),a1.aK,0,r31.1,0⟩:aG))) (ς (r20.2,(⟨WR (1+r1.1),a1.aS,WR (a1.dq.dh+1),a1.aK,0,r19,0⟩:aG)))) λ((v29,v30):bu×aG)=>ς (v29,v30)) (afW (cond (eqB (WR (1+r1.1)) 4) (afW (cS r1.2 5) λr37=>ς (r37.1,r37.2)) (ς (a1.aK,r1.2))) λ((v35,v36):Int×bu)=>ς (v36,(⟨WR (1+r1.1),a1.aS,a1.ae,v35,0,cO,0⟩:aG)))) λ((v16,v17):bu×aG)=>afW (kR a1.aZ v17) λr38=>afW (cS v16 8) λr39=>afW (cond (eqB r39.1 0) (afW (BF r39.2) λr56=>ς (r56.2,{r38 with kr:=r56.1})) (afW (cond (eqB r39.1 1) (afW (cS r39.2 7) λr64=>ς (r64.2,{r38 with aS:=WR (r64.1-1)})) (afW (cond (eqB r39.1 2) (ς (WR (r38.ae+1))) (ς r38.ae)) λ(v65:Int)=>ς (r39.2,{r38 with ae:=v65}))) λ((v62,v63):bu×aG)=>ς (v62,v63))) λ((v54,v55):bu×aG)=>ς (v55,v54)
instance sl29Ctl_c{a0:bu}{a1:aA}{r:aG×bu}:FCW prog (Ge a0 a1=ς r) 241 (.var 124 (kM [.f] (cB a0))) [tP 200,.v (.agg (kM [.f,.f] (mB a1)))] (.var 124 (kM [.f] (cB r.2))) [.agg (qM [] (ij r.1))]:=gW func241 ntmps241 (hC 23 (λ(v:bu×aG) sl ob nx=>⟨sl,[(200,.var 124 (kM [.f] (cB v.1))),(212,.var 42 (kM [] (ij v.2)))]++ob,nx⟩)) (hC 39 (λ(v:bu×aG) sl ob nx=>⟨sl,[(200,.var 124 (kM [.f] (cB v.1))),(212,.var 42 (kM [] (ij v.2)))]++ob,nx⟩)) (hz 6) (hC 43 (λ(v:Int×bu) sl ob nx=>⟨sl,[(200,.var 124 (kM [.f] (cB v.2)))]++(uC 212 3 [.d η (.i .i64 v.1)] ob),nx⟩)) (hC 54 (λ(v:bu×aG) sl ob nx=>⟨sl,[(200,.var 124 (kM [.f] (cB v.1))),(212,.var 42 (kM [] (ij v.2)))]++fO [210] ob,nx⟩)) (hC 59 (λ(v:bu×aG) sl ob nx=>⟨sl,[(200,.var 124 (kM [.f] (cB v.1))),(212,.var 42 (kM [] (ij v.2)))]++fO [210] ob,nx⟩)) (hC 65 (λ(v:Int) sl ob nx=>⟨sl,uC 212 2 [.d η (.i .i64 v)] ob,nx⟩)) (hz 2)
def y9(a0:bu)(a1:ag):Option (aG×bu):=
 afW (cS a0 8) λr1=>afW (cS r1.2 5) λr2=>afW (cS r2.2 3) λr3=>afW (cS r3.2 2) λr4=>afW (cond (eqB (WR (1+r1.1)) 3) (ς (r4.2,(⟨WR (1+r1.1),r2.1,a1.bA,WR ((WR (a1.aK+r3.1))-r4.1),a1.aV.vB,cO,0⟩:aG))) (afW (cond (eqB (WR (1+r1.1)) 8) (afW (cS r4.2 4) λr17=>afW (cS r17.2 2) λr18=>afW (Ic 0 (WR ((WR (a1.ax.bw-r17.1))+r18.1))) λr19=>ς (r19,r18.2)) (ς (0,r4.2))) λ((v15,v16):Int×bu)=>ς (v16,(⟨WR (1+r1.1),r2.1,a1.ae,WR ((WR (a1.aK+r3.1))-r4.1),v15,cO,0⟩:aG)))) λ((v10,v11):bu×aG)=>afW (kR a1.aZ v11) λr20=>afW (cS v10 8) λr21=>afW (cond (eqB r21.1 0) (afW (BF r21.2) λr38=>ς (r38.2,{r20 with kr:=r38.1})) (afW (cond (eqB r21.1 1) (ς {r20 with bP:=WR (r20.bP+1)}) (afW (cond (eqB r21.1 2) (ς (WR (r20.ae+1))) (ς r20.ae)) λ(v42:Int)=>ς {r20 with ae:=v42})) λ(v41:aG)=>ς (r21.2,v41))) λ((v36,v37):bu×aG)=>ς (v37,v36)
instance adU{a0:bu}{a1:ag}{r:aG×bu}:FCW prog (y9 a0 a1=ς r) 242 (.var 124 (kM [.f] (cB a0))) [tP 200,.v (.agg (kM [.f,.f,.f] (dO a1)))] (.var 124 (kM [.f] (cB r.2))) [.agg (qM [] (ij r.1))]:=gW func242 ntmps242 (hC 24 (λ(v:bu×aG) sl ob nx=>⟨sl,[(200,.var 124 (kM [.f] (cB v.1))),(212,.var 42 (kM [] (ij v.2)))]++ob,nx⟩)) (hC 33 (λ(v:Int×bu) sl ob nx=>⟨sl,[(200,.var 124 (kM [.f] (cB v.2)))]++(uC 212 4 [.d η (.i .i64 v.1)] ob),nx⟩)) (hz 7) (hC 52 (λ(v:bu×aG) sl ob nx=>⟨sl,[(200,.var 124 (kM [.f] (cB v.1))),(212,.var 42 (kM [] (ij v.2)))]++fO [210] ob,nx⟩)) (hC 57 (λ(v:aG) sl ob nx=>⟨sl,[(212,.var 42 (kM [] (ij v)))]++fO [210] ob,nx⟩)) (hC 63 (λ(v:Int) sl ob nx=>⟨sl,uC 212 2 [.d η (.i .i64 v)] ob,nx⟩)) (hz 1)
def xZ(a0:aA):Option aG:=
 afW (kR a0.aZ (⟨5,a0.aS,a0.ae,a0.aK,0,cO,0⟩:aG)) λr1=>ς r1
instance sl29Path_c{a0:aA}{r:aG}:FC prog (xZ a0=ς r) 311 [.agg (dR a0)] [.agg (qM [] (ij r))]:=gG func311 ntmps311
def wC(a0:aA):Option bi:=
 afW (lO a0) λr1=>cond (ltB 0 a0.dy) (ς (⟨{r1 with dy:=WR (a0.dy-1)},([]:List aG)⟩:bi)) (cond (eqB a0.aX 1) (afW (vl a0) λr2=>afW (oF r1 r2) λr3=>ς r3) (afW (cond (eqB a0.aX 2) (ς (!a0.bT)) (ς η)) λ(v4:Bool)=>cond v4 (afW (xZ a0) λr5=>afW (oF r1 r5) λr6=>ς r6) (ς (⟨r1,([]:List aG)⟩:bi))))
instance abU{a0:aA}{r:bi}:FC prog (wC a0=ς r) 244 [.agg (dR a0)] [.agg (qM [.d,.d,.o] (dr r))]:=gG func244 ntmps244 (hz 5) (hb 26 22) (hz 7)
def AY(a0:ag)(a1:ah):Option aF:=
 afW (vg a0.aZ a0.ae a0.aK a1) λr1=>ς r1
instance Rt{a1:ah}{r:aF}:FC prog (AY a0 a1=ς r) 353 [.agg (cr a0),.agg (bC a1)] [.agg (qM [.o] (kf r))]:=gG func353 ntmps353
def kJ(a0:ag):(Int×List aF)->Option (cj (Int×List aF) (List aF))
 |(v1,v2)=>afW (cond (ltB v1 (a0.ax.aJ.length:Int)) (cond (ltB v1 2) (ς (eqB a0.aX 1)) (ς η)) (ς η)) λ(v7:Bool)=>cond v7 (afW (ix a0.ax.aJ v1) λx8=>afW (AY a0 x8) λr9=>cond (da 64 (v2++[r9]).length) (ς (.next (WR (v1+1),(v2++[r9])))) ξ) (ς (.done v2))
def pu(a0:ag):Option (List aF):=
 afW (iter (kJ a0) FU (0,([]:List aF))) λ(v6:List aF)=>ς v6
instance B7{r:List aF}:FC prog (pu a0=ς r) 316 [.agg (cr a0)] [.c (.own 46 6 (r.map df) r.length)]:=gG func316 ntmps316 (hL 0 (λ(v:Int×List aF) sl ob nx=>⟨(3,.v (.c (.w 1 v.2.length)))::(4,tI v.1)::xS [1] sl,[(1,w46 v.2)]++ob,nx⟩)) (hB 0 (λ(v:List aF) sl ob nx=>⟨(3,.v (.c (.w 1 v.length)))::(4,.any)::xS [1] sl,[(1,w46 v)]++ob,nx⟩)) (hb 12 20) (hx 31) (hz 5)
def wz(a0:ag):(Int×bM)->Option (cj (Int×bM) (bM))
 |(v3,v39)=>afW (cond (ltB v3 2) (cond (leB v39.aM.ax.bw (a0.aC.length:Int)) (ς (ltB (v39.aM.ax.aJ.length:Int) 8)) (ς η)) (ς η)) λ(v40:Bool)=>cond v40 (afW (ix a0.aC (WR (v39.aM.ax.bw-1))) λx41=>afW (t9 v39.aM v39.cT (x41.bh.length:Int)) λr42=>afW (qz r42.1 (x41.bh.length:Int)) λr43=>cond (ltB 0 r43) (dn (ς {v39 with aM:=r42.1,cT:=r42.2})) (afW (s6 r42.1.ax x41.bh) λr44=>cond r44.2.2 (afW (AY a0 r44.2.1) λr45=>cond (da 64 (v39.bV++[r45]).length) (ς (.next (WR (v3+1),(⟨{r42.1 with ax:=r44.1},r42.2,v39.fj,(v39.bV++[r45])⟩:bM)))) ξ) (dn (ς {v39 with aM:=r42.1,cT:=r42.2})))) (dn (ς v39))
def AL(a0:ag)(a1:av):Option bM:=
 afW (vq a0 a1) λr1=>afW (AW a0) λr2=>cond r2 (ς r1) (iter (wz a0) FU (0,r1))
instance Ij{a1:av}{r:bM}:FC prog (AL a0 a1=ς r) 317 [.agg (cr a0),.agg (dw a1)] [.agg (qM [.o,.o,.o,.o,.o,.o] (cd r))]:=⟨λH=>by
 refine fI func317 ntmps317 ?_
 refine aa H λr1 q1 H=>nA (ca (hF:=IA.h q1)) ?_
 refine aa H λr2 q2 H=>nA (ca (hF:=Iz.h q2)) ?_
 refine cC H ?_ ?_<;>intro H
 .exact ao H
 refine iT H (λq=>⟨[(2,tP 0),(4,tP 2),(5,tP 9),(6,tI q.1)],(oM [.w 3,.w 4,.w 5,.w 6,.w 7,.w 8] 9 173 (cd q.2)++[(0,.var 93 (kM [.f,.f,.f] (dO a0))),(2,.var 173 (kM [.z,.z,.z,.z,.z,.z] (cd cz)))]),10⟩) ?_
 rintro⟨v3,v39⟩ o H
 refine ad ?_
 refine aa H λv40 Hj H=>jR ⟨[(2,tP 0),(4,tP 2),(5,tP 9),(6,tI v3),(38,tB v40)],(oM [.w 3,.w 4,.w 5,.w 6,.w 7,.w 8] 9 173 (cd v39)++[(0,.var 93 (kM [.f,.f,.f] (dO a0))),(2,.var 173 (kM [.z,.z,.z,.z,.z,.z] (cd cz)))]),10⟩ ?_ ?_
 .exact az Hj
 refine cC H ?_ ?_<;>intro H
 .refine aa H λx41 hx41 H=>nA (xdT (enc:=eT) hx41) ?_
  refine aa H λr42 q42 H=>nA (ca (hF:=H9.h q42)) ?_
  refine aa H λr43 q43 H=>nA (ca (hF:=Ig.h q43)) ?_
  refine cC H ?_ ?_<;>intro H
  .exact aQ H
  obtain⟨r44,q44,H⟩:=ob H
  rcases hb:r44.2.2 with _|_
  .have H:=bf hb H
   refine sI rfl (ca (hF:=Ik q44 hb)) ?_
   simp only[hb]
   refine wI ?_
   exact aQ H
  have H:=bt hb H
  refine sI rfl (ca (hF:=Il q44 hb)) ?_
  simp only[hb]
  refine wI ?_
  refine zI (List.range 9) ?_
  refine aa H λr45 q45 H=>zA (ca (hF:=(Rt.h q45).frzs (by repeat (first|exact θ|refine⟨?_,?_⟩|exact lm _|rfl)))) ?_
  obtain⟨h,H⟩:=rq H
  refine zB dV (vG rfl (apT (enc:=df) (ys:=v39.bV) (zs:=[r45]) h)) dV ?_
  refine wA (spx 100400) ?_
  cases H
  refine Ey ?_
  refine bz (wS 3 10) ?_
  refine bz (wS 4 11) ?_
  refine bz (wS 5 16) ?_
  refine bz (wS 6 13) ?_
  exact wo
 refine aR H λH=>?_
 cases H
 exact jL⟩
def vp(a0:ag)(a1:Int):Option bJ:=
 afW (kR a0.aZ (⟨a1,a0.aS,a0.ae,a0.aK,0,cO,0⟩:aG)) λr1=>ς (⟨a0,[r1]⟩:bJ)
instance adV{a1:Int}{r:bJ}:FCV prog (vp a0 a1=ς r) 368 [] [.v (.agg (kM [.f,.f,.f] (dO a0))),tI a1] [] (.v (.agg (kM [.f,.f,.f,.w 210] (ev r)))) [(210,w42 r.bY)]:=gV func368 ntmps368 (hz 2)
def ya(a0:ag)(a1:aG):Option Bool:=
 afW (cond (eqB a0.aX 1) (cond (eqB a1.ae a0.ae) (afW (ji a0.aZ a1) λr2=>ς r2) (ς η)) (ς η)) λ(v1:Bool)=>ς v1
instance aeV{a1:aG}{r:Bool}:FC prog (ya a0 a1=ς r) 383 [.agg (cr a0),.agg (dE a1)] [.c (.d (.b r))]:=gG func383 ntmps383 (hb 8 4)
def yW(a0:Int)(a1:Int)(a2:Int)(a3:aF):Option (ah×Bool):=
 afW (cond (!eqB a3.ae a1) (ς ζ) (cond (!eqB a3.aK a2) (ς ζ) (afW (qI a0 a3) λr2=>ς (!r2)))) λ(v1:Bool)=>cond v1 (ς (b7,η)) (afW (uw a0 a2) λr3=>afW (CJ r3 1 0 a3.bO) λr4=>ς ((⟨r4.2.1,r4.1⟩:ah),r4.2.2))
instance adE{a0:Int}{a1:Int}{a2:Int}{a3:aF}{r:ah×Bool}:FC prog (yW a0 a1 a2 a3=ς r) 360 [aI a0,aI a1,aI a2,.agg (df a3)] [.agg (qM [.d] (ec r.1)),.c (.d (.b r.2))]:=gG func360 ntmps360 (hb 17 28)
def BB(a0:aA)(a1:aG):Option bi:=
 afW (nR a0.dq a1.bZ) λr1=>afW (lO a0) λr2=>cond (!eqB r1.2.Code 0) (ς (⟨r2,([]:List aG)⟩:bi)) (ς (⟨{r2 with dq:=r1.1,ae:=a1.ae,aZ:=r1.2.yg},[(⟨3,a0.aS,a1.ae,0,r1.2.vB,cO,0⟩:aG)]⟩:bi))
instance aeT{a0:aA}{a1:aG}{r:bi}:FC prog (BB a0 a1=ς r) 362 [.agg (dR a0),.agg (dE a1)] [.agg (qM [.o,.o,.o] (dr r))]:=gG func362 ntmps362
end Go.AM
