/- A part. -/
import Derived.Test.YtfbpfflnhfcmaaaGreatI7
set_option linter.unusedVariables false
open Option renaming some->ς,none->ξ
open Bool renaming true->ζ,false->η
open True renaming intro->θ
open Option renaming bind->afW
namespace Go.AM
open Go.Proofs
open Tryz
attribute [local irreducible] AWN NS AWO AWR AWC DR DZ dm gK iter
set_option maxRecDepth 100000
set_option maxHeartbeats 40000000
def Dp(a0:ab):(Int×ab)->Option (cj (Int×ab) (ab))
 |(v1,v12)=>cond (ltB v1 (a0.aj.length:Int)) (afW (ix v12.aj v1) λx27=>afW (vZ x27) λr28=>afW (ic v12 v1 r28) λr29=>ς (.next (WR (v1+1),r29))) (ς (.done v12))
def xE(v30:Int)(v159:bM):(Int×ab)->Option (cj (Int×ab) (ab))
 |(v166,v177)=>cond (ltB v166 (v159.bV.length:Int)) (afW (ix v159.bV v166) λx191=>afW (we v177 (⟨v30,η,ζ,v159.aM.aS,fH,x191⟩:bg)) λr192=>ς (.next (WR (v166+1),r192))) (ς (.done v177))
def Dq(v26:ab):(Int×ab)->Option (cj (Int×ab) (ab))
 |(v30,v41)=>cond (ltB v30 (v26.an.length:Int)) (afW (afW (ix v41.an v30) λx160=>afW (ix v41.aT v30) λx161=>afW (tN x160 x161 v41.cp) λr162=>ς r162) λ(v159:bM)=>afW (ix v41.an v30) λx163=>afW (ix v41.aT v30) λx164=>afW (lS {v41 with an:=(v41.an.set (v30).toNat v159.aM),aT:=(v41.aT.set (v30).toNat v159.cT)} v30 v159.fj) λr165=>afW (iter (xE v30 v159) FU (0,r165)) λ(v190:ab)=>ς (.next (WR (v30+1),v190))) (ς (.done v41))
def NW(a0:ab):Option (Bool×ab):=
 cond (leB 100000 a0.iS) (ς (η,a0)) (afW (iter (Dp a0) FU (0,{a0 with iS:=WR (a0.iS+1)})) λ(v26:ab)=>afW (iter (Dq v26) FU (0,v26)) λ(v122:ab)=>ς (ζ,v122))
instance itick_c{a0:ab}{r:Bool×ab}:FCV prog (NW a0=ς r) 66 (nI a0) [tP 200] (nI r.2) (.v (.c (.d η (.b r.1)))) []:=gV func66 ntmps66 (hL 0 (λ(v:Int×ab) sl ob nx=>⟨(25,tI v.1)::xS [193,192,191,190] sl,nI v.2++ob,nx⟩)) (hB 0 (λ(v:ab) sl ob nx=>⟨(25,.any)::xS [193,192,191,190] sl,nI v++ob,nx⟩)) (hL 2 (λ(v:Int×ab) sl ob nx=>⟨(45,tI v.1)::xS [193,192,191,190] sl,nI v.2++ob,nx⟩)) (hB 2 (λ(v:ab) sl ob nx=>⟨(45,.any)::xS [193,192,191,190] sl,nI v++ob,nx⟩)) (hL 4 (λ(v:Int×ab) sl ob nx=>⟨(91,tI v.1)::xS [193,192,191,190] sl,nI v.2++ob,nx⟩)) (hB 4 (λ(v:ab) sl ob nx=>⟨(91,.any)::xS [193,192,191,190] sl,nI v++ob,nx⟩)) (hz 14) (hz 13) (hA 12 18 19 [0,1,2,3,4,5,6,7,8,9,10,11,12,13,14,15,16,17,19,18,20] [0,1,2,3,4,5,6,7,8,9,10,11,12,13,14,15,16,17,18,19,20] (λ(v:bM) sl ob nx=>⟨(5,tP 210)::xS [211] sl,oM [.t,.t,.t,.t,.n 211,.t] 210 173 (cd v)++ob,212⟩)) (hL 4 (λ(v:Int×ab) sl ob nx=>⟨(91,tI v.1)::xS [193,192,191,190] sl,nI v.2++ob,nx⟩)) (hB 4 (λ(v:ab) sl ob nx=>⟨(91,.any)::xS [193,192,191,190] sl,nI v++ob,nx⟩)) (hz 14) (hz 13)
def nr(a0:ag)(a1:aG):Option bJ:=
 afW (cond (leB a0.bA 0) (ς ζ) (cond (!eqB a1.ae a0.bA) (ς ζ) (afW (rv a0.aV a1.bP) λr2=>cond (!r2) (ς ζ) (ς (leB 999999 a0.aK))))) λ(v1:Bool)=>cond v1 (afW (dL a0 []) λr3=>ς r3) (afW (ot (⟨a0.bD,a0.gI,1,cO,0,a0.bA,a0.aV.eV,WR (a0.aK+1),a1.aS,0,eE,a0.aC,a0.ax,a0.cF,a0.bG⟩:ag) 4) λr4=>afW (dL (⟨a0.bD,a0.gI,1,cO,0,a0.bA,a0.aV.eV,WR (a0.aK+1),a1.aS,0,eE,a0.aC,a0.ax,a0.cF,a0.bG⟩:ag) [r4]) λr5=>ς r5)
instance Qs{a0:ag}{a1:aG}{r:bJ}:FC prog (nr a0 a1=ς r) 293 [.agg (cr a0),.agg (dE a1)] [.agg (qM [.o,.o,.o,.o] (ev r))]:=gG func293 ntmps293 (hb 8 27) (hz 12)
def lb(a0:ag)(a1:aG):Option bJ:=
 afW (cond (!eqB a0.aX 1) (ς ζ) (cond (!eqB a1.ae a0.ae) (ς ζ) (afW (ki a0.aZ a1) λr2=>ς (!r2)))) λ(v1:Bool)=>cond v1 (afW (dL a0 []) λr3=>ς r3) (afW (cond (ltB a1.aK a0.aK) (ς ζ) (cond (eqB a1.aK a0.aK) (ς (!eqB a1.aS a0.aS)) (ς η))) λ(v4:Bool)=>cond v4 (afW (dL a0 []) λr5=>ς r5) (afW (ot {a0 with aK:=a1.aK,aS:=a1.aS,cP:=0,et:=eE,cF:=0} 6) λr6=>afW (dL {a0 with aK:=a1.aK,aS:=a1.aS,cP:=0,et:=eE,cF:=0} [r6]) λr7=>ς r7))
instance NL{a0:ag}{a1:aG}{r:bJ}:FC prog (lb a0 a1=ς r) 294 [.agg (cr a0),.agg (dE a1)] [.agg (qM [.o,.o,.o,.o] (ev r))]:=gG func294 ntmps294 (hb 8 21) (hb 29 42) (hz 10)
def pR(a0:ag)(a1:aG):Option bJ:=
 afW (mE a1) λr1=>cond r1 (cond (eqB a1.bb 1) (afW (pO a0 a1) λr2=>ς r2) (cond (eqB a1.bb 3) (afW (nr a0 a1) λr3=>ς r3) (cond (eqB a1.bb 5) (afW (lb a0 a1) λr4=>ς r4) (cond (eqB a1.bb 8) (afW (oK a0 a1) λr5=>ς r5) (afW (dL a0 []) λr6=>ς r6))))) (afW (dL a0 []) λr7=>ς r7)
instance U3{a0:ag}{a1:aG}{r:bJ}:FC prog (pR a0 a1=ς r) 210 [.agg (cr a0),.agg (dE a1)] [.agg (qM [.o,.o,.o,.o] (ev r))]:=gG func210 ntmps210
def rY(a0:aA)(a1:aF):Option bi:=
 cond (!eqB a0.aX 2) (afW (cV a0 []) λr1=>ς r1) (afW (rp a0.aZ a0.ae a0.aK a1) λr2=>cond r2.2 (afW (pP a0.bm r2.1) λr3=>afW (pb a0.aZ (⟨8,a0.aS,a0.ae,a0.aK,r3.bw,cO,0⟩:aG)) λr4=>afW (cV {a0 with bm:=r3} [r4]) λr5=>ς r5) (afW (cV a0 []) λr6=>ς r6))
instance WC{a0:aA}{a1:aF}{r:bi}:FC prog (rY a0 a1=ς r) 211 [.agg (dR a0),.agg (df a1)] [.agg (qM [.o,.o,.o] (dr r))]:=⟨λH=>by
 refine fI func211 ntmps211 ?_
 refine cC H ?_ ?_<;>intro H
 .refine aa H λr1 q1 H=>nA (ca (hF:=tq.h q1)) ?_
  exact ao H
 obtain⟨r2,q2,H⟩:=ob H
 rcases hb:r2.2 with _|_
 .have H:=bf hb H
  refine sI rfl (ca (hF:=BW q2 hb)) ?_
  simp only[hb]
  refine wI ?_
  refine aa H λr6 q6 H=>nA (ca (hF:=tq.h q6)) ?_
  exact ao H
 have H:=bt hb H
 refine sI rfl (ca (hF:=BX q2 hb)) ?_
 simp only[hb]
 refine wI ?_
 refine aa H λr3 q3 H=>nA (ca (hF:=Ew.h q3)) ?_
 refine zV [0,1,2,3,4,5,6,7] (h:=?_)
 refine wkb ?_
 refine aa H λr4 q4 H=>vI rfl (ca (hF:=Je.h q4)) ?_
 refine wkb ?_
 refine Qd rfl (bsx (bs rfl rfl rfl rfl rfl rfl rfl rfl) rfl) ?_
 refine wkb ?_
 refine aa H λr5 q5 H=>vI rfl (ca (hF:=tq.h q5)) ?_
 refine wkb ?_
 refine Qd rfl (spx 100636) ?_
 refine wkb ?_
 refine wI ?_
 cases H
 exact jL⟩
def jf(a0:aA):Option bi:=
 afW (sR {a0 with bT:=η,dy:=3}) λr1=>afW (cV {a0 with bT:=η,dy:=3} [r1]) λr2=>ς r2
instance WJ{a0:aA}{r:bi}:FC prog (jf a0=ς r) 265 [.agg (dR a0)] [.agg (qM [.o,.o,.o] (dr r))]:=gG func265 ntmps265 (hz 3)
def pQ(a0:aA)(a1:aG):Option bi:=
 afW (mE a1) λr1=>afW (cond (!r1) (ς ζ) (cond (!eqB a1.aS a0.aS) (ς ζ) (ς (eqB a0.aX 0)))) λ(v2:Bool)=>cond v2 (afW (cV a0 []) λr3=>ς r3) (cond (eqB a1.bb 2) (cond (eqB a0.aX 1) (afW (ny a0 a1) λr4=>ς r4) (afW (cV a0 []) λr5=>ς r5)) (cond (eqB a1.bb 4) (afW (cond (eqB a0.aX 1) (afW (ip a0.aZ) λr7=>cond r7 (cond (eqB a1.ae a0.ae) (afW (ki a0.aZ a1) λr8=>ς r8) (ς η)) (ς η)) (ς η)) λ(v6:Bool)=>afW (cond v6 (ς {a0 with aX:=2,aK:=a1.aK,bT:=ζ}) (ς a0)) λ(v12:aA)=>afW (cV v12 []) λr13=>ς r13) (cond (eqB a1.bb 6) (afW (cond (eqB a0.aX 2) (cond (eqB a1.ae a0.ae) (cond (eqB a1.aK a0.aK) (afW (ki a0.aZ a1) λr15=>ς r15) (ς η)) (ς η)) (ς η)) λ(v14:Bool)=>afW (cond v14 (ς ζ) (ς a0.bT)) λ(v16:Bool)=>afW (cV {a0 with bT:=v16} []) λr17=>ς r17) (cond (eqB a1.bb 7) (afW (cond (eqB a0.aX 3) (ς (ltB a0.aK 999999)) (ς η)) λ(v18:Bool)=>cond v18 (afW (jf {a0 with aX:=2,aK:=WR (a0.aK+1)}) λr19=>ς r19) (cond (eqB a0.aX 2) (afW (jf a0) λr20=>ς r20) (afW (cV a0 []) λr21=>ς r21))) (afW (cV a0 []) λr22=>ς r22)))))
instance U2{a0:aA}{a1:aG}{r:bi}:FC prog (pQ a0 a1=ς r) 212 [.agg (dR a0),.agg (dE a1)] [.agg (qM [.o,.o,.o] (dr r))]:=gG func212 ntmps212 (hb 8 19) (hb 37 54) (hC 54 (λ(v:aA) sl ob nx=>⟨sl,[(0,.var 67 (kM [.f,.f] (mB v)))]++ob,nx⟩)) (hb 65 84) (hC 84 (λ(v:Bool) sl ob nx=>⟨sl,[(0,.var 67 (kM [.f,.f] (mB {a0 with bT:=v})))]++ob,nx⟩)) (hb 91 95)
def yA(a0:ab)(a1:List kc)(a2:Int):Option (List Int×Bool):=
 afW (bW a2 0 (WR ((a0.aH.length:Int)-1))) λr1=>cond (!r1) (ς (([]:List Int),η)) (afW (ix a0.aH a2) λx2=>afW (cond (!x2.cg) (ς ζ) (afW (Am a1 x2.bV) λr4=>cond (!r4) (ς ζ) (afW (bW x2.aY 0 (WR ((a0.an.length:Int)-1))) λr5=>ς (!r5)))) λ(v3:Bool)=>cond v3 (ς (([]:List Int),η)) (afW (ix a0.an x2.aY) λx6=>afW (rp x6.aZ x6.ae x2.bV.aK x2.bV) λr7=>cond r7.2 (ς (r7.1.bh,ζ)) (ς (([]:List Int),η))))
instance acM{a0:ab}{a1:List kc}{a2:Int}{r:List Int×Bool}:FC prog (yA a0 a1 a2=ς r) 11 [.agg (eb a0),aL (a1.map z6),aI a2] [.c (.own 5 1 (r.1.map eU8) r.1.length),.c (.d (.b r.2))]:=⟨λH=>by
 refine fI func11 ntmps11 ?_
 refine aa H λr1 q1 H=>nA (ca (hF:=Cs.h q1)) ?_
 refine cC H ?_ ?_<;>intro H
 .exact ao H
 refine aa H λx2 hx2 H=>nA (xdT (enc:=fG) hx2) ?_
 refine aa H λv3 Hj H=>jR ⟨[(3,tP 0),(8,tP 1),(44,tB v3)],[(0,.var 34 (kM [.f,.f,.f,.f,.f] (b9 a0))),(1,.var 48 (kM [.f] (pD x2)))],2⟩ ?_ ?_
 .refine gC Hj ?_ ?_<;>intro H
  .exact ai H
  refine aa H λr4 q4 H=>nG (ca (hF:=Ji.h q4)) ?_
  refine gC H ?_ ?_<;>intro H
  .exact ai H
  refine aa H λr5 q5 H=>nG (ca (hF:=Cs.h q5)) ?_
  exact ai H
 refine cC H ?_ ?_<;>intro H
 .exact ao H
 refine aa H λx6 hx6 H=>nA (xdT (enc:=cr) hx6) ?_
 obtain⟨r7,q7,H⟩:=ob H
 rcases hb:r7.2 with _|_
 .have H:=bf hb H
  refine sI rfl (ca (hF:=BW q7 hb)) ?_
  simp only[hb]
  refine wI ?_
  exact ao H
 have H:=bt hb H
 refine sI rfl (ca (hF:=BX q7 hb)) ?_
 simp only[hb]
 refine wI ?_
 cases H
 exact jL⟩
end Go.AM
