/- A part. -/
import Derived.Test.YtfbpfflnhfcmaaaGreatS9
set_option linter.unusedVariables false
open Option renaming some->ς,none->ξ
open Bool renaming true->ζ,false->η
open True renaming intro->θ
open Option renaming bind->afW
namespace Go.AM
open Go.Proofs
open Tryz
attribute [local irreducible] AWN NS AWO AWR AWC DR DZ dm gK iter
set_option maxRecDepth 100000
set_option maxHeartbeats 40000000
def BD(a0:bu)(a1:ab):Option (cU×bu):=
 afW (cS a0 (a1.aj.length:Int)) λr1=>afW (ix a1.aj r1.1) λx2=>afW (cS r1.2 (a1.cp.bp.length:Int)) λr3=>afW (jY r3.2 2) λr4=>afW (cS r4.2 3) λr5=>afW (cond (eqB r5.1 0) (afW (cS r5.2 9) λr30=>afW (vg x2.aZ x2.ae x2.aK (⟨WR (1+r30.1),[9]⟩:ah)) λr31=>ς (r30.2,(⟨r1.1,η,ζ,r3.1,fH,{r31 with bO:={r31.bO with kr:=Int.tmod (WR (r31.bO.kr+1)) 2147483647}}⟩:bg))) (afW (cond (eqB r5.1 1) (afW (Ge r5.2 x2) λr49=>ς (η,r49.2,r49.1)) (afW (ix a1.an r1.1) λx50=>afW (y9 r5.2 x50) λr51=>ς (ζ,r51.2,r51.1))) λ((v35,v47,v48):Bool×bu×aG)=>ς (v47,(⟨r1.1,v35,η,r3.1,v48,gm⟩:bg)))) λ((v28,v29):bu×bg)=>afW (sX a1 {fk with bb:=13,b8:=v29}) λr52=>afW (cond (!r52) (ς 7) (ς v29.aP.bb)) λ(v53:Int)=>ς ({fk with bb:=13,b8:={v29 with aP:={v29.aP with bb:=v53}}},v28)
instance aeW{a0:bu}{a1:ab}{r:cU×bu}:FCV prog (BD a0 a1=ς r) 147 [(200,.var 124 (kM [.f] (cB a0)))] [tP 200,.v (.agg (kM [.f,.f,.f,.f,.f] (b9 a1)))] [(200,.var 124 (kM [.f] (cB r.2)))] (.v (.agg (kM [.z,.n 210] (nj {r.1 with bh:=[]})))) [(210,n5 r.1.b8.bV.bO.bh)]:=gV func147 ntmps147 (hC 40 (λ(v:bu×bg) sl ob nx=>⟨xS [215] sl,oM [.n 215] 213 48 (pD v.2)++[(200,.var 124 (kM [.f] (cB v.1)))]++fO [212] ob,216⟩)) (hz 10) (hC 66 (λ(v:Bool×bu×aG) sl ob nx=>⟨sl,[(200,.var 124 (kM [.f] (cB v.2.1)))]++(uC 213 4 [.d η (.i .i64 v.2.2.bb),.d η (.i .i64 v.2.2.aS),.d η (.i .i64 v.2.2.ae),.d η (.i .i64 v.2.2.aK),.d η (.i .i64 v.2.2.bP),.d η (.i .i64 v.2.2.bZ.eJ),.d η (.i .i64 v.2.2.bZ.gD),.d η (.i .i64 v.2.2.bZ.kr),.d η (.i .i64 v.2.2.bZ.vB),.d η (.i .i64 v.2.2.bZ.eV),.d η (.i .i64 v.2.2.kr)] (uC 213 1 [.d η (.b v.1)] ob)),nx⟩)) (hC 78 (λ(v:Int) sl ob nx=>⟨xS [215] sl,uC 216 8 [.d η (.i .i64 v)] ob,nx⟩))
def ue(a0:ag)(a1:av)(a2:be):Option bM:=
 afW (AW a0) λr1=>cond r1 (afW (vq a0 a1) λr2=>ς r2) (afW (jZ a0) λr3=>cond (leB r3.gI.d4 r3.bG.d6) (afW (ub a1 r3.bG) λr7=>afW (cond (ltB 0 (r3.ax.aJ.length:Int)) (afW (DN 5 (WR (r3.cP+1))) λr9=>ς r9) (ς 0)) λ(v8:Int)=>cond (ltB 4 v8) (afW (AX {r3 with cP:=v8,bG:=r7.2} r7.1 a2) λr10=>ς r10) (afW (cond (ltB 0 (r3.ax.aJ.length:Int)) (ς (ltB 0 r3.cF)) (ς η)) λ(v11:Bool)=>afW (cond v11 (ς (([]:List aF),WR (r3.cF-1))) (afW (cond (ltB 0 (r3.ax.aJ.length:Int)) (afW (pu {r3 with cP:=v8,cF:=3,bG:=r7.2}) λr16=>ς (r16,3)) (ς (([]:List aF),r3.cF))) λ((v14,v15):List aF×Int)=>ς (v14,v15))) λ((v12,v13):List aF×Int)=>afW (AL {r3 with cP:=v8,cF:=v13,bG:=r7.2} r7.1) λr17=>cond (da 64 (v12++r17.bV).length) (ς {r17 with bV:=(v12++r17.bV)}) ξ)) (afW (cond (ltB 0 (r3.ax.aJ.length:Int)) (afW (DN 5 (WR (r3.cP+1))) λr19=>ς r19) (ς 0)) λ(v18:Int)=>cond (ltB 4 v18) (afW (AX {r3 with cP:=v18} a1 a2) λr20=>ς r20) (afW (cond (ltB 0 (r3.ax.aJ.length:Int)) (ς (ltB 0 r3.cF)) (ς η)) λ(v21:Bool)=>afW (cond v21 (ς (([]:List aF),WR (r3.cF-1))) (afW (cond (ltB 0 (r3.ax.aJ.length:Int)) (afW (pu {r3 with cP:=v18,cF:=3}) λr26=>ς (r26,3)) (ς (([]:List aF),r3.cF))) λ((v24,v25):List aF×Int)=>ς (v24,v25))) λ((v22,v23):List aF×Int)=>afW (AL {r3 with cP:=v18,cF:=v23} a1) λr27=>cond (da 64 (v22++r27.bV).length) (ς {r27 with bV:=(v22++r27.bV)}) ξ)))
instance aav{a0:ag}{a1:av}{a2:be}{r:bM}:FC prog (ue a0 a1 a2=ς r) 245 [.agg (cr a0),.agg (dw a1),.agg (gM a2)] [.agg (qM [.o,.o,.o,.o,.o,.o] (cd r))]:=⟨λH=>by
 refine fI func245 ntmps245 ?_
 refine aa H λr1 q1 H=>nA (ca (hF:=Iz.h q1)) ?_
 refine cC H ?_ ?_<;>intro H
 .refine aa H λr2 q2 H=>nA (ca (hF:=IA.h q2)) ?_
  exact ao H
 refine aa H λr3 q3 H=>nA (ca (hF:=Rs.h q3)) ?_
 refine cC H ?_ ?_<;>intro H
 .refine aa H λr7 q7 H=>nA (ca (hF:=Ih.h q7)) ?_
  refine aa H λv8 Hj H=>jA ⟨[(3,tP 0),(4,tP 1),(5,tP 2),(6,tP 3),(9,tB (ltB 0 (r3.ax.aJ.length:Int)))],(oM [.w 4,.w 5,.w 6] 0 93 (dO {r3 with cP:=v8,bG:=r7.2})++(oM [.w 7] 1 107 (dB r7.1)++[(2,.var 26 [.d η (.l (a2.bp.map gp))]),(3,.var 173 (kM [.z,.z,.z,.z,.z,.z] (cd cz)))])),10⟩ ?_ ?_
  .refine cC Hj ?_ ?_<;>intro H
   .refine aa H λr9 q9 H=>nA (ca (hF:=aao.h q9)) ?_
    exact ai H
   exact ai H
  refine cC H ?_ ?_<;>intro H
  .refine aa H λr10 q10 H=>nA (ca (hF:=IB.h q10)) ?_
   exact ao H
  refine aa H λv11 Hj H=>jR ⟨[(3,tP 0),(4,tP 1),(6,tP 3),(9,tB (ltB 0 (r3.ax.aJ.length:Int))),(10,.v (.c (.w 10 (([]:List aF).length)))),(61,tB v11)],(oM [.w 4,.w 5,.w 6] 0 93 (dO {r3 with cP:=v8,bG:=r7.2})++(oM [.w 7] 1 107 (dB r7.1)++[(3,.var 173 (kM [.z,.z,.z,.z,.z,.z] (cd cz))),(10,w46 ([]:List aF))])),11⟩ ?_ ?_
  .exact az Hj
  obtain⟨⟨v12,v13⟩,Hj,H⟩:=ob H
  refine jA ⟨[(3,tP 0),(4,tP 1),(6,tP 3),(10,.v (.c (.w 10 v12.length)))],(oM [.w 4,.w 5,.w 6] 0 93 (dO {r3 with cP:=v8,cF:=v13,bG:=r7.2})++(oM [.w 7] 1 107 (dB r7.1)++[(3,.var 173 (kM [.z,.z,.z,.z,.z,.z] (cd cz))),(10,w46 v12)])),11⟩ ?_ ?_
  .refine cC Hj ?_ ?_<;>intro H
   .exact ai H
   obtain⟨⟨v14,v15⟩,Hj,H⟩:=ob H
   refine jA ⟨[(3,tP 0),(4,tP 1),(6,tP 3),(10,.v (.c (.w 11 v14.length)))],(oM [.w 4,.w 5,.w 6] 0 93 (dO {r3 with cP:=v8,cF:=v15,bG:=r7.2})++(oM [.w 7] 1 107 (dB r7.1)++[(3,.var 173 (kM [.z,.z,.z,.z,.z,.z] (cd cz))),(11,w46 v14)])),12⟩ ?_ ?_
   .refine cC Hj ?_ ?_<;>intro H
    .refine aa H λr16 q16 H=>nA (ca (hF:=B7.h q16)) ?_
     exact ai H
    cases H
    refine bz (BK (nx':=12) rfl) ?_
    refine bz (wS 11 10) ?_
    exact wo
   cases H
   refine bz (wS 10 11) ?_
   exact wo
  refine aa H λr17 q17 H=>nA (ca (hF:=Ij.h q17)) ?_
  obtain⟨h,H⟩:=rq H
  refine sA (apT (enc:=df) (ys:=v12) (zs:=r17.bV) h) ?_
  exact ao H
 refine aa H λv18 Hj H=>jA ⟨[(3,tP 0),(4,tP 1),(5,tP 2),(6,tP 3),(9,tB (ltB 0 (r3.ax.aJ.length:Int)))],(oM [.w 4,.w 5,.w 6] 0 93 (dO {r3 with cP:=v18})++[(1,.var 107 (kM [.f] (dB a1))),(2,.var 26 [.d η (.l (a2.bp.map gp))]),(3,.var 173 (kM [.z,.z,.z,.z,.z,.z] (cd cz)))]),7⟩ ?_ ?_
 .refine cC Hj ?_ ?_<;>intro H
  .refine aa H λr19 q19 H=>nA (ca (hF:=aao.h q19)) ?_
   exact ai H
  exact ai H
 refine cC H ?_ ?_<;>intro H
 .refine aa H λr20 q20 H=>nA (ca (hF:=IB.h q20)) ?_
  exact ao H
 refine aa H λv21 Hj H=>jR ⟨[(3,tP 0),(4,tP 1),(6,tP 3),(9,tB (ltB 0 (r3.ax.aJ.length:Int))),(10,.v (.c (.w 7 (([]:List aF).length)))),(61,tB v21)],(oM [.w 4,.w 5,.w 6] 0 93 (dO {r3 with cP:=v18})++[(1,.var 107 (kM [.f] (dB a1))),(3,.var 173 (kM [.z,.z,.z,.z,.z,.z] (cd cz))),(7,w46 ([]:List aF))]),8⟩ ?_ ?_
 .exact az Hj
 obtain⟨⟨v22,v23⟩,Hj,H⟩:=ob H
 refine jA ⟨[(3,tP 0),(4,tP 1),(6,tP 3),(10,.v (.c (.w 7 v22.length)))],(oM [.w 4,.w 5,.w 6] 0 93 (dO {r3 with cP:=v18,cF:=v23})++[(1,.var 107 (kM [.f] (dB a1))),(3,.var 173 (kM [.z,.z,.z,.z,.z,.z] (cd cz))),(7,w46 v22)]),8⟩ ?_ ?_
 .refine cC Hj ?_ ?_<;>intro H
  .exact ai H
  obtain⟨⟨v24,v25⟩,Hj,H⟩:=ob H
  refine jA ⟨[(3,tP 0),(4,tP 1),(6,tP 3),(10,.v (.c (.w 8 v24.length)))],(oM [.w 4,.w 5,.w 6] 0 93 (dO {r3 with cP:=v18,cF:=v25})++[(1,.var 107 (kM [.f] (dB a1))),(3,.var 173 (kM [.z,.z,.z,.z,.z,.z] (cd cz))),(8,w46 v24)]),9⟩ ?_ ?_
  .refine cC Hj ?_ ?_<;>intro H
   .refine aa H λr26 q26 H=>nA (ca (hF:=B7.h q26)) ?_
    exact ai H
   cases H
   refine bz (BK (nx':=9) rfl) ?_
   refine bz (wS 8 7) ?_
   exact wo
  cases H
  refine bz (wS 7 8) ?_
  exact wo
 refine aa H λr27 q27 H=>nA (ca (hF:=Ij.h q27)) ?_
 obtain⟨h,H⟩:=rq H
 refine sA (apT (enc:=df) (ys:=v22) (zs:=r27.bV) h) ?_
 cases H
 exact jL⟩
def nC(a0:ag)(a1:aG):Option bJ:=
 afW (cond (leB a0.bA 0) (ς ζ) (cond (!eqB a1.ae a0.bA) (ς ζ) (afW (rO a0.aV a1.bP) λr2=>cond (!r2) (ς ζ) (ς (leB 999999 a0.aK))))) λ(v1:Bool)=>cond v1 (afW (qK a0) λr3=>ς r3) (afW (jZ a0) λr4=>afW (vp (⟨r4.bD,r4.gI,1,cO,0,a0.bA,a0.aV.eV,WR (a0.aK+1),a1.aS,0,eE,r4.aC,r4.ax,r4.cF,r4.bG⟩:ag) 4) λr5=>ς r5)
instance Rd{a0:ag}{a1:aG}{r:bJ}:FC prog (nC a0 a1=ς r) 331 [.agg (cr a0),.agg (dE a1)] [.agg (qM [.d,.d,.d,.o] (ev r))]:=gG func331 ntmps331 (hb 9 28)
def lq(a0:ag)(a1:aG):Option bJ:=
 afW (ya a0 a1) λr1=>afW (cond (!r1) (ς ζ) (cond (ltB a1.aK a0.aK) (ς ζ) (cond (eqB a1.aK a0.aK) (ς (!eqB a1.aS a0.aS)) (ς η)))) λ(v2:Bool)=>cond v2 (afW (qK a0) λr3=>ς r3) (afW (jZ a0) λr4=>afW (vp {r4 with aK:=a1.aK,aS:=a1.aS,cP:=0,et:=eE,cF:=0} 6) λr5=>ς r5)
instance OO{a0:ag}{a1:aG}{r:bJ}:FC prog (lq a0 a1=ς r) 358 [.agg (cr a0),.agg (dE a1)] [.agg (qM [.d,.d,.d,.o] (ev r))]:=gG func358 ntmps358 (hb 10 30)
def oP(a0:ag)(a1:aG):Option bJ:=
 afW (ya a0 a1) λr1=>afW (cond (!r1) (ς ζ) (ς (ltB a0.ax.bw a1.bP))) λ(v2:Bool)=>cond v2 (afW (qK a0) λr3=>ς r3) (afW (jZ a0) λr4=>afW (ml a0.ax a1.bP) λr5=>afW (rQ a0.ax.aJ) λr6=>afW (rQ r5.aJ) λr7=>afW (sx a0.bG (WR (r6-r7))) λr8=>ς (⟨{r4 with cP:=0,ax:=r5,bG:=r8.1},([]:List aG)⟩:bJ))
instance TZ{a0:ag}{a1:aG}{r:bJ}:FC prog (oP a0 a1=ς r) 359 [.agg (cr a0),.agg (dE a1)] [.agg (qM [.o,.o,.o,.o] (ev r))]:=gG func359 ntmps359 (hb 12 19) (hz 5)
def sB(a0:aA)(a1:aF):Option bi:=
 afW (yW a0.aZ a0.ae a0.aK a1) λr1=>afW (cond (!eqB a0.aX 2) (ς ζ) (ς (!r1.2))) λ(v2:Bool)=>cond v2 (afW (vm a0) λr3=>ς r3) (afW (lO a0) λr4=>afW (qB a0.bm r1.1) λr5=>afW (kR a0.aZ (⟨8,a0.aS,a0.ae,a0.aK,r5.bw,cO,0⟩:aG)) λr6=>ς (⟨{r4 with bm:=r5},[r6]⟩:bi))
instance W1{a0:aA}{a1:aF}{r:bi}:FC prog (sB a0 a1=ς r) 319 [.agg (dR a0),.agg (df a1)] [.agg (qM [.d,.o,.o] (dr r))]:=gG func319 ntmps319 (hb 23 26)
def AU(a0:aA):Option bi:=
 afW (xZ {a0 with aK:=WR (a0.aK+1),bT:=η}) λr1=>afW (oF {a0 with aK:=WR (a0.aK+1),bT:=η} r1) λr2=>ς r2
instance sl29Next_c{a0:aA}{r:bi}:FCV prog (AU a0=ς r) 321 [] [.v (.agg (kM [.f,.f] (mB a0)))] [] (.v (.agg (kM [.f,.f,.w 210] (dr r)))) [(210,w42 r.bY)]:=gV func321 ntmps321 (hz 3)
end Go.AM
