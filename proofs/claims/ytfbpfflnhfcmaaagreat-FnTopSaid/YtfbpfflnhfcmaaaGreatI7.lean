/- A part. -/
import Derived.Test.YtfbpfflnhfcmaaaGreatI6
set_option linter.unusedVariables false
open Option renaming some->ς,none->ξ
open Bool renaming true->ζ,false->η
open True renaming intro->θ
open Option renaming bind->afW
namespace Go.AM
open Go.Proofs
open Tryz
attribute [local irreducible] AWN NS AWO AWR AWC DR DZ dm gK iter
set_option maxRecDepth 100000
set_option maxHeartbeats 40000000
def vZ(a0:aA):Option bi:=
 cond (ltB 0 a0.dy) (afW (cV {a0 with dy:=WR (a0.dy-1)} []) λr1=>ς r1) (cond (eqB a0.aX 1) (afW (oi {a0 with dy:=3}) λr2=>afW (cV {a0 with dy:=3} [r2]) λr3=>ς r3) (afW (cond (eqB a0.aX 2) (ς (!a0.bT)) (ς η)) λ(v4:Bool)=>cond v4 (afW (sR {a0 with dy:=3}) λr5=>afW (cV {a0 with dy:=3} [r5]) λr6=>ς r6) (afW (cV a0 []) λr7=>ς r7)))
instance abz{a0:aA}{r:bi}:FC prog (vZ a0=ς r) 120 [.agg (dR a0)] [.agg (qM [.o,.o,.o] (dr r))]:=gG func120 ntmps120 (hz 5) (hb 25 21) (hz 8)
def tN(a0:ag)(a1:av)(a2:be):Option bM:=
 afW (ia a0) λr1=>afW (fD a1) λr2=>afW (jF r1) λr3=>afW (cond (!r3) (ς ζ) (ς (!eqB r1.aX 1))) λ(v4:Bool)=>cond v4 (ς {cz with aM:=r1,cT:=r2}) (afW (cond (leB r1.gI.d4 r1.bG.d6) (afW (pS r2 r1.bG) λr14=>ς ({r1 with bG:=r14.2},r14.1)) (ς (r1,r2))) λ((v12,v13):ag×av)=>afW (cond (ltB 0 (v12.ax.aJ.length:Int)) (afW (Qr (WR (v12.cP+1)) 5) λr16=>ς r16) (ς 0)) λ(v15:Int)=>cond (ltB 4 v15) (afW (wd {v12 with cP:=v15} v13 a2) λr17=>ς {r17 with bV:=[]}) (afW (cond (ltB 0 (v12.ax.aJ.length:Int)) (ς (ltB 0 v12.cF)) (ς η)) λ(v18:Bool)=>afW (cond v18 (ς (([]:List aF),WR (v12.cF-1))) (afW (cond (ltB 0 (v12.ax.aJ.length:Int)) (afW (sO {v12 with cP:=v15,cF:=3}) λr23=>ς (r23,3)) (ς (([]:List aF),v12.cF))) λ((v21,v22):List aF×Int)=>ς (v21,v22))) λ((v19,v20):List aF×Int)=>afW (Dl {v12 with cP:=v15,cF:=v20} v13) λr24=>cond (da 64 (v19++r24.bV).length) (ς {r24 with fj:=[],bV:=(v19++r24.bV)}) ξ))
instance YK{a0:ag}{a1:av}{a2:be}{r:bM}:FCV prog (tN a0 a1 a2=ς r) 121 [] [.v (.agg (kM [.f,.f,.f] (dO a0))),.v (.agg (kM [.f] (dB a1))),.v (.agg [.d η (.l (a2.bp.map gp))])] [] (.v (.agg (kM [.t,.t,.t,.t,.n 210,.t] (cd r)))) [(210,n42 r.fj)]:=⟨λH=>by
 refine fV func121 ntmps121 ?_
 refine aa H λr1 q1 H=>nA (ca (hF:=Ak.h q1)) ?_
 refine aa H λr2 q2 H=>nA (ca (hF:=Ag.h q2)) ?_
 refine aa H λr3 q3 H=>nA (ca (hF:=vV.h q3)) ?_
 refine aa H λv4 Hj H=>jR ⟨[(3,tP 210),(4,tP 211),(5,tP 212),(6,tP 213),(21,tB v4)],(oM [.w 214,.w 215,.w 216] 210 93 (dO r1)++(oM [.w 217] 211 107 (dB r2)++[(212,.var 26 [.d η (.l (a2.bp.map gp))]),(213,.var 173 (kM [.z,.z,.z,.z,.z,.z] (cd cz)))])),218⟩ ?_ ?_
 .exact az Hj
 refine cC H ?_ ?_<;>intro H
 .cases H
  refine dD ((eP (o:=214))) ?_
  refine dD ((dP (k:=22))) ?_
  refine dD ((dP (k:=24))) ?_
  refine dD ((eg (o:=210))) ?_
  refine dD ((eg (o:=213))) ?_
  refine dD ((eP (o:=215))) ?_
  refine dD ((dP (k:=22))) ?_
  refine dD ((dP (k:=24))) ?_
  refine dD ((eg (o:=210))) ?_
  refine dD ((eg (o:=213))) ?_
  refine dD ((eP (o:=216))) ?_
  refine dD ((dP (k:=22))) ?_
  refine dD ((dP (k:=24))) ?_
  refine dD ((eg (o:=210))) ?_
  refine dD ((eg (o:=213))) ?_
  refine dD ((eP (o:=217))) ?_
  refine dD ((dP (k:=23))) ?_
  refine dD ((dP (k:=24))) ?_
  refine dD ((eg (o:=211))) ?_
  refine dD ((eg (o:=213))) ?_
  refine dD ((E9 (o:=213) (j:=35))) ?_
  refine dD ((qS (o:=213) (j:=34) 42 11 ζ)) ?_
  refine dD (wS 218 210) ?_
  refine dD ((wB 210 (([]:List aG).length))) ?_
  exact mC
 obtain⟨⟨v12,v13⟩,Hj,H⟩:=ob H
 refine jA ⟨[(3,tP 210),(4,tP 211),(5,tP 212),(6,tP 213)],(oM [.w 214,.w 215,.w 216] 210 93 (dO v12)++(oM [.w 218] 211 107 (dB v13)++[(212,.var 26 [.d η (.l (a2.bp.map gp))]),(213,.var 173 (kM [.z,.z,.z,.z,.z,.z] (cd cz)))])),219⟩ ?_ ?_
 .refine cC Hj ?_ ?_<;>intro H
  .refine aa H λr14 q14 H=>nA (ca (hF:=Hp.h q14)) ?_
   exact ai H
  cases H
  refine bz (BK (nx':=219) rfl) ?_
  refine bz (wS 218 217) ?_
  exact wo
 refine aa H λv15 Hj H=>jA ⟨[(3,tP 210),(4,tP 211),(5,tP 212),(6,tP 213),(7,tB (ltB 0 (v12.ax.aJ.length:Int)))],(oM [.w 214,.w 215,.w 216] 210 93 (dO {v12 with cP:=v15})++(oM [.w 218] 211 107 (dB v13)++[(212,.var 26 [.d η (.l (a2.bp.map gp))]),(213,.var 173 (kM [.z,.z,.z,.z,.z,.z] (cd cz)))])),219⟩ ?_ ?_
 .refine cC Hj ?_ ?_<;>intro H
  .refine aa H λr16 q16 H=>nA (ca (hF:=iMin_c.h q16)) ?_
   exact ai H
  exact ai H
 refine cC H ?_ ?_<;>intro H
 .refine aa H λr17 q17 H=>ed (eP (o:=214)) ?_
  refine ed (eP (o:=215)) ?_
  refine ed (eP (o:=216)) ?_
  refine ed (dP (k:=55)) ?_
  refine ed (eP (o:=218)) ?_
  refine ed (dP (k:=56)) ?_
  refine sA (cwu [] [(210,219)] 220 (Jj.h q17)) ?_
  cases H
  refine dD ((E9 (o:=213) (j:=35))) ?_
  refine dD (wS 219 210) ?_
  exact mC
 refine aa H λv18 Hj H=>jR ⟨[(3,tP 210),(4,tP 211),(6,tP 213),(7,tB (ltB 0 (v12.ax.aJ.length:Int))),(8,.v (.c (.w 219 (([]:List aF).length)))),(65,tB v18)],(oM [.w 214,.w 215,.w 216] 210 93 (dO {v12 with cP:=v15})++(oM [.w 218] 211 107 (dB v13)++[(213,.var 173 (kM [.z,.z,.z,.z,.z,.z] (cd cz))),(219,w46 ([]:List aF))])),220⟩ ?_ ?_
 .exact az Hj
 obtain⟨⟨v19,v20⟩,Hj,H⟩:=ob H
 refine jA ⟨[(3,tP 210),(4,tP 211),(6,tP 213),(8,.v (.c (.w 219 v19.length)))],(oM [.w 214,.w 215,.w 216] 210 93 (dO {v12 with cP:=v15,cF:=v20})++(oM [.w 218] 211 107 (dB v13)++[(213,.var 173 (kM [.z,.z,.z,.z,.z,.z] (cd cz))),(219,w46 v19)])),220⟩ ?_ ?_
 .refine cC Hj ?_ ?_<;>intro H
  .exact ai H
  obtain⟨⟨v21,v22⟩,Hj,H⟩:=ob H
  refine jA ⟨[(3,tP 210),(4,tP 211),(6,tP 213),(8,.v (.c (.w 220 v21.length)))],(oM [.w 214,.w 215,.w 216] 210 93 (dO {v12 with cP:=v15,cF:=v22})++(oM [.w 218] 211 107 (dB v13)++[(213,.var 173 (kM [.z,.z,.z,.z,.z,.z] (cd cz))),(220,w46 v21)])),221⟩ ?_ ?_
  .refine cC Hj ?_ ?_<;>intro H
   .refine aa H λr23 q23 H=>nA (ca (hF:=Jd.h q23)) ?_
    exact ai H
   cases H
   refine bz (BK (nx':=221) rfl) ?_
   refine bz (wS 220 219) ?_
   exact wo
  cases H
  refine bz (wS 219 220) ?_
  exact wo
 refine aa H λr24 q24 H=>ed (eP (o:=214)) ?_
 refine ed (eP (o:=215)) ?_
 refine ed (eP (o:=216)) ?_
 refine ed (dP (k:=74)) ?_
 refine ed (eP (o:=218)) ?_
 refine ed (dP (k:=75)) ?_
 refine sA (cwv [] [(210,220),(211,221),(212,222),(213,223),(214,224)] 225 (Qu.h q24)) ?_
 obtain⟨h,H⟩:=rq H
 refine sA (apT (enc:=df) (ys:=v19) (zs:=r24.bV) h) ?_
 cases H
 refine dD ((eP (o:=220))) ?_
 refine dD ((dP (k:=76))) ?_
 refine dD ((dP (k:=82))) ?_
 refine dD ((eg (o:=213))) ?_
 refine dD ((eg (o:=225))) ?_
 refine dD ((eP (o:=221))) ?_
 refine dD ((dP (k:=76))) ?_
 refine dD ((dP (k:=82))) ?_
 refine dD ((eg (o:=213))) ?_
 refine dD ((eg (o:=225))) ?_
 refine dD ((eP (o:=222))) ?_
 refine dD ((dP (k:=76))) ?_
 refine dD ((dP (k:=82))) ?_
 refine dD ((eg (o:=213))) ?_
 refine dD ((eg (o:=225))) ?_
 refine dD ((eP (o:=223))) ?_
 refine dD ((dP (k:=76))) ?_
 refine dD ((dP (k:=82))) ?_
 refine dD ((eg (o:=213))) ?_
 refine dD ((eg (o:=225))) ?_
 refine dD ((eP (o:=219))) ?_
 refine dD ((dP (k:=80))) ?_
 refine dD ((dP (k:=82))) ?_
 refine dD ((eg (o:=213))) ?_
 refine dD ((eg (o:=225))) ?_
 refine dD ((qS (o:=213) (j:=34) 42 11 ζ)) ?_
 refine dD (wS 226 210) ?_
 refine dD ((wB 210 (([]:List aG).length))) ?_
 exact mC⟩
def ot(a0:ag)(a1:Int):Option aG:=
 afW (pb a0.aZ (⟨a1,a0.aS,a0.ae,a0.aK,0,cO,0⟩:aG)) λr1=>ς r1
instance WU{a0:ag}{a1:Int}{r:aG}:FC prog (ot a0 a1=ς r) 345 [.agg (cr a0),aI a1] [.agg (qM [] (ij r))]:=gG func345 ntmps345
def kZ(a0:ag)(a1:aG):(Int×Int)->Option (cj (Int×Int) (Int))
 |(v4,v5)=>cond (ltB v5 (a0.ax.aJ.length:Int)) (afW (ix a0.ax.aJ v5) λx9=>afW (cond (ltB x9.cH a1.bP) (ς (WR (v4+(x9.bh.length:Int)))) (ς v4)) λ(v10:Int)=>ς (.next (v10,WR (v5+1)))) (ς (.done v4))
def oK(a0:ag)(a1:aG):Option bJ:=
 afW (cond (!eqB a0.aX 1) (ς ζ) (cond (!eqB a1.ae a0.ae) (ς ζ) (afW (ki a0.aZ a1) λr2=>cond (!r2) (ς ζ) (ς (ltB a0.ax.bw a1.bP))))) λ(v1:Bool)=>cond v1 (afW (dL a0 []) λr3=>ς r3) (afW (iter (kZ a0 a1) FU (0,0)) λ(v8:Int)=>afW (rW a0.bG v8) λr11=>afW (lZ a0.ax a1.bP) λr12=>afW (dL {a0 with cP:=0,ax:=r12,bG:=r11.1} []) λr13=>ς r13)
instance SO{a0:ag}{a1:aG}{r:bJ}:FC prog (oK a0 a1=ς r) 295 [.agg (cr a0),.agg (dE a1)] [.agg (qM [.o,.o,.o,.o] (ev r))]:=gG func295 ntmps295 (hb 11 32) (hm 0 5 39) (he 0 5 39) (hi 47 5)
def rp(a0:Int)(a1:Int)(a2:Int)(a3:aF):Option (ah×Bool):=
 afW (cond (!eqB a3.ae a1) (ς ζ) (cond (!eqB a3.aK a2) (ς ζ) (afW (tO a0 a3) λr2=>ς (!r2)))) λ(v1:Bool)=>cond v1 (ς (b7,η)) (afW (uk a0 a2) λr3=>afW (yJ r3 a3.bO) λr4=>ς ((⟨a3.bO.gR,r4⟩:ah),ζ))
theorem BX{a0:Int}{a1:Int}{a2:Int}{a3:aF}{r:ah×Bool}(H:rp a0 a1 a2 a3=ς r)(hflag:r.2=ζ):Fn prog 42 [aI a0,aI a1,aI a2,.agg (df a3)] [.agg (qM [.o] (ec r.1)),.c (.d (.b r.2))]:=by
 refine fI func42 ntmps42 ?_
 refine aa H λv1 Hj H=>jR ⟨[(0,tI a0),(2,tI a2),(7,tP 0),(8,tP 1),(26,tB v1)],[(0,.var 46 (kM [.f] (kf a3))),(1,.var 100 (kM [.z] (ec b7)))],2⟩ ?_ ?_
 .refine gC Hj ?_ ?_<;>intro H
  .exact ai H
  refine gC H ?_ ?_<;>intro H
  .exact ai H
  refine aa H λr2 q2 H=>nG (ca (hF:=Af.h q2)) ?_
  exact ai H
 refine cC H ?_ ?_<;>intro H
 .cases H
  cases hflag
 refine dI ?_
 refine aa H λr3 q3 H=>dA (ca (hF:=Fi.h q3)) ?_
 refine aa H λr4 q4 H=>dA (ca (hF:=Aq.h q4)) ?_
 refine wI ?_
 exact ao H
theorem BW{a0:Int}{a1:Int}{a2:Int}{a3:aF}{r:ah×Bool}(H:rp a0 a1 a2 a3=ς r)(hflag:r.2=η):Fn prog 42 [aI a0,aI a1,aI a2,.agg (df a3)] [.agg (qM [.z] (ec r.1)),.c (.d (.b r.2))]:=by
 refine fI func42 ntmps42 ?_
 refine aa H λv1 Hj H=>jR ⟨[(0,tI a0),(2,tI a2),(7,tP 0),(8,tP 1),(26,tB v1)],[(0,.var 46 (kM [.f] (kf a3))),(1,.var 100 (kM [.z] (ec b7)))],2⟩ ?_ ?_
 .refine gC Hj ?_ ?_<;>intro H
  .exact ai H
  refine gC H ?_ ?_<;>intro H
  .exact ai H
  refine aa H λr2 q2 H=>nG (ca (hF:=Af.h q2)) ?_
  exact ai H
 refine cC H ?_ ?_<;>intro H
 .exact ao H
 refine dI ?_
 refine aa H λr3 q3 H=>dA (ca (hF:=Fi.h q3)) ?_
 refine aa H λr4 q4 H=>dA (ca (hF:=Aq.h q4)) ?_
 refine wI ?_
 cases H
 cases hflag
end Go.AM
