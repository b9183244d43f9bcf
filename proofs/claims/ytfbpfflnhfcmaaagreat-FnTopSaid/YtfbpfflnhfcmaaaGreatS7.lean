/- A part. -/
import Derived.Test.YtfbpfflnhfcmaaaGreatS6
set_option linter.unusedVariables false
open Option renaming some->ς,none->ξ
open Bool renaming true->ζ,false->η
open True renaming intro->θ
open Option renaming bind->afW
namespace Go.AM
open Go.Proofs
open Tryz
attribute [local irreducible] AWN NS AWO AWR AWC DR DZ dm gK iter
set_option maxRecDepth 100000
set_option maxHeartbeats 40000000
variable{a0 a1:Int}
def IF(v20:Int):(Int×List ag×bu)->Option (cj (Int×List ag×bu) (List ag×bu))
 |(v118,v122,v123)=>cond (ltB 0 v118) (afW (ix v122 v20) λx134=>afW (cS v123 4) λr135=>afW (AS r135.2 r135.1) λr136=>afW (oC x134 r136.1) λr137=>afW (ix v122 v20) λx138=>ς (.next (WR (v118-1),(v122.set (v20).toNat r137.1),r136.2))) (ς (.done (v122,v123)))
def vu(v20:Int)(r152:bi):(Int×ab)->Option (cj (Int×ab) (ab))
 |(v154,v165)=>cond (ltB v154 (r152.bY.length:Int)) (afW (ix r152.bY v154) λx180=>afW (ix r152.bY v154) λx181=>afW (jx v165 (⟨v20,ζ,η,x180.aS,x181,gm⟩:bg)) λr182=>ς (.next (WR (v154+1),r182))) (ς (.done v165))
def IE:(Int×bu×ab)->Option (cj (Int×bu×ab) (bu×ab))
 |(v20,v34,v35)=>cond (ltB v20 (v35.aj.length:Int)) (afW (cS v34 7) λr117=>afW (iter (IF v20) FU (r117.1,v35.an,r117.2)) λ((v132,v133):List ag×bu)=>afW (jY v133 5) λr139=>afW (cond (!r139.1) (afW (ix v35.aj v20) λx151=>afW (AK x151) λr152=>afW (ix v35.aj v20) λx153=>afW (iter (vu v20 r152) FU (0,{v35 with aj:=(v35.aj.set (v20).toNat r152.aY),an:=v132})) λ(v179:ab)=>ς v179) (ς {v35 with an:=v132})) λ(v150:ab)=>ς (.next (WR (v20+1),r139.2,v150))) (ς (.done (v34,v35)))
def D0(a0:bu):Option (ab×bu):=
 afW (DX a0) λr1=>afW (afW (DU r1.2) λr16=>afW (oQ r16.2) λr17=>afW (cS r17.2 60) λr18=>afW (wv r16.1 r17.1 r1.1 (WR (30+r18.1))) λr19=>ς (r19.bH,r19.iS,r19.Lost,r19.aT,r19.an,r19.aj,r19.cp.bp,r18.2,r19.fg)) λ((v5,v8,v9,v10,v11,v12,v13,v14,v15):Int×Int×Int×List av×List ag×List aA×List fo×bu×bQ)=>afW (iter (IE) FU (0,v14,(⟨(⟨v13⟩:be),v12,v11,v10,([]:List bg),v5,v15,v8,v9⟩:ab))) λ((v115,v116):bu×ab)=>ς (v116,v115)
instance Wi{a0:bu}{r:ab×bu}:FCV prog (D0 a0=ς r) 72 [(200,.var 124 (kM [.f] (cB a0)))] [tP 200] [(200,.var 124 (kM [.f] (cB r.2)))] (.v (.agg (kM [.t,.n 210,.n 211,.n 212,.n 213] (b9 r.1)))) [(210,n67 r.1.aj),(211,n93 r.1.an),(212,QG r.1.aT),(213,n48 r.1.aH)]:=⟨λH=>by
 refine fV func72 ntmps72 ?_
 refine aa H λr1 q1 H=>sA (cwv [(200,200)] [(210,211)] 212 (Rp.h q1)) ?_
 refine wI ?_
 obtain⟨⟨v5,v8,v9,v10,v11,v12,v13,v14,v15⟩,Hj,H⟩:=ob H
 refine Sa ⟨[(0,tP 200),(2,tP 210),(4,tP 214)],(oM [.n 215,.n 216,.n 217,.n 218,.z] 214 34 (b9 (⟨(⟨v13⟩:be),v12,v11,v10,[],v5,v15,v8,v9⟩:ab))++[(200,.var 124 (kM [.f] (cB v14))),(210,.var 34 (kM [.z,.z,.z,.z,.z] (b9 {gQ with cp:=(⟨[]⟩:be)})))]),219⟩ Try.follows ?_ ?_
 .have H:=Hj
  refine JC 8 9 rfl ?_ ?_
  .refine La [0,1,2,3,4,5,6,7,9,8,10] (by kernel_rfl) (by kernel_rfl) rfl ?_
   refine wI ?_
   refine aa H λr16 q16 H=>wA (cwx (o:=200) (FnV.frzW (Iv.h q16) rfl rfl ⟨by first|rfl|simp,θ⟩ rfl)) ?_
   refine aa H λr17 q17 H=>wA (cwx (o:=200) (wP.h q17)) ?_
   refine aa H λr18 q18 H=>wA (cwx (o:=200) (oZ.h q18)) ?_
   refine aa H λr19 q19 H=>zB (bz (eP (o:=213)) (bz (dP (k:=16)) (fN 211))) (vG rfl (cwv [] [(210,215),(211,216),(212,217),(213,218)] 219 (B5.h q19))) dV ?_
   refine wA (spx 100218) ?_
   exact ai H
  refine La [0,1,2,3,4,5,6,7,8,9,10] (by kernel_rfl) (by kernel_rfl) rfl ?_
  refine wI ?_
  refine aa H λr16 q16 H=>wA (cwx (o:=200) (FnV.frzW (Iv.h q16) rfl rfl ⟨by first|rfl|simp,θ⟩ rfl)) ?_
  refine aa H λr17 q17 H=>wA (cwx (o:=200) (wP.h q17)) ?_
  refine aa H λr18 q18 H=>wA (cwx (o:=200) (oZ.h q18)) ?_
  refine aa H λr19 q19 H=>zB (bz (eP (o:=213)) (bz (dP (k:=16)) (fN 211))) (vG rfl (cwv [] [(210,214),(211,215),(212,216),(213,217)] 218 (B5.h q19))) dV ?_
  refine wA (spx 100219) ?_
  cases H
  refine bz (wS 214 218) ?_
  refine bz (wS 215 218) ?_
  refine bz (wS 216 218) ?_
  refine bz (wS 217 218) ?_
  exact wo
 refine wI ?_
 obtain⟨⟨v115,v116⟩,Hj,H⟩:=ob H
 refine jB ⟨[(2,tP 210),(4,tP 214)],(oM [.t,.n 216,.n 217,.n 218,.n 219] 214 34 (b9 v116)++[(200,.var 124 (kM [.f] (cB v115))),(210,.var 34 (kM [.z,.z,.z,.z,.z] (b9 {gQ with cp:=(⟨[]⟩:be)})))]),220⟩ ?_ ?_
 .refine iT Hj (λq=>⟨[(0,tP 200),(2,tP 210),(4,tP 214),(5,tI q.1)],(oM [.t,.n 216,.n 217,.n 218,.n 219] 214 34 (b9 q.2.2)++[(200,.var 124 (kM [.f] (cB q.2.1))),(210,.var 34 (kM [.z,.z,.z,.z,.z] (b9 {gQ with cp:=(⟨[]⟩:be)})))]),220⟩) ?_ (by refine bz (fN 215) ?_;refine bz (qS (o:=214) (j:=4) 48 21 ζ) ?_;refine bz (wB 219 (([]:List bg).length)) ?_;exact wo)
  rintro⟨v20,v34,v35⟩ o H
  refine ad ?_
  refine cC H ?_ ?_<;>intro H
  .refine aa H λr117 q117 H=>sA (cw (o:=200) (oZ.h q117)) ?_
   obtain⟨⟨v132,v133⟩,Hj,H⟩:=ob H
   refine jB ⟨[(0,tP 200),(2,tP 210),(4,tP 214),(5,tI v20)],(oM [.t,.n 216,.n 217,.n 218,.n 219] 214 34 (b9 {v35 with an:=v132})++[(200,.var 124 (kM [.f] (cB v133))),(210,.var 34 (kM [.z,.z,.z,.z,.z] (b9 {gQ with cp:=(⟨[]⟩:be)})))]),220⟩ ?_ ?_
   .refine iT Hj (λq=>⟨[(0,tP 200),(2,tP 210),(4,tP 214),(5,tI v20),(6,tI q.1)],(oM [.t,.n 216,.n 217,.n 218,.n 219] 214 34 (b9 {v35 with an:=q.2.1})++[(200,.var 124 (kM [.f] (cB q.2.2))),(210,.var 34 (kM [.z,.z,.z,.z,.z] (b9 {gQ with cp:=(⟨[]⟩:be)})))]),220⟩) ?_
    rintro⟨v118,v122,v123⟩ o H
    refine ad ?_
    refine cC H ?_ ?_<;>intro H
    .refine zI (List.range 16) ?_
     refine aa H λx134 hx134 H=>zA (FV hx134) ?_
     refine zA (oean (he:=qi _ hx134)) ?_
     refine aa H λr135 q135 H=>wA (cwx (o:=200) (oZ.h q135)) ?_
     refine aa H λr136 q136 H=>wA (cwx (o:=200) (Ro.h q136)) ?_
     refine aa H λr137 q137 H=>zA (ca (hF:=FO.h q137)) ?_
     refine wA (spx 100243) ?_
     refine aa H λx138 hx138 H=>ed (A3 217 (hne:=NY (enc:=cr) hx138)) ?_
     refine nA (xwT hx138) ?_
     refine ed (eP (o:=221)) ?_
     refine ed (eP (o:=222)) ?_
     refine ed (eP (o:=223)) ?_
     refine ed (dP (k:=51)) ?_
     refine sA (soT (enc:=cr) (a':=r137.1) hx138) ?_
     cases H
     refine Ey ?_
     refine bz (qT 217) ?_
     refine bz (wB 217 ((v122.set (v20).toNat r137.1).length)) ?_
     exact wo
    exact aE H
   refine aa H λr139 q139 H=>sA (cw (o:=200) (By.h q139)) ?_
   refine aa H λv150 Hj H=>jA ⟨[(0,tP 200),(2,tP 210),(4,tP 214),(5,tI v20)],(oM [.t,.n 216,.n 217,.n 218,.n 219] 214 34 (b9 v150)++[(200,.var 124 (kM [.f] (cB r139.2))),(210,.var 34 (kM [.z,.z,.z,.z,.z] (b9 {gQ with cp:=(⟨[]⟩:be)})))]),220⟩ ?_ ?_
   .refine cC Hj ?_ ?_<;>intro H
    .refine aa H λx151 hx151 H=>ed (A3 216 (hne:=NY (enc:=dR) hx151)) ?_
     refine nA (xwT hx151) ?_
     refine nA (oea (he:=qi _ hx151)) ?_
     refine aa H λr152 q152 H=>nA (ca (hF:=Rc.h q152)) ?_
     refine aa H λx153 hx153 H=>nA (xwT hx153) ?_
     refine sA (soT (enc:=dR) (a':=r152.aY) hx153) ?_
     refine aa H λv179 Hj H=>jB ⟨[(0,tP 200),(2,tP 210),(4,tP 214),(5,tI v20)],(oM [.t,.n 216,.n 217,.n 218,.n 219] 214 34 (b9 v179)++[(200,.var 124 (kM [.f] (cB r139.2))),(210,.var 34 (kM [.z,.z,.z,.z,.z] (b9 {gQ with cp:=(⟨[]⟩:be)})))]),222⟩ ?_ ?_
     .refine iT Hj (λq=>⟨[(0,tP 200),(2,tP 210),(4,tP 214),(5,tI v20),(9,tP 221),(10,tI q.1)],(oM [.t,.n 216,.n 217,.n 218,.n 219] 214 34 (b9 q.2)++(oM [.t,.t,.w 220] 221 169 (dr r152)++[(200,.var 124 (kM [.f] (cB r139.2))),(210,.var 34 (kM [.z,.z,.z,.z,.z] (b9 {gQ with cp:=(⟨[]⟩:be)})))])),222⟩) ?_ (by refine bz (qT 216) ?_;refine bz (wB 216 ((v35.aj.set (v20).toNat r152.aY).length)) ?_;exact wo)
      rintro⟨v154,v165⟩ o H
      refine ad ?_
      refine cC H ?_ ?_<;>intro H
      .refine zI (List.range 14) ?_
       refine aa H λx180 hx180 H=>zA (xwT hx180) ?_
       refine zA (oe (he:=qi _ hx180)) ?_
       refine aa H λx181 hx181 H=>zA (xwT hx181) ?_
       refine zA (oea (he:=qi _ hx181)) ?_
       refine aa H λr182 q182 H=>zB dV (vG rfl (cwu [(190,216),(191,217),(192,218),(193,219),(200,214)] [] 222 (Ru.h q182))) dV ?_
       exact aN H
      exact aE H
     exact ai H
    exact ai H
   exact aN H
  exact aE H
 cases H
 refine dD (wS 216 210) ?_
 refine dD (wS 217 211) ?_
 refine dD (wS 218 212) ?_
 refine dD (wS 219 213) ?_
 exact mC⟩
def zg(a0:ab)(a1:Int):Option Bool:=
 afW (ix a0.aj a1) λx1=>afW (ix a0.an a1) λx2=>afW (qr x1) λr3=>afW (cond (!r3) (ς ζ) (afW (lL x2) λr5=>cond (!r5) (ς ζ) (afW (ix a0.aT a1) λx6=>afW (iQ x6) λr7=>cond (!r7) (ς ζ) (cond (!(eqB x1.dq.ID.eF x2.bD.ID.eF&&(eqB x1.dq.ID.bP x2.bD.ID.bP&&ζ))) (ς ζ) (ς (!eqB x1.dq.eV x2.bD.eV)))))) λ(v4:Bool)=>cond v4 (ς η) (afW (cond (ltB x1.aS (a0.cp.bp.length:Int)) (cond (ltB x2.aS (a0.cp.bp.length:Int)) (cond (eqB x2.bG.aO a1) (afW (ix a0.aT a1) λx9=>afW (ge x9 x2.bG) λr10=>ς r10) (ς η)) (ς η)) (ς η)) λ(v8:Bool)=>ς v8)
instance adX{a0:ab}{r:Bool}:FC prog (zg a0 a1=ς r) 60 [.agg (eb a0),aI a1] [.c (.d (.b r))]:=gG func60 ntmps60 (hb 20 51) (hb 59 4)
def vj(a0:Int)(a1:bF):Option Bool:=
 afW (EW a0 a1) λr1=>ς (eqB a1.kr r1)
instance adK{a1:bF}{r:Bool}:FC prog (vj a0 a1=ς r) 79 [aI a0,.agg (eZ a1)] [.c (.d (.b r))]:=gG func79 ntmps79
def mR(a1:eG):(Int×Int)->Option (cj (Int×Int) (Int))
 |(v1,v2)=>cond (ltB v2 (a1.Steps.length:Int)) (afW (ix a1.Steps v2) λx6=>afW (rL v1 x6) λr7=>ς (.next (r7,WR (v2+1)))) (ς (.done v1))
def s5(a0:Int)(a1:eG):Option Int:=
 afW (iter (mR a1) FU (a0,0)) λ(v5:Int)=>ς v5
instance abP{a1:eG}{r:Int}:FC prog (s5 a0 a1=ς r) 155 [aI a0,.agg (xy a1)] [.c (.d (.i .i64 r))]:=gG func155 ntmps155 (hm 0 5 6) (he 0 5 6)
def lM(a0:Int)(a1:Int)(a2:Int):Option Int:=
 afW (Jv a2 1000000) λr1=>afW (oB a0 a1) λr2=>afW (Jv (WR (r1-r2)) 1000000) λr3=>ς r3
instance T1{a2:Int}{r:Int}:FC prog (lM a0 a1 a2=ς r) 158 [aI a0,aI a1,aI a2] [.c (.d (.i .i64 r))]:=gG func158 ntmps158
def If(a0:Int)(a1:Int)(a2:Int)(a3:List Int):Option bF:=
 afW (rL a0 (WR ((WR (2*a2))+a1))) λr1=>afW (DM r1 a3) λr2=>afW (EW a0 (⟨a1,a2,r2,0⟩:bF)) λr3=>ς (⟨a1,a2,r2,r3⟩:bF)
instance sProtect_c{a2:Int}{a3:List Int}{r:bF}:FC prog (If a0 a1 a2 a3=ς r) 305 [aI a0,aI a1,aI a2,aL (a3.map eU8)] [.agg (qM [.o] (rj r))]:=gG func305 ntmps305
def jw(a0:Int)(a1:Int)(a2:Int):Option ct:=
 afW (dt a2 0 999999) λr1=>cond (!r1) (ς cO) (afW (oB a0 a1) λr2=>afW (Jv (WR (a2+r2)) 1000000) λr3=>afW (fA a0 [2,a1,a2]) λr4=>afW (fA a0 [3,a1]) λr5=>afW (fA a0 [4,a1,a2]) λr6=>afW (Ic 1 r6) λr7=>ς (⟨a1,r3,r4,r5,r7⟩:ct))
instance V0{a2:Int}{r:ct}:FC prog (jw a0 a1 a2=ς r) 306 [aI a0,aI a1,aI a2] [.agg (qM [] (kV r))]:=gG func306 ntmps306
def AW(a0:ag):Option Bool:=
 afW (cond (!eqB a0.aX 1) (ς ζ) (afW (lL a0) λr2=>ς (!r2))) λ(v1:Bool)=>ς v1
instance Iz{a0:ag}{r:Bool}:FC prog (AW a0=ς r) 312 [.agg (cr a0)] [.c (.d (.b r))]:=gG func312 ntmps312 (hb 6 2)
def nD(a0:bQ)(a1:Int):(Int×Int)->Option (cj (Int×Int) (Int))
 |(v1,v2)=>afW (cond (ltB v2 a0.fU) (ς (ltB v2 6)) (ς η)) λ(v10:Bool)=>cond v10 (afW (sY a0 v2) λr11=>afW (cond r11 (cond (ltB v1 0) (ς ζ) (afW (jW v2 a1) λr13=>afW (jW v1 a1) λr14=>ς (ltB r14 r13))) (ς η)) λ(v12:Bool)=>afW (cond v12 (ς v2) (ς v1)) λ(v15:Int)=>ς (.next (v15,WR (v2+1)))) (ς (.done v1))
def oA(a0:bQ)(a1:Int):Option Int:=
 afW (iter (nD a0 a1) FU (-1,0)) λ(v9:Int)=>ς v9
instance W3{a0:bQ}{r:Int}:FC prog (oA a0 a1=ς r) 253 [.agg (jK a0),aI a1] [.c (.d (.i .i64 r))]:=gG func253 ntmps253 (hm 0 5 6) (he 0 5 6) (hb 11 14) (hb 20 32) (hi 32 5)
end Go.AM
