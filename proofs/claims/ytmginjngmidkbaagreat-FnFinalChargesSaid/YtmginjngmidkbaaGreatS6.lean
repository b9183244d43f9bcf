/- A part. -/
import Derived.Test.YtmginjngmidkbaaGreatS5
set_option linter.unusedVariables false
open Option renaming bind->abU
namespace Go.AM
open Go.Proofs
open Tryz
attribute [local irreducible] AWN NS AWO AWR AWC DR DZ dS gp iter
set_option maxRecDepth 100000
set_option maxHeartbeats 40000000
variable {a0 a1:Int}
def Gr (v20:Int):(Int×List ah×bj)->Option (ct (Int×List ah×bj) (List ah×bj))
 |(v118,v122,v123)=>bif ltB 0 v118 then(abU (ix v122 v20) λx134=>abU (cO v123 4) λr135=>abU (yv r135.2 r135.1) λr136=>abU (na x134 r136.1) λr137=>abU (ix v122 v20) λx138=>some (.next (WR (v118-1),(v122.set (v20).toNat r137.1),r136.2))) else(some (.done (v122,v123)))
def tm (v20:Int) (r152:aY):(Int×ab)->Option (ct (Int×ab) (ab))
 |(v154,v165)=>bif ltB v154 (r152.dE.length:Int) then(abU (ix r152.dE v154) λx180=>abU (ix r152.dE v154) λx181=>abU (gq v165 (⟨v20,true,false,x180.bg,x181,eF⟩:bS)) λr182=>some (.next (WR (v154+1),r182))) else(some (.done v165))
def Gq:(Int×bj×ab)->Option (ct (Int×bj×ab) (bj×ab))
 |(v20,v34,v35)=>bif ltB v20 (v35.av.length:Int) then(abU (cO v34 7) λr117=>abU (iter (Gr v20) FU (r117.1,v35.aF,r117.2)) λ((v132,v133):List ah×bj)=>abU (jn v133 5) λr139=>abU (bif !r139.1 then(abU (ix v35.av v20) λx151=>abU (yp x151) λr152=>abU (ix v35.av v20) λx153=>abU (iter (tm v20 r152) FU (0,{v35 with av:=(v35.av.set (v20).toNat r152.bm),aF:=v132})) λ(v179:ab)=>some v179) else(some {v35 with aF:=v132})) λ(v150:ab)=>some (.next (WR (v20+1),r139.2,v150))) else(some (.done (v34,v35)))
def BR (a0:bj):Option (ab×bj):=
 abU (BM a0) λr1=>abU (abU (BI r1.2) λr16=>abU (nD r16.2) λr17=>abU (cO r17.2 60) λr18=>abU (uh r16.1 r17.1 r1.1 (WR (30+r18.1))) λr19=>some (r19.dy,r19.qO,r19.ki,r19.bk,r19.aF,r19.av,r19.ei.a8,r18.2,r19.ev)) λ((v5,v8,v9,v10,v11,v12,v13,v14,v15):Int×Int×Int×List am×List ah×List aJ×List fy×bj×bH)=>abU (iter (Gq) FU (0,v14,(⟨(⟨v13⟩:aS),v12,v11,v10,([]:List bS),v5,v15,v8,v9⟩:ab))) λ((v115,v116):bj×ab)=>some (v116,v115)
theorem Se {a0:bj} {r:ab×bj} (H:BR a0=some r):FnV prog 111 [(200,.var 135 (kM [.f] (co a0)))] [tP 200] [(200,.var 135 (kM [.f] (co r.2)))] (.v (.agg (kM [.t,.n 210,.n 211,.n 212,.n 213] (bw r.1)))) [(210,n93 r.1.av),(211,n75 r.1.aF),(212,n57 r.1.bk),(213,n49 r.1.aT)]:=by
 refine fV func111 ntmps111 ?_
 refine aa H λr1 q1 H=>sA (cwv [(200,200)] [(210,211)] 212 (Oi q1)) ?_
 refine wI ?_
 obtain⟨⟨v5,v8,v9,v10,v11,v12,v13,v14,v15⟩,Hj,H⟩:=ob H
 refine OP ⟨[(0,tP 200),(2,tP 210),(4,tP 214)],(oM [.n 215,.n 216,.n 217,.n 218,.z] 214 34 (bw (⟨(⟨v13⟩:aS),v12,v11,v10,[],v5,v15,v8,v9⟩:ab))++[(200,.var 135 (kM [.f] (co v14))),(210,.var 34 (kM [.z,.z,.z,.z,.z] (bw {dV with ei:=(⟨[]⟩:aS)})))]),219⟩ Try.follows ?_ ?_
 .have H:=Hj
  refine Ht 8 9 rfl ?_ ?_
  .refine IQ [0,1,2,3,4,5,6,7,9,8,10] (by kernel_rfl) (by kernel_rfl) rfl ?_
   refine wI ?_
   refine aa H λr16 q16 H=>wA (cwx (o:=200) (FnV.frzW (Gf q16) rfl rfl ⟨by first|rfl|simp,trivial⟩ rfl)) ?_
   refine aa H λr17 q17 H=>wA (cwx (o:=200) (uz q17)) ?_
   refine aa H λr18 q18 H=>wA (cwx (o:=200) (cp q18)) ?_
   refine aa H λr19 q19 H=>zB (an (aV (o:=213)) (an (bN (k:=16)) (fG 211))) (fQ rfl (cwv [] [(210,215),(211,216),(212,217),(213,218)] 219 (zM q19))) bK ?_
   refine wA (spx 100218) ?_
   exact ai H
  refine IQ [0,1,2,3,4,5,6,7,8,9,10] (by kernel_rfl) (by kernel_rfl) rfl ?_
  refine wI ?_
  refine aa H λr16 q16 H=>wA (cwx (o:=200) (FnV.frzW (Gf q16) rfl rfl ⟨by first|rfl|simp,trivial⟩ rfl)) ?_
  refine aa H λr17 q17 H=>wA (cwx (o:=200) (uz q17)) ?_
  refine aa H λr18 q18 H=>wA (cwx (o:=200) (cp q18)) ?_
  refine aa H λr19 q19 H=>zB (an (aV (o:=213)) (an (bN (k:=16)) (fG 211))) (fQ rfl (cwv [] [(210,214),(211,215),(212,216),(213,217)] 218 (zM q19))) bK ?_
  refine wA (spx 100219) ?_
  cases H
  refine an (wS 214 218) ?_
  refine an (wS 215 218) ?_
  refine an (wS 216 218) ?_
  refine an (wS 217 218) ?_
  exact wo
 refine wI ?_
 obtain⟨⟨v115,v116⟩,Hj,H⟩:=ob H
 refine jB ⟨[(2,tP 210),(4,tP 214)],(oM [.t,.n 216,.n 217,.n 218,.n 219] 214 34 (bw v116)++[(200,.var 135 (kM [.f] (co v115))),(210,.var 34 (kM [.z,.z,.z,.z,.z] (bw {dV with ei:=(⟨[]⟩:aS)})))]),220⟩ ?_ ?_
 .refine iT Hj (λq=>⟨[(0,tP 200),(2,tP 210),(4,tP 214),(5,tI q.1)],(oM [.t,.n 216,.n 217,.n 218,.n 219] 214 34 (bw q.2.2)++[(200,.var 135 (kM [.f] (co q.2.1))),(210,.var 34 (kM [.z,.z,.z,.z,.z] (bw {dV with ei:=(⟨[]⟩:aS)})))]),220⟩) ?_ (by refine an (fG 215) ?_;refine an (dH (o:=214) (j:=4) 49 21 true) ?_;refine an (wB 219 (([]:List bS).length)) ?_;exact wo)
  rintro⟨v20,v34,v35⟩ o H
  refine ad ?_
  refine cC H ?_ ?_<;>intro H
  .refine aa H λr117 q117 H=>sA (cw (o:=200) (cp q117)) ?_
   obtain⟨⟨v132,v133⟩,Hj,H⟩:=ob H
   refine jB ⟨[(0,tP 200),(2,tP 210),(4,tP 214),(5,tI v20)],(oM [.t,.n 216,.n 217,.n 218,.n 219] 214 34 (bw {v35 with aF:=v132})++[(200,.var 135 (kM [.f] (co v133))),(210,.var 34 (kM [.z,.z,.z,.z,.z] (bw {dV with ei:=(⟨[]⟩:aS)})))]),220⟩ ?_ ?_
   .refine iT Hj (λq=>⟨[(0,tP 200),(2,tP 210),(4,tP 214),(5,tI v20),(6,tI q.1)],(oM [.t,.n 216,.n 217,.n 218,.n 219] 214 34 (bw {v35 with aF:=q.2.1})++[(200,.var 135 (kM [.f] (co q.2.2))),(210,.var 34 (kM [.z,.z,.z,.z,.z] (bw {dV with ei:=(⟨[]⟩:aS)})))]),220⟩) ?_
    rintro⟨v118,v122,v123⟩ o H
    refine ad ?_
    refine cC H ?_ ?_<;>intro H
    .refine zI (List.range 16) ?_
     refine aa H λx134 hx134 H=>zA (qN hx134) ?_
     refine zA (JR (he:=ez _ hx134)) ?_
     refine aa H λr135 q135 H=>wA (cwx (o:=200) (cp q135)) ?_
     refine aa H λr136 q136 H=>wA (cwx (o:=200) (Gh q136)) ?_
     refine aa H λr137 q137 H=>zA (ca (hF:=xk.h q137)) ?_
     refine wA (spx 100243) ?_
     refine aa H λx138 hx138 H=>bG (mc 217 (hne:=xW (enc:=bZ) hx138)) ?_
     refine nA (xwT hx138) ?_
     refine bG (aV (o:=221)) ?_
     refine bG (aV (o:=222)) ?_
     refine bG (aV (o:=223)) ?_
     refine bG (bN (k:=51)) ?_
     refine sA (soT (enc:=bZ) (a':=r137.1) hx138) ?_
     cases H
     refine tD ?_
     refine an (ec 217) ?_
     refine an (wB 217 ((v122.set (v20).toNat r137.1).length)) ?_
     exact wo
    exact aE H
   refine aa H λr139 q139 H=>sA (cw (o:=200) (i8 q139)) ?_
   refine aa H λv150 Hj H=>jA ⟨[(0,tP 200),(2,tP 210),(4,tP 214),(5,tI v20)],(oM [.t,.n 216,.n 217,.n 218,.n 219] 214 34 (bw v150)++[(200,.var 135 (kM [.f] (co r139.2))),(210,.var 34 (kM [.z,.z,.z,.z,.z] (bw {dV with ei:=(⟨[]⟩:aS)})))]),220⟩ ?_ ?_
   .refine cC Hj ?_ ?_<;>intro H
    .refine aa H λx151 hx151 H=>bG (mc 216 (hne:=xW (enc:=c9) hx151)) ?_
     refine nA (xwT hx151) ?_
     refine nA (oea (he:=ez _ hx151)) ?_
     refine aa H λr152 q152 H=>nA (ca (hF:=FX.h q152)) ?_
     refine aa H λx153 hx153 H=>nA (xwT hx153) ?_
     refine sA (soT (enc:=c9) (a':=r152.bm) hx153) ?_
     refine aa H λv179 Hj H=>jB ⟨[(0,tP 200),(2,tP 210),(4,tP 214),(5,tI v20)],(oM [.t,.n 216,.n 217,.n 218,.n 219] 214 34 (bw v179)++[(200,.var 135 (kM [.f] (co r139.2))),(210,.var 34 (kM [.z,.z,.z,.z,.z] (bw {dV with ei:=(⟨[]⟩:aS)})))]),220⟩ ?_ ?_
     .refine iT Hj (λq=>⟨[(0,tP 200),(2,tP 210),(4,tP 214),(5,tI v20),(9,tP 221),(10,tI q.1)],(oM [.t,.n 216,.n 217,.n 218,.n 219] 214 34 (bw q.2)++(oM [.t,.t,.w 220] 221 189 (cd r152)++[(200,.var 135 (kM [.f] (co r139.2))),(210,.var 34 (kM [.z,.z,.z,.z,.z] (bw {dV with ei:=(⟨[]⟩:aS)})))])),222⟩) ?_ (by refine an (ec 216) ?_;refine an (wB 216 ((v35.av.set (v20).toNat r152.bm).length)) ?_;exact wo)
      rintro⟨v154,v165⟩ o H
      refine ad ?_
      refine cC H ?_ ?_<;>intro H
      .refine zI (List.range 14) ?_
       refine aa H λx180 hx180 H=>zA (xwT hx180) ?_
       refine zA (oe (he:=ez _ hx180)) ?_
       refine aa H λx181 hx181 H=>zA (xwT hx181) ?_
       refine zA (oea (he:=ez _ hx181)) ?_
       refine aa H λr182 q182 H=>zB bK (fQ rfl (cwu [(190,216),(191,217),(192,218),(193,219),(200,214)] [] 222 (tp q182))) bK ?_
       exact aN H
      exact aE H
     exact ai H
    exact ai H
   exact aN H
  exact aE H
 cases H
 refine bF (wS 216 210) ?_
 refine bF (wS 217 211) ?_
 refine bF (wS 218 212) ?_
 refine bF (wS 219 213) ?_
 exact cg
def wU (a0:ab) (a1:Int):Option Bool:=
 abU (ix a0.av a1) λx1=>abU (ix a0.aF a1) λx2=>abU (oV x1) λr3=>abU (bif !r3 then(some true) else(abU (kP x2) λr5=>bif !r5 then(some true) else(abU (ix a0.bk a1) λx6=>abU (ig x6) λr7=>bif !r7 then(some true) else(bif !(eqB x1.dq.ID.dZ x2.bE.ID.dZ&&(eqB x1.dq.ID.bW x2.bE.ID.bW&&true)) then(some true) else(some (!eqB x1.dq.fo x2.bE.fo)))))) λ(v4:Bool)=>bif v4 then(some false) else(abU (bif ltB x1.bg (a0.ei.a8.length:Int) then(bif ltB x2.bg (a0.ei.a8.length:Int) then(bif eqB x2.bU.aC a1 then(abU (ix a0.bk a1) λx9=>abU (fZ x9 x2.bU) λr10=>some r10) else(some false)) else(some false)) else(some false)) λ(v8:Bool)=>some v8)
instance Yp {a0:ab} {r:Bool}:FC prog (wU a0 a1=some r) 122 [.agg (gv a0),aI a1] [.c (.d (.b r))]:=gF func122 ntmps122 (hb 20 51) (hb 59 4)
def iQ (a0:ab):Int->Option (ct (Int) (Bool))
 |v6=>bif ltB v6 (a0.aT.length:Int) then(abU (ix a0.aT v6) λx7=>abU (du x7.bm 0 (WR ((a0.av.length:Int)-1))) λr8=>abU (bif !r8 then(some true) else(abU (ix a0.aT v6) λx10=>abU (du x10.bg 0 (WR ((a0.ei.a8.length:Int)-1))) λr11=>some (!r11))) λ(v9:Bool)=>bif v9 then(dn (some false)) else(some (.next (WR (v6+1))))) else(dn (bif leB 0 (a0.ei.a8.length:Int) then(abU (du a0.dy 0 (WR ((md .i64 1 (a0.ei.a8.length:Int))-1))) λr12=>abU (bif r12 then(abU (du a0.qO 0 100000) λr14=>bif r14 then(some (leB 0 a0.ki)) else(some false)) else(some false)) λ(v13:Bool)=>some v13) else none))
def iO (a0:ab):Int->Option (ct (Int) (Bool))
 |v4=>bif ltB v4 (a0.av.length:Int) then(abU (wU a0 v4) λr5=>bif !r5 then(dn (some false)) else(some (.next (WR (v4+1))))) else(dn (iter (iQ a0) FU 0))
def nz (a0:ab):Option Bool:=
 abU (qF a0.ei) λr1=>abU (bif !r1 then(some true) else(abU (mw a0.ev) λr3=>bif !r3 then(some true) else(bif eqB a0.ev.fB 0 then(some true) else(bif ltB 4 (a0.av.length:Int) then(some true) else(bif !eqB (a0.aF.length:Int) (a0.av.length:Int) then(some true) else(bif !eqB (a0.bk.length:Int) (a0.av.length:Int) then(some true) else(some (ltB 200 (a0.aT.length:Int))))))))) λ(v2:Bool)=>bif v2 then(some false) else(iter (iO a0) FU 0)
instance Qb {a0:ab} {r:Bool}:FC prog (nz a0=some r) 63 [.agg (gv a0)] [.c (.d (.b r))]:=gF func63 ntmps63 (hb 9 50) (hl 0 3) (hl 2 4) (hb 81 95) (hb 105 2)
def tc (a0:Int) (a1:bv):Option Bool:=
 abU (CI a0 a1) λr1=>some (eqB a1.jE r1)
instance Yg {a1:bv} {r:Bool}:FC prog (tc a0 a1=some r) 125 [aI a0,.agg (eQ a1)] [.c (.d (.b r))]:=gF func125 ntmps125
def lY (a1:fJ):(Int×Int)->Option (ct (Int×Int) (Int))
 |(v1,v2)=>bif ltB v2 (a1.Steps.length:Int) then(abU (ix a1.Steps v2) λx6=>abU (pT v1 x6) λr7=>some (.next (r7,WR (v2+1)))) else(some (.done v1))
def qG (a0:Int) (a1:fJ):Option Int:=
 abU (iter (lY a1) FU (a0,0)) λ(v5:Int)=>some v5
instance WF {a1:fJ} {r:Int}:FC prog (qG a0 a1=some r) 209 [aI a0,.agg (HE a1)] [.c (.d (.i .i64 r))]:=gF func209 ntmps209 (hm 0 5 6) (he 0 5 6)
def kR (a0:Int) (a1:Int) (a2:Int):Option Int:=
 abU (Hc a2 1000000) λr1=>abU (m9 a0 a1) λr2=>abU (Hc (WR (r1-r2)) 1000000) λr3=>some r3
instance Qg {a2:Int} {r:Int}:FC prog (kR a0 a1 a2=some r) 212 [aI a0,aI a1,aI a2] [.c (.d (.i .i64 r))]:=gF func212 ntmps212
def FY (a0:Int) (a1:Int) (a2:Int) (a3:List Int):Option bv:=
 abU (pT a0 (WR ((WR (2*a2))+a1))) λr1=>abU (BC r1 a3) λr2=>abU (CI a0 (⟨a1,a2,r2,0⟩:bv)) λr3=>some (⟨a1,a2,r2,r3⟩:bv)
instance sProtect_c {a2:Int} {a3:List Int} {r:bv}:FC prog (FY a0 a1 a2 a3=some r) 313 [aI a0,aI a1,aI a2,aL (a3.map eU8)] [.agg (qM [.o] (pI r))]:=gF func313 ntmps313
def iS (a0:Int) (a1:Int) (a2:Int):Option cE:=
 abU (du a2 0 999999) λr1=>bif !r1 then(some cr) else(abU (m9 a0 a1) λr2=>abU (Hc (WR (a2+r2)) 1000000) λr3=>abU (fk a0 [2,a1,a2]) λr4=>abU (fk a0 [3,a1]) λr5=>abU (fk a0 [4,a1,a2]) λr6=>abU (FQ 1 r6) λr7=>some (⟨a1,r3,r4,r5,r7⟩:cE))
instance vC {a2:Int} {r:cE}:FC prog (iS a0 a1 a2=some r) 314 [aI a0,aI a1,aI a2] [.agg (qM [] (eT r))]:=gF func314 ntmps314
def yy (a0:ah):Option Bool:=
 abU (bif !eqB a0.bi 1 then(some true) else(abU (kP a0) λr2=>some (!r2))) λ(v1:Bool)=>some v1
instance Gl {a0:ah} {r:Bool}:FC prog (yy a0=some r) 320 [.agg (bZ a0)] [.c (.d (.b r))]:=gF func320 ntmps320 (hb 6 2)
def mz (a0:bH) (a1:Int):(Int×Int)->Option (ct (Int×Int) (Int))
 |(v1,v2)=>abU (bif ltB v2 a0.fx then(some (ltB v2 6)) else(some false)) λ(v10:Bool)=>bif v10 then(abU (qE a0 v2) λr11=>abU (bif r11 then(bif ltB v1 0 then(some true) else(abU (jl v2 a1) λr13=>abU (jl v1 a1) λr14=>some (ltB r14 r13))) else(some false)) λ(v12:Bool)=>abU (bif v12 then(some v2) else(some v1)) λ(v15:Int)=>some (.next (v15,WR (v2+1)))) else(some (.done v1))
def mZ (a0:bH) (a1:Int):Option Int:=
 abU (iter (mz a0 a1) FU (-1,0)) λ(v9:Int)=>some v9
instance xj {a0:bH} {r:Int}:FC prog (mZ a0 a1=some r) 273 [.agg (je a0),aI a1] [.c (.d (.i .i64 r))]:=gF func273 ntmps273 (hm 0 5 6) (he 0 5 6) (hb 11 14) (hb 20 32) (hi 32 5)
end Go.AM
