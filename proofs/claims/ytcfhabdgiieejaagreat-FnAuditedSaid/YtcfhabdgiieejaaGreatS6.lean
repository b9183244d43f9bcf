/- A part. -/
import Derived.Test.YtcfhabdgiieejaaGreatS5
set_option linter.unusedVariables false
open Option renaming bind->abJ
namespace Go.AM
open Go.Proofs
open Tryz
attribute [local irreducible] AWN NS AWO AWR AWC DR DZ dQ f9 iter
set_option maxRecDepth 100000
set_option maxHeartbeats 40000000
variable {a0 a1:Int}
def Gb (v20:Int):(Int×List ah×bk)->Option (cr (Int×List ah×bk) (List ah×bk))
 |(v118,v122,v123)=>bif ltB 0 v118 then(abJ (ix v122 v20) λx134=>abJ (cH v123 4) λr135=>abJ (yz r135.2 r135.1) λr136=>abJ (mO x134 r136.1) λr137=>abJ (ix v122 v20) λx138=>some (.next (WR (v118-1),(v122.set (v20).toNat r137.1),r136.2))) else(some (.done (v122,v123)))
def tp (v20:Int) (r152:aX):(Int×ab)->Option (cr (Int×ab) (ab))
 |(v154,v165)=>bif ltB v154 (r152.dy.length:Int) then(abJ (ix r152.dy v154) λx180=>abJ (ix r152.dy v154) λx181=>abJ (gS v165 (⟨v20,true,false,x180.bh,x181,eB⟩:bM)) λr182=>some (.next (WR (v154+1),r182))) else(some (.done v165))
def Ga:(Int×bk×ab)->Option (cr (Int×bk×ab) (bk×ab))
 |(v20,v34,v35)=>bif ltB v20 (v35.aw.length:Int) then(abJ (cH v34 7) λr117=>abJ (iter (Gb v20) FU (r117.1,v35.aA,r117.2)) λ((v132,v133):List ah×bk)=>abJ (i8 v133 5) λr139=>abJ (bif !r139.1 then(abJ (ix v35.aw v20) λx151=>abJ (yw x151) λr152=>abJ (ix v35.aw v20) λx153=>abJ (iter (tp v20 r152) FU (0,{v35 with aw:=(v35.aw.set (v20).toNat r152.bm),aA:=v132})) λ(v179:ab)=>some v179) else(some {v35 with aA:=v132})) λ(v150:ab)=>some (.next (WR (v20+1),r139.2,v150))) else(some (.done (v34,v35)))
def BK (a0:bk):Option (ab×bk):=
 abJ (BH a0) λr1=>abJ (abJ (BD r1.2) λr16=>abJ (nh r16.2) λr17=>abJ (cH r17.2 60) λr18=>abJ (ug r16.1 r17.1 r1.1 (WR (30+r18.1))) λr19=>some (r19.dw,r19.rr,r19.jT,r19.bG,r19.aA,r19.aw,r19.ev.bb,r18.2,r19.eC)) λ((v5,v8,v9,v10,v11,v12,v13,v14,v15):Int×Int×Int×List aj×List ah×List aG×List fc×bk×bK)=>abJ (iter (Ga) FU (0,v14,(⟨(⟨v13⟩:aS),v12,v11,v10,([]:List bM),v5,v15,v8,v9⟩:ab))) λ((v115,v116):bk×ab)=>some (v116,v115)
instance RX {a0:bk} {r:ab×bk}:FCV prog (BK a0=some r) 78 [(200,.var 125 (kM [.f] (cj a0)))] [tP 200] [(200,.var 125 (kM [.f] (cj r.2)))] (.v (.agg (kM [.t,.n 210,.n 211,.n 212,.n 213] (bw r.1)))) [(210,n67 r.1.aw),(211,n93 r.1.aA),(212,n107 r.1.bG),(213,n48 r.1.aT)]:=⟨λH=>by
 refine fV func78 ntmps78 ?_
 refine aa H λr1 q1 H=>sA (cwv [(200,200)] [(210,211)] 212 (N1.h q1)) ?_
 refine wI ?_
 obtain⟨⟨v5,v8,v9,v10,v11,v12,v13,v14,v15⟩,Hj,H⟩:=ob H
 refine Iu ⟨[(0,tP 200),(2,tP 210),(4,tP 214)],(oM [.n 215,.n 216,.n 217,.n 218,.z] 214 34 (bw (⟨(⟨v13⟩:aS),v12,v11,v10,[],v5,v15,v8,v9⟩:ab))++[(200,.var 125 (kM [.f] (cj v14))),(210,.var 34 (kM [.z,.z,.z,.z,.z] (bw {ea with ev:=(⟨[]⟩:aS)})))]),219⟩ Try.follows ?_ ?_
 .have H:=Hj
  refine B0 8 9 rfl ?_ ?_
  .refine BZ [0,1,2,3,4,5,6,7,9,8,10] (by kernel_rfl) (by kernel_rfl) rfl ?_
   refine wI ?_
   refine aa H λr16 q16 H=>wA (cwx (o:=200) (FnV.frzW (FZ.h q16) rfl rfl ⟨by first|rfl|simp,trivial⟩ rfl)) ?_
   refine aa H λr17 q17 H=>wA (cwx (o:=200) (uy q17)) ?_
   refine aa H λr18 q18 H=>wA (cwx (o:=200) (cm q18)) ?_
   refine aa H λr19 q19 H=>zB (am (bv (o:=213)) (am (bH (k:=16)) (fx 211))) (fg rfl (cwv [] [(210,215),(211,216),(212,217),(213,218)] 219 (zT.h q19))) bC ?_
   refine wA (spx 100388) ?_
   exact ai H
  refine BZ [0,1,2,3,4,5,6,7,8,9,10] (by kernel_rfl) (by kernel_rfl) rfl ?_
  refine wI ?_
  refine aa H λr16 q16 H=>wA (cwx (o:=200) (FnV.frzW (FZ.h q16) rfl rfl ⟨by first|rfl|simp,trivial⟩ rfl)) ?_
  refine aa H λr17 q17 H=>wA (cwx (o:=200) (uy q17)) ?_
  refine aa H λr18 q18 H=>wA (cwx (o:=200) (cm q18)) ?_
  refine aa H λr19 q19 H=>zB (am (bv (o:=213)) (am (bH (k:=16)) (fx 211))) (fg rfl (cwv [] [(210,214),(211,215),(212,216),(213,217)] 218 (zT.h q19))) bC ?_
  refine wA (spx 100389) ?_
  cases H
  refine am (wS 214 218) ?_
  refine am (wS 215 218) ?_
  refine am (wS 216 218) ?_
  refine am (wS 217 218) ?_
  exact wo
 refine wI ?_
 obtain⟨⟨v115,v116⟩,Hj,H⟩:=ob H
 refine jB ⟨[(2,tP 210),(4,tP 214)],(oM [.t,.n 216,.n 217,.n 218,.n 219] 214 34 (bw v116)++[(200,.var 125 (kM [.f] (cj v115))),(210,.var 34 (kM [.z,.z,.z,.z,.z] (bw {ea with ev:=(⟨[]⟩:aS)})))]),220⟩ ?_ ?_
 .refine iT Hj (λq=>⟨[(0,tP 200),(2,tP 210),(4,tP 214),(5,tI q.1)],(oM [.t,.n 216,.n 217,.n 218,.n 219] 214 34 (bw q.2.2)++[(200,.var 125 (kM [.f] (cj q.2.1))),(210,.var 34 (kM [.z,.z,.z,.z,.z] (bw {ea with ev:=(⟨[]⟩:aS)})))]),220⟩) ?_ (by refine am (fx 215) ?_;refine am (dE (o:=214) (j:=4) 48 21 true) ?_;refine am (wB 219 (([]:List bM).length)) ?_;exact wo)
  rintro⟨v20,v34,v35⟩ o H
  refine ad ?_
  refine cC H ?_ ?_<;>intro H
  .refine aa H λr117 q117 H=>sA (cw (o:=200) (cm q117)) ?_
   obtain⟨⟨v132,v133⟩,Hj,H⟩:=ob H
   refine jB ⟨[(0,tP 200),(2,tP 210),(4,tP 214),(5,tI v20)],(oM [.t,.n 216,.n 217,.n 218,.n 219] 214 34 (bw {v35 with aA:=v132})++[(200,.var 125 (kM [.f] (cj v133))),(210,.var 34 (kM [.z,.z,.z,.z,.z] (bw {ea with ev:=(⟨[]⟩:aS)})))]),220⟩ ?_ ?_
   .refine iT Hj (λq=>⟨[(0,tP 200),(2,tP 210),(4,tP 214),(5,tI v20),(6,tI q.1)],(oM [.t,.n 216,.n 217,.n 218,.n 219] 214 34 (bw {v35 with aA:=q.2.1})++[(200,.var 125 (kM [.f] (cj q.2.2))),(210,.var 34 (kM [.z,.z,.z,.z,.z] (bw {ea with ev:=(⟨[]⟩:aS)})))]),220⟩) ?_
    rintro⟨v118,v122,v123⟩ o H
    refine ad ?_
    refine cC H ?_ ?_<;>intro H
    .refine zI (List.range 16) ?_
     refine aa H λx134 hx134 H=>zA (qL hx134) ?_
     refine zA (Jw (he:=dF _ hx134)) ?_
     refine aa H λr135 q135 H=>wA (cwx (o:=200) (cm q135)) ?_
     refine aa H λr136 q136 H=>wA (cwx (o:=200) (F2 q136)) ?_
     refine aa H λr137 q137 H=>zA (ca (hF:=xh.h q137)) ?_
     refine wA (spx 100413) ?_
     refine aa H λx138 hx138 H=>bL (lU 217 (hne:=ya (enc:=bS) hx138)) ?_
     refine nA (xwT hx138) ?_
     refine bL (bv (o:=221)) ?_
     refine bL (bv (o:=222)) ?_
     refine bL (bv (o:=223)) ?_
     refine bL (bH (k:=51)) ?_
     refine sA (soT (enc:=bS) (a':=r137.1) hx138) ?_
     cases H
     refine sV ?_
     refine am (d8 217) ?_
     refine am (wB 217 ((v122.set (v20).toNat r137.1).length)) ?_
     exact wo
    exact aE H
   refine aa H λr139 q139 H=>sA (cw (o:=200) (iN q139)) ?_
   refine aa H λv150 Hj H=>jA ⟨[(0,tP 200),(2,tP 210),(4,tP 214),(5,tI v20)],(oM [.t,.n 216,.n 217,.n 218,.n 219] 214 34 (bw v150)++[(200,.var 125 (kM [.f] (cj r139.2))),(210,.var 34 (kM [.z,.z,.z,.z,.z] (bw {ea with ev:=(⟨[]⟩:aS)})))]),220⟩ ?_ ?_
   .refine cC Hj ?_ ?_<;>intro H
    .refine aa H λx151 hx151 H=>bL (lU 216 (hne:=ya (enc:=cF) hx151)) ?_
     refine nA (xwT hx151) ?_
     refine nA (oea (he:=dF _ hx151)) ?_
     refine aa H λr152 q152 H=>nA (ca (hF:=FF.h q152)) ?_
     refine aa H λx153 hx153 H=>nA (xwT hx153) ?_
     refine sA (soT (enc:=cF) (a':=r152.bm) hx153) ?_
     refine aa H λv179 Hj H=>jB ⟨[(0,tP 200),(2,tP 210),(4,tP 214),(5,tI v20)],(oM [.t,.n 216,.n 217,.n 218,.n 219] 214 34 (bw v179)++[(200,.var 125 (kM [.f] (cj r139.2))),(210,.var 34 (kM [.z,.z,.z,.z,.z] (bw {ea with ev:=(⟨[]⟩:aS)})))]),222⟩ ?_ ?_
     .refine iT Hj (λq=>⟨[(0,tP 200),(2,tP 210),(4,tP 214),(5,tI v20),(9,tP 221),(10,tI q.1)],(oM [.t,.n 216,.n 217,.n 218,.n 219] 214 34 (bw q.2)++(oM [.t,.t,.w 220] 221 170 (dm r152)++[(200,.var 125 (kM [.f] (cj r139.2))),(210,.var 34 (kM [.z,.z,.z,.z,.z] (bw {ea with ev:=(⟨[]⟩:aS)})))])),222⟩) ?_ (by refine am (d8 216) ?_;refine am (wB 216 ((v35.aw.set (v20).toNat r152.bm).length)) ?_;exact wo)
      rintro⟨v154,v165⟩ o H
      refine ad ?_
      refine cC H ?_ ?_<;>intro H
      .refine zI (List.range 14) ?_
       refine aa H λx180 hx180 H=>zA (xwT hx180) ?_
       refine zA (oe (he:=dF _ hx180)) ?_
       refine aa H λx181 hx181 H=>zA (xwT hx181) ?_
       refine zA (oea (he:=dF _ hx181)) ?_
       refine aa H λr182 q182 H=>zB bC (fg rfl (cwu [(190,216),(191,217),(192,218),(193,219),(200,214)] [] 222 (tq.h q182))) bC ?_
       exact aN H
      exact aE H
     exact ai H
    exact ai H
   exact aN H
  exact aE H
 cases H
 refine bA (wS 216 210) ?_
 refine bA (wS 217 211) ?_
 refine bA (wS 218 212) ?_
 refine bA (wS 219 213) ?_
 exact bj⟩
def wQ (a0:ab) (a1:Int):Option Bool:=
 abJ (ix a0.aw a1) λx1=>abJ (ix a0.aA a1) λx2=>abJ (oK x1) λr3=>abJ (bif !r3 then(some true) else(abJ (kB x2) λr5=>bif !r5 then(some true) else(abJ (ix a0.bG a1) λx6=>abJ (ia x6) λr7=>bif !r7 then(some true) else(bif !(eqB x1.dr.ID.eb x2.bF.ID.eb&&(eqB x1.dr.ID.bV x2.bF.ID.bV&&true)) then(some true) else(some (!eqB x1.dr.eX x2.bF.eX)))))) λ(v4:Bool)=>bif v4 then(some false) else(abJ (bif ltB x1.bh (a0.ev.bb.length:Int) then(bif ltB x2.bh (a0.ev.bb.length:Int) then(bif eqB x2.b9.aJ a1 then(abJ (ix a0.bG a1) λx9=>abJ (fL x9 x2.b9) λr10=>some r10) else(some false)) else(some false)) else(some false)) λ(v8:Bool)=>some v8)
instance Yx {a0:ab} {r:Bool}:FC prog (wQ a0 a1=some r) 66 [.agg (fG a0),aI a1] [.c (.d (.b r))]:=gF func66 ntmps66 (hb 20 51) (hb 59 4)
def iC (a0:ab):Int->Option (cr (Int) (Bool))
 |v6=>bif ltB v6 (a0.aT.length:Int) then(abJ (ix a0.aT v6) λx7=>abJ (du x7.bm 0 (WR ((a0.aw.length:Int)-1))) λr8=>abJ (bif !r8 then(some true) else(abJ (ix a0.aT v6) λx10=>abJ (du x10.bh 0 (WR ((a0.ev.bb.length:Int)-1))) λr11=>some (!r11))) λ(v9:Bool)=>bif v9 then(dn (some false)) else(some (.next (WR (v6+1))))) else(dn (bif leB 0 (a0.ev.bb.length:Int) then(abJ (du a0.dw 0 (WR ((lX .i64 1 (a0.ev.bb.length:Int))-1))) λr12=>abJ (bif r12 then(abJ (du a0.rr 0 100000) λr14=>bif r14 then(some (leB 0 a0.jT)) else(some false)) else(some false)) λ(v13:Bool)=>some v13) else none))
def iB (a0:ab):Int->Option (cr (Int) (Bool))
 |v4=>bif ltB v4 (a0.aw.length:Int) then(abJ (wQ a0 v4) λr5=>bif !r5 then(dn (some false)) else(some (.next (WR (v4+1))))) else(dn (iter (iC a0) FU 0))
def na (a0:ab):Option Bool:=
 abJ (qE a0.ev) λr1=>abJ (bif !r1 then(some true) else(abJ (me a0.eC) λr3=>bif !r3 then(some true) else(bif eqB a0.eC.fP 0 then(some true) else(bif ltB 4 (a0.aw.length:Int) then(some true) else(bif !eqB (a0.aA.length:Int) (a0.aw.length:Int) then(some true) else(bif !eqB (a0.bG.length:Int) (a0.aw.length:Int) then(some true) else(some (ltB 200 (a0.aT.length:Int))))))))) λ(v2:Bool)=>bif v2 then(some false) else(iter (iB a0) FU 0)
instance PT {a0:ab} {r:Bool}:FC prog (na a0=some r) 23 [.agg (fG a0)] [.c (.d (.b r))]:=gF func23 ntmps23 (hb 9 50) (hl 0 3) (hl 2 4) (hb 81 95) (hb 105 2)
def tg (a0:Int) (a1:bi):Option Bool:=
 abJ (CE a0 a1) λr1=>some (eqB a1.iK r1)
instance Ym {a1:bi} {r:Bool}:FC prog (tg a0 a1=some r) 85 [aI a0,.agg (ee a1)] [.c (.d (.b r))]:=gF func85 ntmps85
def lO (a1:fA):(Int×Int)->Option (cr (Int×Int) (Int))
 |(v1,v2)=>bif ltB v2 (a1.Steps.length:Int) then(abJ (ix a1.Steps v2) λx6=>abJ (pG v1 x6) λr7=>some (.next (r7,WR (v2+1)))) else(some (.done v1))
def qF (a0:Int) (a1:fA):Option Int:=
 abJ (iter (lO a1) FU (a0,0)) λ(v5:Int)=>some v5
instance WL {a1:fA} {r:Int}:FC prog (qF a0 a1=some r) 164 [aI a0,.agg (Hp a1)] [.c (.d (.i .i64 r))]:=gF func164 ntmps164 (hm 0 5 6) (he 0 5 6)
def kD (a0:Int) (a1:Int) (a2:Int):Option Int:=
 abJ (G3 a2 1000000) λr1=>abJ (mN a0 a1) λr2=>abJ (G3 (WR (r1-r2)) 1000000) λr3=>some r3
instance P0 {a2:Int} {r:Int}:FC prog (kD a0 a1 a2=some r) 167 [aI a0,aI a1,aI a2] [.c (.d (.i .i64 r))]:=gF func167 ntmps167
def FG (a0:Int) (a1:Int) (a2:Int) (a3:List Int):Option bi:=
 abJ (pG a0 (WR ((WR (2*a2))+a1))) λr1=>abJ (Bx r1 a3) λr2=>abJ (CE a0 (⟨a1,a2,r2,0⟩:bi)) λr3=>some (⟨a1,a2,r2,r3⟩:bi)
instance sProtect_c {a2:Int} {a3:List Int} {r:bi}:FC prog (FG a0 a1 a2 a3=some r) 320 [aI a0,aI a1,aI a2,aL (a3.map eU8)] [.agg (qM [.o] (pm r))]:=gF func320 ntmps320
def iF (a0:Int) (a1:Int) (a2:Int):Option cy:=
 abJ (du a2 0 999999) λr1=>bif !r1 then(some cp) else(abJ (mN a0 a1) λr2=>abJ (G3 (WR (a2+r2)) 1000000) λr3=>abJ (eV a0 [2,a1,a2]) λr4=>abJ (eV a0 [3,a1]) λr5=>abJ (eV a0 [4,a1,a2]) λr6=>abJ (FB 1 r6) λr7=>some (⟨a1,r3,r4,r5,r7⟩:cy))
instance vA {a2:Int} {r:cy}:FC prog (iF a0 a1 a2=some r) 321 [aI a0,aI a1,aI a2] [.agg (qM [] (eP r))]:=gF func321 ntmps321
def yC (a0:ah):Option Bool:=
 abJ (bif !eqB a0.bp 1 then(some true) else(abJ (kB a0) λr2=>some (!r2))) λ(v1:Bool)=>some v1
instance F6 {a0:ah} {r:Bool}:FC prog (yC a0=some r) 327 [.agg (bS a0)] [.c (.d (.b r))]:=gF func327 ntmps327 (hb 6 2)
def mg (a0:bK) (a1:Int):(Int×Int)->Option (cr (Int×Int) (Int))
 |(v1,v2)=>abJ (bif ltB v2 a0.fC then(some (ltB v2 6)) else(some false)) λ(v10:Bool)=>bif v10 then(abJ (qD a0 v2) λr11=>abJ (bif r11 then(bif ltB v1 0 then(some true) else(abJ (i6 v2 a1) λr13=>abJ (i6 v1 a1) λr14=>some (ltB r14 r13))) else(some false)) λ(v12:Bool)=>abJ (bif v12 then(some v2) else(some v1)) λ(v15:Int)=>some (.next (v15,WR (v2+1)))) else(some (.done v1))
def mM (a0:bK) (a1:Int):Option Int:=
 abJ (iter (mg a0 a1) FU (-1,0)) λ(v9:Int)=>some v9
instance xg {a0:bK} {r:Int}:FC prog (mM a0 a1=some r) 266 [.agg (iO a0),aI a1] [.c (.d (.i .i64 r))]:=gF func266 ntmps266 (hm 0 5 6) (he 0 5 6) (hb 11 14) (hb 20 32) (hi 32 5)
end Go.AM
