/- A part. -/
import Derived.Test.YtfbpfflnhfcmaaaGreatS10
import Derived.Test.YtfbpfflnhfcmaaaGreatS11
import Derived.Test.YtfbpfflnhfcmaaaGreatS12
import Derived.Test.YtfbpfflnhfcmaaaGreatS13
set_option linter.unusedVariables false
open Option renaming some->ς,none->ξ
open Bool renaming true->ζ,false->η
open True renaming intro->θ
open Option renaming bind->acE
namespace Go.AM
open Go.Proofs
open Tryz
attribute [local irreducible] AWN NS AWO AWR AWC DR DZ du gr iter
set_option maxRecDepth 100000
set_option maxHeartbeats 40000000
def px(a0:ae)(a1:dJ):Int->Option (ci (Int) (Bool))
 |v4=>cond (ltB v4 (a0.aT.length:Int)) (acE (ix a0.aT v4) λx5=>acE (pT x5 a1.b7) λr6=>cond r6 (dn (ς ζ)) (ς (.next (WR (v4+1))))) (dn (acE (ix a0.ax a1.b7.bj) λx7=>acE (cond a1.b7.dB (ς (!a1.b7.ey)) (ς η)) λ(v8:Bool)=>cond v8 (acE (cond (ltB a1.b7.ct.ah x7.ah) (ς ζ) (cond (eqB a1.b7.ct.ah x7.ah) (acE (pM x7.bg a1.b7.ct) λr10=>ς (!r10)) (ς η))) λ(v9:Bool)=>ς v9) (cond a1.b7.dB (ς ζ) (cond a1.b7.ey (acE (ix a0.aJ a1.b7.bj) λx11=>acE (pU x11 a1.b7.a8) λr12=>ς r12) (acE (mL x7 a1.b7.a8) λr13=>ς r13)))))
def uQ(a0:ae)(a1:dJ):Option Bool:=
 acE (cond (!eqB a1.bu 13) (ς ζ) (acE (lj a0) λr2=>cond (!r2) (ς ζ) (acE (kR a0 a1.b7) λr3=>ς (!r3)))) λ(v1:Bool)=>cond v1 (ς ζ) (iter (px a0 a1) FU 0)
instance H2{a0:ae}{a1:dJ}{r:Bool}:FC prog (uQ a0 a1=ς r) 8 [.agg (g5 a0),.agg (Ex a1)] [.c (.d (.b r))]:=gG func8 ntmps8 (hb 13 23) (hl 0 6) (hb 47 44) (hb 58 4)
def As(a0:av)(a1:ae):Option (dJ×av):=
 acE (bC a0 (a1.ax.length:Int)) λr1=>acE (ix a1.ax r1.1) λx2=>acE (bC r1.2 (a1.d7.bp.length:Int)) λr3=>acE (gq r3.2 2) λr4=>acE (bC r4.2 3) λr5=>acE (cond (eqB r5.1 0) (acE (bC r5.2 9) λr30=>acE (qq x2.bg x2.ah x2.aY (⟨WR (1+r30.1),[9]⟩:ab)) λr31=>ς (r30.2,(⟨r1.1,η,ζ,r3.1,fc,{r31 with bL:={r31.bL with i7:=Int.tmod (WR (r31.bL.i7+1)) 2147483647}}⟩:bA))) (acE (cond (eqB r5.1 1) (acE (ER r5.2 x2) λr49=>ς (η,r49.2,r49.1)) (acE (ix a1.aJ r1.1) λx50=>acE (xM r5.2 x50) λr51=>ς (ζ,r51.2,r51.1))) λ((v35,v47,v48):Bool×av×aG)=>ς (v47,(⟨r1.1,v35,η,r3.1,v48,fg⟩:bA)))) λ((v28,v29):av×bA)=>acE (uQ a1 {ec with bu:=13,b7:=v29}) λr52=>acE (cond (!r52) (ς 7) (ς v29.a8.bu)) λ(v53:Int)=>ς ({ec with bu:=13,b7:={v29 with a8:={v29.a8 with bu:=v53}}},v28)
instance MT{a0:av}{a1:ae}{r:dJ×av}:FCV prog (As a0 a1=ς r) 147 (oM [.t,.n 190,.n 191,.n 192,.n 193] 201 34 (bF a1)++[(200,.var 124 (kM [.f] (be a0)))]) [tP 200,.v (.agg [.d η (.l (a1.d7.bp.map eL)),.wn 190 a1.ax.length,.wn 191 a1.aJ.length,.wn 192 a1.bD.length,.wn 193 a1.aT.length,.d η (.i .i64 a1.cF),.d η (.i .i64 a1.fP.fy),.d η (.i .i64 a1.fP.fj),.d η (.i .i64 a1.lV),.d η (.i .i64 a1.Lost)])] (oM [.t,.n 190,.n 191,.n 192,.n 193] 201 34 (bF a1)++[(200,.var 124 (kM [.f] (be r.2)))]) (.v (.agg (kM [.z,.n 210] (g6 {r.1 with bk:=[]})))) [(210,n5 r.1.b7.ct.bL.bk)]:=⟨λH=>by
 refine fV func147 ntmps147 ?_
 refine aa H λr1 q1 H=>sA (cw (o:=200) (cr.h q1)) ?_
 refine aa H λx2 hx2 H=>dW (lv 190 (hne:=yd (enc:=dF) hx2)) ?_
 refine nA (xwT hx2) ?_
 refine nA (oea (he:=kK _ hx2)) ?_
 refine aa H λr3 q3 H=>sA (cw (o:=200) (cr.h q3)) ?_
 refine aa H λr4 q4 H=>sA (cw (o:=200) (ko.h q4)) ?_
 refine aa H λr5 q5 H=>sA (cw (o:=200) (cr.h q5)) ?_
 obtain⟨⟨v28,v29⟩,Hj,H⟩:=ob H
 refine jA ⟨[(3,tP 210),(4,tP 211),(7,tP 213)],(oM [.t,.w 190,.n 191,.n 192,.n 193] 201 34 (bF a1)++(oM [.n 215] 213 48 (oN v29)++[(200,.var 124 (kM [.f] (be v28))),(210,.var 34 (kM [.f,.w 190,.n 191,.n 192,.n 193] (bF a1))),(211,.var 50 (kM [.z,.z] (g6 ec)))])),216⟩ ?_ ?_
 .refine cC Hj ?_ ?_<;>intro H
  .refine zI (List.range 14) ?_
   refine aa H λr30 q30 H=>wA (cwx (o:=200) (cr.h q30)) ?_
   refine aa H λr31 q31 H=>zA (ca (hF:=KE.h q31)) ?_
   refine wA (spx 100328) ?_
   refine nA (ir rfl rfl rfl (by decide)) ?_
   cases H
   refine aP (fZ 215) ?_
   refine aP (wB 214 [9].length) ?_
   exact wo
  obtain⟨⟨v35,v47,v48⟩,Hj,H⟩:=ob H
  refine jA ⟨[(3,tP 210),(4,tP 211),(7,tP 213)],(oM [.t,.w 190,.n 191,.n 192,.n 193] 201 34 (bF a1)++[(200,.var 124 (kM [.f] (be v47))),(210,.var 34 (kM [.f,.w 190,.n 191,.n 192,.n 193] (bF a1))),(211,.var 50 (kM [.z,.z] (g6 ec))),(213,.var 48 (kM [.z] (oN (⟨r1.1,v35,η,r3.1,v48,fg⟩:bA))))]),214⟩ ?_ ?_
  .refine cC Hj ?_ ?_<;>intro H
   .refine aa H λr49 q49 H=>sA (cw (o:=200) (Tn.h q49)) ?_
    exact ai H
   refine aa H λx50 hx50 H=>dW (lv 191 (hne:=yd (enc:=cp) hx50)) ?_
   refine nA (xwT hx50) ?_
   refine nA (oea (he:=kK _ hx50)) ?_
   refine aa H λr51 q51 H=>sA (cw (o:=200) (KO.h q51)) ?_
   cases H
   refine aP (fZ 191) ?_
   exact wo
  cases H
  refine aP (eo (o:=213) (j:=19) 5 1 ζ) ?_
  refine aP (wB 214 (([]:List Int).length)) ?_
  refine aP (vl (nx':=216) rfl) ?_
  refine aP (wS 215 214) ?_
  exact wo
 refine aa H λr52 q52 H=>nA (ca (hF:=H2.h q52)) ?_
 refine aa H λv53 Hj H=>jA ⟨[(4,tP 211),(8,tP 216)],(oM [.t,.w 190,.n 191,.n 192,.n 193] 201 34 (bF a1)++(oM [.z,.n 215] 216 50 (g6 {ec with bu:=13,b7:={v29 with a8:={v29.a8 with bu:=v53}}})++[(200,.var 124 (kM [.f] (be v28))),(211,.var 50 (kM [.z,.z] (g6 ec)))])),217⟩ ?_ ?_
 .exact az Hj
 cases H
 refine bM (wS 215 210) ?_
 refine bM ((fZ 190)) ?_
 exact dy⟩
def CR(a0:av)(a1:ae):Option (dJ×av):=
 acE (GL 1 (a1.ax.length:Int)) λr1=>acE (bC a0 r1) λr2=>acE (bC r2.2 34) λr3=>cond (eqB r3.1 0) (ς ({ec with bu:=5,da:=r2.1},r3.2)) (acE (cond (eqB r3.1 1) (ς (eqB r3.1 1)) (ς (eqB r3.1 2))) λ(v4:Bool)=>cond v4 (acE (bC r3.2 (WR ((a1.d7.bp.length:Int)+1))) λr5=>ς ((⟨6,r2.1,r5.1,[],fE⟩:dJ),r5.2)) (cond (eqB r3.1 3) (ς ({ec with bu:=7,da:=r2.1},r3.2)) (acE (cond (eqB r3.1 4) (ς (eqB r3.1 4)) (ς (eqB r3.1 5))) λ(v6:Bool)=>cond v6 (acE (bC r3.2 4) λr7=>acE (tX r7.2 r7.1) λr8=>ς ((⟨8,r2.1,0,r8.1,fE⟩:dJ),r8.2)) (cond (eqB r3.1 6) (acE (bC r3.2 (WR ((a1.d7.bp.length:Int)+1))) λr9=>ς ({ec with bu:=9,da:=r9.1},r9.2)) (acE (cond (eqB r3.1 7) (ς (eqB r3.1 7)) (ς (eqB r3.1 8))) λ(v10:Bool)=>cond v10 (acE (bC r3.2 (WR ((a1.d7.bp.length:Int)+1))) λr11=>ς ({ec with bu:=10,da:=r11.1},r11.2)) (cond (eqB r3.1 9) (acE (bC r3.2 2) λr12=>ς ({ec with bu:=11,da:=r12.1},r12.2)) (cond (eqB r3.1 10) (acE (bC r3.2 2) λr13=>ς ({ec with bu:=12,da:=r13.1},r13.2)) (acE (cond (eqB r3.1 11) (ς (eqB r3.1 11)) (ς (eqB r3.1 12))) λ(v14:Bool)=>cond v14 (cond (ltB 0 (a1.ax.length:Int)) (acE (As r3.2 a1) λr15=>ς ({r15.1 with bk:=[]},r15.2)) (acE (cond (ltB 0 (a1.aT.length:Int)) (acE (gq r3.2 4) λr21=>ς (!r21.1,r21.2)) (ς (η,r3.2))) λ((v16,v20):Bool×av)=>cond v16 (acE (GM (a1.aT.length:Int) 3) λr22=>acE (bC v20 r22) λr23=>acE (bC r23.2 12) λr24=>cond (eqB r24.1 0) (ς ({ec with bu:=3,da:=r23.1},r24.2)) (cond (eqB r24.1 1) (ς ({ec with bu:=4,da:=r23.1},r24.2)) (ς ({ec with bu:=2,da:=r23.1},r24.2)))) (ς ({ec with bu:=1},v20)))) (acE (cond (ltB 0 (a1.aT.length:Int)) (acE (gq r3.2 4) λr30=>ς (!r30.1,r30.2)) (ς (η,r3.2))) λ((v25,v29):Bool×av)=>cond v25 (acE (GM (a1.aT.length:Int) 3) λr31=>acE (bC v29 r31) λr32=>acE (bC r32.2 12) λr33=>cond (eqB r33.1 0) (ς ({ec with bu:=3,da:=r32.1},r33.2)) (cond (eqB r33.1 1) (ς ({ec with bu:=4,da:=r32.1},r33.2)) (ς ({ec with bu:=2,da:=r32.1},r33.2)))) (ς ({ec with bu:=1},v29)))))))))))
instance OM{a0:av}{a1:ae}{r:dJ×av}:FCV prog (CR a0 a1=ς r) 75 (oM [.t,.n 190,.n 191,.n 192,.n 193] 201 34 (bF a1)++[(200,.var 124 (kM [.f] (be a0)))]) [tP 200,.v (.agg [.d η (.l (a1.d7.bp.map eL)),.wn 190 a1.ax.length,.wn 191 a1.aJ.length,.wn 192 a1.bD.length,.wn 193 a1.aT.length,.d η (.i .i64 a1.cF),.d η (.i .i64 a1.fP.fy),.d η (.i .i64 a1.fP.fj),.d η (.i .i64 a1.lV),.d η (.i .i64 a1.Lost)])] (oM [.t,.n 190,.n 191,.n 192,.n 193] 201 34 (bF a1)++[(200,.var 124 (kM [.f] (be r.2)))]) (.v (.agg (kM [.t,.n 210] (g6 r.1)))) [(210,n5 r.1.b7.ct.bL.bk)]:=⟨λH=>by
 refine fV func75 ntmps75 ?_
 refine aa H λr1 q1 H=>nA (ca (hF:=sMax_c.h q1)) ?_
 refine aa H λr2 q2 H=>sA (cw (o:=200) (cr.h q2)) ?_
 refine aa H λr3 q3 H=>sA (cw (o:=200) (cr.h q3)) ?_
 refine cC H ?_ ?_<;>intro H
 .cases H
  refine bM ((eS (o:=211) (j:=3))) ?_
  refine bM ((eo (o:=211) (j:=23) 5 1 ζ)) ?_
  refine bM (wS 212 210) ?_
  refine bM ((wB 210 (([]:List Int).length))) ?_
  exact dy
 refine aa H λv4 Hj H=>jA ⟨[(0,tP 200),(3,tP 210),(4,tP 211),(5,tI r2.1),(14,tI r3.1),(19,tB v4)],(oM [.t,.n 190,.n 191,.n 192,.n 193] 201 34 (bF a1)++[(200,.var 124 (kM [.f] (be r3.2))),(210,.var 34 (kM [.f,.n 190,.n 191,.n 192,.n 193] (bF a1))),(211,.var 50 (kM [.z,.z] (g6 ec)))]),212⟩ ?_ ?_
 .exact az Hj
 refine cC H ?_ ?_<;>intro H
 .refine aa H λr5 q5 H=>sA (cw (o:=200) (cr.h q5)) ?_
  cases H
  refine bM ((eS (o:=211) (j:=3))) ?_
  refine bM ((eo (o:=211) (j:=23) 5 1 ζ)) ?_
  refine bM (wS 212 210) ?_
  refine bM ((wB 210 (([]:List Int).length))) ?_
  exact dy
 refine cC H ?_ ?_<;>intro H
 .cases H
  refine bM ((eS (o:=211) (j:=3))) ?_
  refine bM ((eo (o:=211) (j:=23) 5 1 ζ)) ?_
  refine bM (wS 212 210) ?_
  refine bM ((wB 210 (([]:List Int).length))) ?_
  exact dy
 refine aa H λv6 Hj H=>jA ⟨[(0,tP 200),(3,tP 210),(4,tP 211),(5,tI r2.1),(14,tI r3.1),(35,tB v6)],(oM [.t,.n 190,.n 191,.n 192,.n 193] 201 34 (bF a1)++[(200,.var 124 (kM [.f] (be r3.2))),(210,.var 34 (kM [.f,.n 190,.n 191,.n 192,.n 193] (bF a1))),(211,.var 50 (kM [.z,.z] (g6 ec)))]),212⟩ ?_ ?_
 .exact az Hj
 refine cC H ?_ ?_<;>intro H
 .refine aa H λr7 q7 H=>sA (cw (o:=200) (cr.h q7)) ?_
  refine aa H λr8 q8 H=>sA (cw (o:=200) (BC.h q8)) ?_
  cases H
  refine bM ((dK (o:=212))) ?_
  refine bM ((di (k:=42))) ?_
  refine bM ((di (k:=43))) ?_
  refine bM ((dE (o:=211))) ?_
  refine bM ((eo (o:=211) (j:=23) 5 1 ζ)) ?_
  refine bM (wS 213 210) ?_
  refine bM ((wB 210 (([]:List Int).length))) ?_
  exact dy
 refine cC H ?_ ?_<;>intro H
 .refine aa H λr9 q9 H=>sA (cw (o:=200) (cr.h q9)) ?_
  cases H
  refine bM ((eS (o:=211) (j:=3))) ?_
  refine bM ((eo (o:=211) (j:=23) 5 1 ζ)) ?_
  refine bM (wS 212 210) ?_
  refine bM ((wB 210 (([]:List Int).length))) ?_
  exact dy
 refine aa H λv10 Hj H=>jA ⟨[(0,tP 200),(3,tP 210),(4,tP 211),(14,tI r3.1),(54,tB v10)],(oM [.t,.n 190,.n 191,.n 192,.n 193] 201 34 (bF a1)++[(200,.var 124 (kM [.f] (be r3.2))),(210,.var 34 (kM [.f,.n 190,.n 191,.n 192,.n 193] (bF a1))),(211,.var 50 (kM [.z,.z] (g6 ec)))]),212⟩ ?_ ?_
 .exact az Hj
 refine cC H ?_ ?_<;>intro H
 .refine aa H λr11 q11 H=>sA (cw (o:=200) (cr.h q11)) ?_
  cases H
  refine bM ((eS (o:=211) (j:=3))) ?_
  refine bM ((eo (o:=211) (j:=23) 5 1 ζ)) ?_
  refine bM (wS 212 210) ?_
  refine bM ((wB 210 (([]:List Int).length))) ?_
  exact dy
 refine cC H ?_ ?_<;>intro H
 .refine aa H λr12 q12 H=>sA (cw (o:=200) (cr.h q12)) ?_
  cases H
  refine bM ((eS (o:=211) (j:=3))) ?_
  refine bM ((eo (o:=211) (j:=23) 5 1 ζ)) ?_
  refine bM (wS 212 210) ?_
  refine bM ((wB 210 (([]:List Int).length))) ?_
  exact dy
 refine cC H ?_ ?_<;>intro H
 .refine aa H λr13 q13 H=>sA (cw (o:=200) (cr.h q13)) ?_
  cases H
  refine bM ((eS (o:=211) (j:=3))) ?_
  refine bM ((eo (o:=211) (j:=23) 5 1 ζ)) ?_
  refine bM (wS 212 210) ?_
  refine bM ((wB 210 (([]:List Int).length))) ?_
  exact dy
 refine aa H λv14 Hj H=>jA ⟨[(0,tP 200),(3,tP 210),(4,tP 211),(75,tB v14)],(oM [.t,.n 190,.n 191,.n 192,.n 193] 201 34 (bF a1)++[(200,.var 124 (kM [.f] (be r3.2))),(210,.var 34 (kM [.f,.n 190,.n 191,.n 192,.n 193] (bF a1))),(211,.var 50 (kM [.z,.z] (g6 ec)))]),212⟩ ?_ ?_
 .exact az Hj
 refine cC H ?_ ?_<;>intro H
 .refine cC H ?_ ?_<;>intro H
  .refine aa H λr15 q15 H=>sA (cwv [(190,190),(191,191),(192,192),(193,193),(201,201),(200,200)] [(210,212)] 213 (MT.h q15)) ?_
   cases H
   refine bM ((eS (o:=211) (j:=3))) ?_
   refine bM (wS 212 210) ?_
   exact dy
  obtain⟨⟨v16,v20⟩,Hj,H⟩:=ob H
  refine jR ⟨[(0,tP 200),(3,tP 210),(4,tP 211),(93,tB v16)],(oM [.t,.n 190,.n 191,.n 192,.n 193] 201 34 (bF a1)++[(200,.var 124 (kM [.f] (be v20))),(210,.var 34 (kM [.f,.n 190,.n 191,.n 192,.n 193] (bF a1))),(211,.var 50 (kM [.z,.z] (g6 ec)))]),212⟩ ?_ ?_
  .refine gC Hj ?_ ?_<;>intro H
   .refine aa H λr21 q21 H=>sG (cw (o:=200) (ko.h q21)) ?_
    exact ai H
   exact ai H
  refine cC H ?_ ?_<;>intro H
  .refine aa H λr22 q22 H=>nA (ca (hF:=KC.h q22)) ?_
   refine aa H λr23 q23 H=>sA (cw (o:=200) (cr.h q23)) ?_
   refine aa H λr24 q24 H=>sA (cw (o:=200) (cr.h q24)) ?_
   refine cC H ?_ ?_<;>intro H
   .cases H
    refine bM ((eS (o:=211) (j:=3))) ?_
    refine bM ((eo (o:=211) (j:=23) 5 1 ζ)) ?_
    refine bM (wS 212 210) ?_
    refine bM ((wB 210 (([]:List Int).length))) ?_
    exact dy
   refine cC H ?_ ?_<;>intro H
   .cases H
    refine bM ((eS (o:=211) (j:=3))) ?_
    refine bM ((eo (o:=211) (j:=23) 5 1 ζ)) ?_
    refine bM (wS 212 210) ?_
    refine bM ((wB 210 (([]:List Int).length))) ?_
    exact dy
   cases H
   refine bM ((eS (o:=211) (j:=3))) ?_
   refine bM ((eo (o:=211) (j:=23) 5 1 ζ)) ?_
   refine bM (wS 212 210) ?_
   refine bM ((wB 210 (([]:List Int).length))) ?_
   exact dy
  cases H
  refine bM ((eS (o:=211) (j:=3))) ?_
  refine bM ((eo (o:=211) (j:=23) 5 1 ζ)) ?_
  refine bM (wS 212 210) ?_
  refine bM ((wB 210 (([]:List Int).length))) ?_
  exact dy
 obtain⟨⟨v25,v29⟩,Hj,H⟩:=ob H
 refine jR ⟨[(0,tP 200),(3,tP 210),(4,tP 211),(93,tB v25)],(oM [.t,.n 190,.n 191,.n 192,.n 193] 201 34 (bF a1)++[(200,.var 124 (kM [.f] (be v29))),(210,.var 34 (kM [.f,.n 190,.n 191,.n 192,.n 193] (bF a1))),(211,.var 50 (kM [.z,.z] (g6 ec)))]),212⟩ ?_ ?_
 .refine gC Hj ?_ ?_<;>intro H
  .refine aa H λr30 q30 H=>sG (cw (o:=200) (ko.h q30)) ?_
   exact ai H
  exact ai H
 refine cC H ?_ ?_<;>intro H
 .refine aa H λr31 q31 H=>nA (ca (hF:=KC.h q31)) ?_
  refine aa H λr32 q32 H=>sA (cw (o:=200) (cr.h q32)) ?_
  refine aa H λr33 q33 H=>sA (cw (o:=200) (cr.h q33)) ?_
  refine cC H ?_ ?_<;>intro H
  .cases H
   refine bM ((eS (o:=211) (j:=3))) ?_
   refine bM ((eo (o:=211) (j:=23) 5 1 ζ)) ?_
   refine bM (wS 212 210) ?_
   refine bM ((wB 210 (([]:List Int).length))) ?_
   exact dy
  refine cC H ?_ ?_<;>intro H
  .cases H
   refine bM ((eS (o:=211) (j:=3))) ?_
   refine bM ((eo (o:=211) (j:=23) 5 1 ζ)) ?_
   refine bM (wS 212 210) ?_
   refine bM ((wB 210 (([]:List Int).length))) ?_
   exact dy
  cases H
  refine bM ((eS (o:=211) (j:=3))) ?_
  refine bM ((eo (o:=211) (j:=23) 5 1 ζ)) ?_
  refine bM (wS 212 210) ?_
  refine bM ((wB 210 (([]:List Int).length))) ?_
  exact dy
 cases H
 refine bM ((eS (o:=211) (j:=3))) ?_
 refine bM ((eo (o:=211) (j:=23) 5 1 ζ)) ?_
 refine bM (wS 212 210) ?_
 refine bM ((wB 210 (([]:List Int).length))) ?_
 exact dy⟩
end Go.AM
