/- A part. -/
import Derived.Test.YtigcecmbknoijaaGreatDoorS20
import Derived.Test.YtigcecmbknoijaaGreatDoorS21
import Derived.Test.YtigcecmbknoijaaGreatDoorS24
set_option linter.unusedVariables false
open Option renaming some->ς,none->ξ
open Bool renaming true->ζ,false->η
open True renaming intro->θ
open Option renaming bind->ZU
namespace Go.AM
open Go.Proofs
open Tryz
attribute [local irreducible] AWN NS AWO AWR AWC DR DZ cM eN iter
set_option maxRecDepth 100000
set_option maxHeartbeats 40000000
def zy47(a0:ae)(a1:dF):Option (Bool×ae):=
 cond (eqB a1.bp 1) (ZU (zi a0) λr1=>ς (r1.1,r1.2)) (ZU (cond (eqB a1.bp 2) (ς (eqB a1.bp 2)) (ZU (cond (eqB a1.bp 3) (ς (eqB a1.bp 3)) (ς (eqB a1.bp 4))) λ(v3:Bool)=>ς v3)) λ(v2:Bool)=>cond v2 (ZU (zy30 a0 a1) λr4=>ς (r4.1,r4.2)) (ZU (cond (eqB a1.bp 5) (ς (eqB a1.bp 5)) (ZU (cond (eqB a1.bp 6) (ς (eqB a1.bp 6)) (ZU (cond (eqB a1.bp 7) (ς (eqB a1.bp 7)) (ς (eqB a1.bp 8))) λ(v7:Bool)=>ς v7)) λ(v6:Bool)=>ς v6)) λ(v5:Bool)=>cond v5 (ZU (A0 a0 a1) λr8=>ς (r8.1,r8.2)) (ZU (cond (eqB a1.bp 9) (ς (eqB a1.bp 9)) (ς (eqB a1.bp 10))) λ(v9:Bool)=>cond v9 (ZU (y6 a0 a1.cZ (eqB a1.bp 10)) λr10=>ς (r10.1,r10.2)) (ZU (cond (eqB a1.bp 11) (ς (eqB a1.bp 11)) (ς (eqB a1.bp 12))) λ(v11:Bool)=>cond v11 (ZU (uc a0 a1.cZ (eqB a1.bp 12)) λr12=>ς (r12.1,r12.2)) (cond (eqB a1.bp 13) (ZU (jw a0 a1.bS) λr13=>cond (!r13) (ς (η,a0)) (ZU (g8 a0 a1.bS) λr14=>ς (ζ,r14))) (ς (η,a0)))))))
instance zy48{a0:ae}{a1:dF}{r:Bool×ae}:FCV prog (zy47 a0 a1=ς r) 103 (nS a0) [tP 200,.v (.agg (kM [.t,.t] (jp a1)))] (nS r.2) (.v (.c (.d η (.b r.1)))) []:=gV func103 ntmps103 (hc 11 11) (hc 11 11) (hc 18 18) (hc 18 18) (hc 18 18) (hc 26 26) (hc 36 36)
def zy49:(Int×List dF×aj×ae)->Option (cH (Int×List dF×aj×ae) (List dF×aj×ae))
 |(v4,v8,v19,v20)=>cond (ltB 0 v4) (ZU (zh v19 v20) λr41=>cond (cN 224 (v8++[r41.1]).length) (ZU (vQ v20) λr42=>ZU (zy47 r42 r41.1) λr43=>cond r43.1 (ς (.next (WR (v4-1),(v8++[r41.1]),r41.2,r43.2))) (ς (.next (WR (v4-1),(v8++[r41.1]),r41.2,v20)))) ξ) (ς (.done (v8,v19,v20)))
def A8(a0:aj)(a1:Int):Option (ae×List dF×ae×aj):=
 ZU (zy19 a0) λr1=>ZU (vQ r1.1) λr2=>ZU (a9 r1.2 a1) λr3=>ZU (iter (zy49) FU (WR (3+r3.1),([]:List dF),r3.2,r2)) λ((v28,v39,v40):List dF×aj×ae)=>ς (r1.1,v28,v40,v39)
instance sl33Run_c{a0:aj}{a1:Int}{r:ae×List dF×ae×aj}:FCV prog (A8 a0 a1=ς r) 59 [(200,.var 115 (kM [.f] (aO a0)))] [tP 200,tI a1] [(200,.var 115 (kM [.f] (aO r.2.2.2)))] (.tup [.agg (kM [.t,.n 210,.n 211,.n 212,.n 213] (bw r.1)),.c (.w 214 r.2.1.length),.agg (kM [.t,.n 215,.n 216,.n 217,.n 218] (bw r.2.2.1))]) [(210,n60 r.1.av),(211,n76 r.1.aD),(212,n26 r.1.bD),(213,n85 r.1.aV),(214,XU r.2.1),(215,n60 r.2.2.1.av),(216,n76 r.2.2.1.aD),(217,n26 r.2.2.1.bD),(218,n85 r.2.2.1.aV)]:=⟨λH=>by
 refine fV func59 ntmps59 ?_
 refine aa H λr1 q1 H=>sA (cwv [(200,200)] [(210,212),(211,213),(212,214),(213,215)] 216 (zy20.h q1)) ?_
 refine aa H λr2 q2 H=>sA (cwv [(190,212),(191,213),(192,214),(193,215),(201,216)] [(210,217),(211,218),(212,219),(213,220)] 221 (FnV.rd (CW.h q2) [(190,n60 r1.1.av),(191,n76 r1.1.aD),(192,n26 r1.1.bD),(193,n85 r1.1.aV),(201,.var 43 (kM [.t,.n 190,.n 191,.n 192,.n 193] (bw r1.1)))] [.v (.agg (kM [.f,.n 190,.n 191,.n 192,.n 193] (bw r1.1)))])) ?_
 refine aa H λr3 q3 H=>sA (cw (o:=200) (bW.h q3)) ?_
 obtain⟨⟨v28,v39,v40⟩,Hj,H⟩:=ob H
 refine jB ⟨[(4,tP 210),(6,tP 211),(7,tP 216),(8,tP 221),(9,.v (.c (.w 222 v28.length)))],(oM [.t,.n 212,.n 213,.n 214,.n 215] 216 43 (bw r1.1)++(oM [.t,.n 217,.n 218,.n 219,.n 220] 221 43 (bw v40)++[(200,.var 115 (kM [.f] (aO v39))),(210,.var 43 (kM [.z,.z,.z,.z,.z] (bw {ec with d5:=(⟨[]⟩:bi)}))),(211,.var 43 (kM [.z,.z,.z,.z,.z] (bw {ec with d5:=(⟨[]⟩:bi)}))),(222,XU v28)])),223⟩ ?_ ?_
 .refine iT Hj (λq=>⟨[(0,tP 200),(4,tP 210),(6,tP 211),(7,tP 216),(8,tP 221),(9,.v (.c (.w 222 q.2.1.length))),(10,tI q.1)],(oM [.t,.n 212,.n 213,.n 214,.n 215] 216 43 (bw r1.1)++(oM [.t,.n 217,.n 218,.n 219,.n 220] 221 43 (bw q.2.2.2)++[(200,.var 115 (kM [.f] (aO q.2.2.1))),(210,.var 43 (kM [.z,.z,.z,.z,.z] (bw {ec with d5:=(⟨[]⟩:bi)}))),(211,.var 43 (kM [.z,.z,.z,.z,.z] (bw {ec with d5:=(⟨[]⟩:bi)}))),(222,XU q.2.1)])),223⟩) ?_
  rintro⟨v4,v8,v19,v20⟩ o H
  refine ad ?_
  refine cC H ?_ ?_<;>intro H
  .refine aa H λr41 q41 H=>sA (cwv [(190,217),(191,218),(192,219),(193,220),(201,221),(200,200)] [(210,223)] 224 (KA.h q41)) ?_
   refine aW (gm 223) ?_
   obtain⟨h,H⟩:=rq H
   refine sA (apT (enc:=AF) (ys:=v8) (zs:=[r41.1]) h) ?_
   refine aa H λr42 q42 H=>sA (cwv [(190,217),(191,218),(192,219),(193,220),(201,221)] [(210,226),(211,227),(212,228),(213,229)] 230 (FnV.rd (CW.h q42) [(190,n60 v20.av),(191,n76 v20.aD),(192,n26 v20.bD),(193,n85 v20.aV),(201,.var 43 (kM [.t,.n 190,.n 191,.n 192,.n 193] (bw v20)))] [.v (.agg (kM [.f,.n 190,.n 191,.n 192,.n 193] (bw v20)))])) ?_
   refine aa H λr43 q43 H=>sA (cwu [(190,226),(191,227),(192,228),(193,229),(200,230)] [] 231 (zy48.h q43)) ?_
   refine cC H ?_ ?_<;>intro H
   .cases H
    refine qF ?_
    refine aJ (wS 217 226) ?_
    refine aJ (wS 218 227) ?_
    refine aJ (wS 219 228) ?_
    refine aJ (wS 220 229) ?_
    exact wo
   exact aN H
  exact aE H
 refine zI (List.range 6) ?_
 refine wA (spx 100860) ?_
 refine wA (spx 100859) ?_
 cases H
 refine cg (wS 212 210) ?_
 refine cg (wS 213 211) ?_
 refine cg (wS 214 212) ?_
 refine cg (wS 215 213) ?_
 refine cg (wS 222 214) ?_
 refine cg (wS 217 215) ?_
 refine cg (wS 218 216) ?_
 refine cg (wS 219 217) ?_
 refine cg (wS 220 218) ?_
 exact dv⟩
def zy50(a0:aj)(a1:Int):Option (ae×aj):=
 ZU (A8 a0 a1) λr1=>ς (r1.2.2.1,r1.2.2.2)
instance zy51{a0:aj}{a1:Int}{r:ae×aj}:FCV prog (zy50 a0 a1=ς r) 38 [(200,.var 115 (kM [.f] (aO a0)))] [tP 200,tI a1] [(200,.var 115 (kM [.f] (aO r.2)))] (.v (.agg (kM [.t,.n 210,.n 211,.n 212,.n 213] (bw r.1)))) [(210,n60 r.1.av),(211,n76 r.1.aD),(212,n26 r.1.bD),(213,n85 r.1.aV)]:=gV func38 ntmps38
def jZ(a0:List Int):Option bJ:=
 ZU (rV a0) λr1=>ZU (zy50 r1 20) λr2=>cond (ltB 0 (r2.1.aV.length:Int)) (ZU (a9 r2.2 (r2.1.aV.length:Int)) λr3=>ZU (ix r2.1.aV r3.1) λx4=>ς x4) (ZU (A4 r2.2) λr5=>ς {fN with cS:=ζ,cA:=r5.2.1})
instance zy52{a0:List Int}{r:bJ}:FC prog (jZ a0=ς r) 18 [aL (a0.map eU8)] [.agg (qM [.d] (pY r))]:=⟨λH=>by
 refine fI func18 ntmps18 ?_
 refine aa H λr1 q1 H=>nA (cn (sS q1) rfl rfl trivial rfl rfl rfl) ?_
 refine aa H λr2 q2 H=>sA (cwv [(200,1)] [(210,2),(211,3),(212,4),(213,5)] 6 (zy51.h q2)) ?_
 refine cC H ?_ ?_<;>intro H
 .refine zI (List.range 10) ?_
  refine aa H λr3 q3 H=>wA (cwx (o:=1) (bW.h q3)) ?_
  refine aa H λx4 hx4 H=>zA (mb hx4) ?_
  refine zA (WU (he:=js _ hx4)) ?_
  refine wA (spx 101634) ?_
  exact ao H
 refine aa H λr5 q5 H=>sA (cw (o:=1) (zy46.h q5)) ?_
 cases H
 refine Bv (eG (o:=7)) ?_
 refine Bv (fP (o:=0)) ?_
 exact dK⟩
end Go.AM
