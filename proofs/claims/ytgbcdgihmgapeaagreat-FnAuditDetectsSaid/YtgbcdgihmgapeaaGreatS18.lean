/- A part. -/
import Derived.Test.YtgbcdgihmgapeaaGreatS15
import Derived.Test.YtgbcdgihmgapeaaGreatS16
import Derived.Test.YtgbcdgihmgapeaaGreatS17
import Derived.Test.YtgbcdgihmgapeaaGreatE9
set_option linter.unusedVariables false
open Option renaming some->ς,none->ξ
open Bool renaming true->ζ,false->η
open True renaming intro->θ
open Option renaming bind->abG
namespace Go.AM
open Go.Proofs
open Tryz
attribute [local irreducible] AWN NS AWO AWR AWC DR DZ cB eZ iter
set_option maxRecDepth 100000
set_option maxHeartbeats 40000000
def zy28(a0:ab)(a1:cY):Option (Bool×ab):=
 cond (eqB a1.bk 1) (abG (y3 a0) λr1=>ς (r1.1,r1.2)) (abG (cond (eqB a1.bk 2) (ς (eqB a1.bk 2)) (abG (cond (eqB a1.bk 3) (ς (eqB a1.bk 3)) (ς (eqB a1.bk 4))) λ(v3:Bool)=>ς v3)) λ(v2:Bool)=>cond v2 (abG (ui a0 a1) λr4=>ς (r4.1,r4.2)) (abG (cond (eqB a1.bk 5) (ς (eqB a1.bk 5)) (abG (cond (eqB a1.bk 6) (ς (eqB a1.bk 6)) (abG (cond (eqB a1.bk 7) (ς (eqB a1.bk 7)) (ς (eqB a1.bk 8))) λ(v7:Bool)=>ς v7)) λ(v6:Bool)=>ς v6)) λ(v5:Bool)=>cond v5 (abG (A2 a0 a1) λr8=>ς (r8.1,r8.2)) (abG (cond (eqB a1.bk 9) (ς (eqB a1.bk 9)) (ς (eqB a1.bk 10))) λ(v9:Bool)=>cond v9 (abG (yX a0 a1.cV (eqB a1.bk 10)) λr10=>ς (r10.1,r10.2)) (abG (cond (eqB a1.bk 11) (ς (eqB a1.bk 11)) (ς (eqB a1.bk 12))) λ(v11:Bool)=>cond v11 (abG (uj a0 a1.cV (eqB a1.bk 12)) λr12=>ς (r12.1,r12.2)) (cond (eqB a1.bk 13) (abG (iY a0 a1.bN) λr13=>cond (!r13) (ς (η,a0)) (abG (gz a0 a1.bN) λr14=>ς (ζ,r14))) (ς (η,a0)))))))
instance zy29{a0:ab}{a1:cY}{r:Bool×ab}:FCV prog (zy28 a0 a1=ς r) 31 (nS a0) [tP 200,.v (.agg (kM [.t,.t] (lg a1)))] (nS r.2) (.v (.c (.d η (.b r.1)))) []:=gV func31 ntmps31 (hc 11 11) (hc 11 11) (hc 18 18) (hc 18 18) (hc 18 18) (hc 26 26) (hc 36 36)
def CZ:(Int×List cY×aT×ab)->Option (ct (Int×List cY×aT×ab) (List cY×aT×ab))
 |(v4,v8,v19,v20)=>cond (ltB 0 v4) (abG (zy26 v19 v20) λr41=>cond (cW 224 (v8++[r41.1]).length) (abG (mO v20) λr42=>abG (zy28 r42 r41.1) λr43=>cond r43.1 (ς (.next (WR (v4-1),(v8++[r41.1]),r41.2,r43.2))) (ς (.next (WR (v4-1),(v8++[r41.1]),r41.2,v20)))) ξ) (ς (.done (v8,v19,v20)))
def y4(a0:aT)(a1:Int):Option (ab×List cY×ab×aT):=
 abG (yW a0) λr1=>abG (mO r1.1) λr2=>abG (cj r1.2 a1) λr3=>abG (iter (CZ) FU (WR (3+r3.1),([]:List cY),r3.2,r2)) λ((v28,v39,v40):List cY×aT×ab)=>ς (r1.1,v28,v40,v39)
instance sl33Run_c{a0:aT}{a1:Int}{r:ab×List cY×ab×aT}:FCV prog (y4 a0 a1=ς r) 24 [(200,.var 92 (kM [.f] (bZ a0)))] [tP 200,tI a1] [(200,.var 92 (kM [.f] (bZ r.2.2.2)))] (.tup [.agg (kM [.t,.n 210,.n 211,.n 212,.n 213] (aS r.1)),.c (.w 214 r.2.1.length),.agg (kM [.t,.n 215,.n 216,.n 217,.n 218] (aS r.2.2.1))]) [(210,n45 r.1.aj),(211,n87 r.1.an),(212,n55 r.1.aU),(213,n71 r.1.aZ),(214,w73 r.2.1),(215,n45 r.2.2.1.aj),(216,n87 r.2.2.1.an),(217,n55 r.2.2.1.aU),(218,n71 r.2.2.1.aZ)]:=⟨λH=>by
 refine fV func24 ntmps24 ?_
 refine aa H λr1 q1 H=>sA (cwv [(200,200)] [(210,212),(211,213),(212,214),(213,215)] 216 (O6.h q1)) ?_
 refine aa H λr2 q2 H=>sA (cwv [(190,212),(191,213),(192,214),(193,215),(201,216)] [(210,217),(211,218),(212,219),(213,220)] 221 (FnV.rd (xC.h q2) [(190,n45 r1.1.aj),(191,n87 r1.1.an),(192,n55 r1.1.aU),(193,n71 r1.1.aZ),(201,.var 34 (kM [.t,.n 190,.n 191,.n 192,.n 193] (aS r1.1)))] [.v (.agg (kM [.f,.n 190,.n 191,.n 192,.n 193] (aS r1.1)))])) ?_
 refine aa H λr3 q3 H=>sA (cw (o:=200) (dT.h q3)) ?_
 obtain⟨⟨v28,v39,v40⟩,Hj,H⟩:=ob H
 refine jB ⟨[(4,tP 210),(6,tP 211),(7,tP 216),(8,tP 221),(9,.v (.c (.w 222 v28.length)))],(oM [.t,.n 212,.n 213,.n 214,.n 215] 216 34 (aS r1.1)++(oM [.t,.n 217,.n 218,.n 219,.n 220] 221 34 (aS v40)++[(200,.var 92 (kM [.f] (bZ v39))),(210,.var 34 (kM [.z,.z,.z,.z,.z] (aS {dh with dV:=(⟨[]⟩:aV)}))),(211,.var 34 (kM [.z,.z,.z,.z,.z] (aS {dh with dV:=(⟨[]⟩:aV)}))),(222,w73 v28)])),223⟩ ?_ ?_
 .refine iT Hj (λq=>⟨[(0,tP 200),(4,tP 210),(6,tP 211),(7,tP 216),(8,tP 221),(9,.v (.c (.w 222 q.2.1.length))),(10,tI q.1)],(oM [.t,.n 212,.n 213,.n 214,.n 215] 216 34 (aS r1.1)++(oM [.t,.n 217,.n 218,.n 219,.n 220] 221 34 (aS q.2.2.2)++[(200,.var 92 (kM [.f] (bZ q.2.2.1))),(210,.var 34 (kM [.z,.z,.z,.z,.z] (aS {dh with dV:=(⟨[]⟩:aV)}))),(211,.var 34 (kM [.z,.z,.z,.z,.z] (aS {dh with dV:=(⟨[]⟩:aV)}))),(222,w73 q.2.1)])),223⟩) ?_
  rintro⟨v4,v8,v19,v20⟩ o H
  refine ad ?_
  refine cC H ?_ ?_<;>intro H
  .refine aa H λr41 q41 H=>sA (cwv [(190,217),(191,218),(192,219),(193,220),(201,221),(200,200)] [(210,223)] 224 (zy27.h q41)) ?_
   refine aW (ev 223) ?_
   obtain⟨h,H⟩:=rq H
   refine sA (apT (enc:=nI) (ys:=v8) (zs:=[r41.1]) h) ?_
   refine aa H λr42 q42 H=>sA (cwv [(190,217),(191,218),(192,219),(193,220),(201,221)] [(210,226),(211,227),(212,228),(213,229)] 230 (FnV.rd (xC.h q42) [(190,n45 v20.aj),(191,n87 v20.an),(192,n55 v20.aU),(193,n71 v20.aZ),(201,.var 34 (kM [.t,.n 190,.n 191,.n 192,.n 193] (aS v20)))] [.v (.agg (kM [.f,.n 190,.n 191,.n 192,.n 193] (aS v20)))])) ?_
   refine aa H λr43 q43 H=>sA (cwu [(190,226),(191,227),(192,228),(193,229),(200,230)] [] 231 (zy29.h q43)) ?_
   refine cC H ?_ ?_<;>intro H
   .cases H
    refine uU ?_
    refine aK (wS 217 226) ?_
    refine aK (wS 218 227) ?_
    refine aK (wS 219 228) ?_
    refine aK (wS 220 229) ?_
    exact wo
   exact aN H
  exact aE H
 refine zI (List.range 6) ?_
 refine wA (spx 100488) ?_
 refine wA (spx 100487) ?_
 cases H
 refine ci (wS 212 210) ?_
 refine ci (wS 213 211) ?_
 refine ci (wS 214 212) ?_
 refine ci (wS 215 213) ?_
 refine ci (wS 222 214) ?_
 refine ci (wS 217 215) ?_
 refine ci (wS 218 216) ?_
 refine ci (wS 219 217) ?_
 refine ci (wS 220 218) ?_
 exact dK⟩
def vu(a0:aT)(a1:Int):Option (ab×aT):=
 abG (y4 a0 a1) λr1=>ς (r1.2.2.1,r1.2.2.2)
instance Dv{a0:aT}{a1:Int}{r:ab×aT}:FCV prog (vu a0 a1=ς r) 12 [(200,.var 92 (kM [.f] (bZ a0)))] [tP 200,tI a1] [(200,.var 92 (kM [.f] (bZ r.2)))] (.v (.agg (kM [.t,.n 210,.n 211,.n 212,.n 213] (aS r.1)))) [(210,n45 r.1.aj),(211,n87 r.1.an),(212,n55 r.1.aU),(213,n71 r.1.aZ)]:=gV func12 ntmps12
def zy30(a0:List Int):Option ab:=
 abG (Gs a0) λr1=>abG (yS a0 50) λr2=>abG (vu r1 (WR (40+r2))) λr3=>ς r3.1
instance zy31{a0:List Int}{r:ab}:FCV prog (zy30 a0=ς r) 5 [] [.v (.c (.d η (.l (a0.map eU8))))] [] (.v (.agg (kM [.t,.n 210,.n 211,.n 212,.n 213] (aS r)))) [(210,n45 r.aj),(211,n87 r.an),(212,n55 r.aU),(213,n71 r.aZ)]:=⟨λH=>by
 refine fV func5 ntmps5 ?_
 refine aa H λr1 q1 H=>nA (cn (Td q1) rfl rfl trivial rfl rfl rfl) ?_
 refine aa H λr2 q2 H=>nA (ca (hF:=O5.h q2)) ?_
 refine aa H λr3 q3 H=>sA (cwv [(200,211)] [(210,212),(211,213),(212,214),(213,215)] 216 (Dv.h q3)) ?_
 cases H
 refine ci (wS 212 210) ?_
 refine ci (wS 213 211) ?_
 refine ci (wS 214 212) ?_
 refine ci (wS 215 213) ?_
 exact dK⟩
def zy32(a0:ab)(a1:cY):Option (ab×Bool):=
 abG (mO a0) λr1=>abG (jk a0) λr2=>abG (cond (!r2) (ς (ζ,r1)) (abG (zy28 r1 a1) λr15=>ς (!r15.1,r15.2))) λ((v3,v14):Bool×ab)=>cond v3 (abG (mO a0) λr16=>ς (r16,η)) (ς (v14,ζ))
instance zy33{a0:ab}{a1:cY}{r:ab×Bool}:FCV prog (zy32 a0 a1=ς r) 15 [] [.v (.agg (kM [.t,.t,.t,.t,.t] (aS a0))),.v (.agg (kM [.t,.t] (lg a1)))] [] (.tup [.agg (kM [.t,.n 210,.n 211,.n 212,.n 213] (aS r.1)),.c (.d η (.b r.2))]) [(210,n45 r.1.aj),(211,n87 r.1.an),(212,n55 r.1.aU),(213,n71 r.1.aZ)]:=gV func15 ntmps15 (hJ 12 (λ(v:Bool×ab) sl ob nx=>⟨(12,.any)::(16,tB v.1)::xS [216,215,214,213] sl,oM [.t,.n 213,.n 214,.n 215,.n 216] 217 34 (aS v.2)++ob,nx⟩))
def zy34(a1:List cY):(Int×ab)->Option (ct (Int×ab) (ab))
 |(v2,v13)=>abG (cond (ltB v2 (a1.length:Int)) (ς (ltB v2 300)) (ς η)) λ(v39:Bool)=>cond v39 (abG (abG (ix a1 v2) λx51=>abG (zy32 v13 x51) λr52=>ς r52.1) λ(v50:ab)=>ς (.next (WR (v2+1),v50))) (ς (.done v13))
def zy35(a0:ab)(a1:List cY):Option ab:=
 abG (mO a0) λr1=>abG (iter (zy34 a1) FU (0,r1)) λ(v38:ab)=>ς v38
instance yO{a0:ab}{a1:List cY}{r:ab}:FCV prog (zy35 a0 a1=ς r) 6 [] [.v (.agg (kM [.t,.t,.t,.t,.t] (aS a0))),.v (.c (.d ζ (.l (a1.map nI))))] [] (.v (.agg (kM [.t,.n 210,.n 211,.n 212,.n 213] (aS r)))) [(210,n45 r.aj),(211,n87 r.an),(212,n55 r.aU),(213,n71 r.aZ)]:=⟨λH=>by
 refine fV func6 ntmps6 ?_
 refine aa H λr1 q1 H=>sA (cwv [] [(210,212),(211,213),(212,214),(213,215)] 216 (xC.h q1)) ?_
 refine aa H λv38 Hj H=>jB ⟨[(4,tP 211),(5,tP 216)],(oM [.t,.n 212,.n 213,.n 214,.n 215] 216 34 (aS v38)++[(211,.var 34 (kM [.z,.z,.z,.z,.z] (aS {dh with dV:=(⟨[]⟩:aV)})))]),217⟩ ?_ ?_
 .refine iT Hj (λq=>⟨[(1,.v (.c (.d ζ (.l (a1.map nI))))),(4,tP 211),(5,tP 216),(6,tI q.1)],(oM [.t,.n 212,.n 213,.n 214,.n 215] 216 34 (aS q.2)++[(211,.var 34 (kM [.z,.z,.z,.z,.z] (aS {dh with dV:=(⟨[]⟩:aV)})))]),217⟩) ?_
  rintro⟨v2,v13⟩ o H
  refine ad ?_
  refine aa H λv39 Hj H=>jR ⟨[(1,.v (.c (.d ζ (.l (a1.map nI))))),(4,tP 211),(5,tP 216),(6,tI v2),(18,tB v39)],(oM [.t,.n 212,.n 213,.n 214,.n 215] 216 34 (aS v13)++[(211,.var 34 (kM [.z,.z,.z,.z,.z] (aS {dh with dV:=(⟨[]⟩:aV)})))]),217⟩ ?_ ?_
  .exact az Hj
  refine cC H ?_ ?_<;>intro H
  .refine wI ?_
   refine aa H λv50 Hj H=>AH ⟨[(1,.v (.c (.d ζ (.l (a1.map nI))))),(4,tP 211),(5,tP 216),(6,tI v2),(7,tP 217)],(oM [.t,.n 218,.n 219,.n 220,.n 221] 217 34 (aS v50)++[(211,.var 34 (kM [.z,.z,.z,.z,.z] (aS {dh with dV:=(⟨[]⟩:aV)}))),(216,.var 34 (kM [.t,.t,.t,.t,.t] (aS v13)))]),222⟩ Try.follows ?_ ?_
   .have H:=Hj
    refine sW 5 9 rfl ?_ ?_
    .refine tH [0,1,2,3,4,9,5,6,7,8,10,11] (by kernel_rfl) (by kernel_rfl) rfl ?_
     refine wI ?_
     refine aa H λx51 hx51 H=>zA (xdT (enc:=nI) hx51) ?_
     refine aa H λr52 q52 H=>zB (aK (ev 212) (aK (ev 213) (aK (ev 214) (ev 215)))) (jP rfl (cwu [] [(210,218),(211,219),(212,220),(213,221)] 222 (zy33.h q52))) cr ?_
     refine wA (spx 100527) ?_
     exact ai H
    refine tH [0,1,2,3,4,5,6,7,8,9,10,11] (by kernel_rfl) (by kernel_rfl) rfl ?_
    refine wI ?_
    refine aa H λx51 hx51 H=>zA (xdT (enc:=nI) hx51) ?_
    refine aa H λr52 q52 H=>zB (aK (ev 212) (aK (ev 213) (aK (ev 214) (ev 215)))) (jP rfl (cwu [] [(210,217),(211,218),(212,219),(213,220)] 221 (zy33.h q52))) cr ?_
    refine wA (spx 100528) ?_
    cases H
    refine aK (wS 217 221) ?_
    refine aK (wS 218 221) ?_
    refine aK (wS 219 221) ?_
    refine aK (wS 220 221) ?_
    exact wo
   refine wI ?_
   cases H
   refine uU ?_
   refine aK (wS 212 218) ?_
   refine aK (wS 213 219) ?_
   refine aK (wS 214 220) ?_
   refine aK (wS 215 221) ?_
   exact wo
  exact aE H
 cases H
 refine ci (wS 212 210) ?_
 refine ci (wS 213 211) ?_
 refine ci (wS 214 212) ?_
 refine ci (wS 215 213) ?_
 exact dK⟩
end Go.AM
