/- A part. -/
import Derived.Test.YtfbpfflnhfcmaaaGreatS11
set_option linter.unusedVariables false
open Option renaming some->ς,none->ξ
open Bool renaming true->ζ,false->η
open True renaming intro->θ
open Option renaming bind->afW
namespace Go.AM
open Go.Proofs
open Tryz
attribute [local irreducible] AWN NS AWO AWR AWC DR DZ dm gK iter
set_option maxRecDepth 100000
set_option maxHeartbeats 40000000
def zh(a0:ab)(a1:cU):Option (Bool×ab):=
 afW (dt a1.cq 0 (WR ((a0.aH.length:Int)-1))) λr1=>cond (!r1) (ς (η,a0)) (cond (eqB a1.bb 2) (afW (wQ a0 a1.cq) λr2=>ς (ζ,r2)) (cond (eqB a1.bb 3) (afW (A1 a0 a1.cq) λr3=>ς (ζ,{r3.2 with Lost:=WR (r3.2.Lost+1)})) (cond (leB 200 (a0.aH.length:Int)) (ς (η,a0)) (afW (ix a0.aH a1.cq) λx4=>afW (jx a0 x4) λr5=>ς (ζ,r5)))))
instance adZ{a0:ab}{a1:cU}{r:Bool×ab}:FCV prog (zh a0 a1=ς r) 149 (nS a0) [tP 200,.v (.agg (kM [.t,.t] (nj a1)))] (nS r.2) (.v (.c (.d η (.b r.1)))) []:=gV func149 ntmps149 (hz 6)
def BC(a0:ab)(a1:cU):Option (Bool×ab):=
 cond (eqB a1.bb 1) (afW (D3 a0) λr1=>ς (r1.1,r1.2)) (afW (cond (eqB a1.bb 2) (ς (eqB a1.bb 2)) (afW (cond (eqB a1.bb 3) (ς (eqB a1.bb 3)) (ς (eqB a1.bb 4))) λ(v3:Bool)=>ς v3)) λ(v2:Bool)=>cond v2 (afW (zh a0 a1) λr4=>ς (r4.1,r4.2)) (afW (cond (eqB a1.bb 5) (ς (eqB a1.bb 5)) (afW (cond (eqB a1.bb 6) (ς (eqB a1.bb 6)) (afW (cond (eqB a1.bb 7) (ς (eqB a1.bb 7)) (ς (eqB a1.bb 8))) λ(v7:Bool)=>ς v7)) λ(v6:Bool)=>ς v6)) λ(v5:Bool)=>cond v5 (afW (Gf a0 a1) λr8=>ς (r8.1,r8.2)) (afW (cond (eqB a1.bb 9) (ς (eqB a1.bb 9)) (ς (eqB a1.bb 10))) λ(v9:Bool)=>cond v9 (afW (D1 a0 a1.cq (eqB a1.bb 10)) λr10=>ς (r10.1,r10.2)) (afW (cond (eqB a1.bb 11) (ς (eqB a1.bb 11)) (ς (eqB a1.bb 12))) λ(v11:Bool)=>cond v11 (afW (zi a0 a1.cq (eqB a1.bb 12)) λr12=>ς (r12.1,r12.2)) (cond (eqB a1.bb 13) (afW (lu a0 a1.b8) λr13=>cond (!r13) (ς (η,a0)) (afW (jx a0 a1.b8) λr14=>ς (ζ,r14))) (ς (η,a0)))))))
instance O4{a0:ab}{a1:cU}{r:Bool×ab}:FCV prog (BC a0 a1=ς r) 76 (nS a0) [tP 200,.v (.agg (kM [.t,.t] (nj a1)))] (nS r.2) (.v (.c (.d η (.b r.1)))) []:=gV func76 ntmps76 (hc 11 11) (hc 11 11) (hc 18 18) (hc 18 18) (hc 18 18) (hc 26 26) (hc 36 36)
def IG:(Int×List cU×bu×ab)->Option (cj (Int×List cU×bu×ab) (List cU×bu×ab))
 |(v4,v8,v19,v20)=>cond (ltB 0 v4) (afW (D2 v19 v20) λr51=>cond (da 224 (v8++[r51.1]).length) (afW (AZ v20) λr52=>afW (BC r52 r51.1) λr53=>afW (cond r53.1 (ς r53.2) (ς v20)) λ(v64:ab)=>ς (.next (WR (v4-1),(v8++[r51.1]),r51.2,v64))) ξ) (ς (.done (v8,v19,v20)))
def BE(a0:bu)(a1:Int):Option (ab×List cU×ab×bu):=
 afW (D0 a0) λr1=>afW (AZ r1.1) λr2=>afW (cS r1.2 a1) λr3=>afW (iter (IG) FU (WR (3+r3.1),([]:List cU),r3.2,r2)) λ((v38,v49,v50):List cU×bu×ab)=>ς (r1.1,v38,v50,v49)
instance Wl{a0:bu}{a1:Int}{r:ab×List cU×ab×bu}:FCW prog (BE a0 a1=ς r) 28 (.var 124 (kM [.f] (cB a0))) [tP 200,tI a1] (.var 124 (kM [.f] (cB r.2.2.2))) [.agg (qM [.d,.d,.d,.d,.d] (b9 r.1)),.c (.own 50 25 (r.2.1.map Bd) r.2.1.length),.agg (qM [.d,.d,.d,.d,.d] (b9 r.2.2.1))]:=⟨λH=>by
 refine fW func28 ntmps28 ?_
 refine aa H λr1 q1 H=>sA (cwv [(200,200)] [(210,212),(211,213),(212,214),(213,215)] 216 (Wi.h q1)) ?_
 refine aa H λr2 q2 H=>ed (fN 212) ?_
 refine ed (fN 213) ?_
 refine ed (fN 214) ?_
 refine ed (fN 215) ?_
 refine sA (cwv [] [(210,217),(211,218),(212,219),(213,220)] 221 (IC.h q2)) ?_
 refine aa H λr3 q3 H=>sA (cw (o:=200) (oZ.h q3)) ?_
 obtain⟨⟨v38,v49,v50⟩,Hj,H⟩:=ob H
 refine jB ⟨[(4,tP 210),(6,tP 211),(7,tP 216),(8,tP 221),(9,.v (.c (.w 222 v38.length)))],[(200,.var 124 (kM [.f] (cB v49))),(210,.var 34 (kM [.z,.z,.z,.z,.z] (b9 {gQ with cp:=(⟨[]⟩:be)}))),(211,.var 34 (kM [.z,.z,.z,.z,.z] (b9 {gQ with cp:=(⟨[]⟩:be)}))),(216,.var 34 (kM [.t,.t,.t,.t,.t] (b9 r1.1))),(221,.var 34 (kM [.t,.t,.t,.t,.t] (b9 v50))),(222,w50 v38)],223⟩ ?_ ?_
 .refine iT Hj (λq=>⟨[(0,tP 200),(4,tP 210),(6,tP 211),(7,tP 216),(8,tP 221),(9,.v (.c (.w 222 q.2.1.length))),(10,tI q.1)],[(200,.var 124 (kM [.f] (cB q.2.2.1))),(210,.var 34 (kM [.z,.z,.z,.z,.z] (b9 {gQ with cp:=(⟨[]⟩:be)}))),(211,.var 34 (kM [.z,.z,.z,.z,.z] (b9 {gQ with cp:=(⟨[]⟩:be)}))),(216,.var 34 (kM [.t,.t,.t,.t,.t] (b9 r1.1))),(221,.var 34 (kM [.t,.t,.t,.t,.t] (b9 q.2.2.2))),(222,w50 q.2.1)],223⟩) ?_ (by refine bz (fN 217) ?_;refine bz (fN 218) ?_;refine bz (fN 219) ?_;refine bz (fN 220) ?_;exact wo)
  rintro⟨v4,v8,v19,v20⟩ o H
  refine ad ?_
  refine cC H ?_ ?_<;>intro H
  .refine aa H λr51 q51 H=>sA (cwv [(200,200)] [(210,223)] 224 (Rw.h q51)) ?_
   refine aW (fN 223) ?_
   obtain⟨h,H⟩:=rq H
   refine sA (apT (enc:=Bd) (ys:=v8) (zs:=[r51.1]) h) ?_
   refine aa H λr52 q52 H=>sA (cwv [] [(210,226),(211,227),(212,228),(213,229)] 230 (IC.h q52)) ?_
   refine aa H λr53 q53 H=>sA (cwu [(190,226),(191,227),(192,228),(193,229),(200,230)] [] 231 (O4.h q53)) ?_
   refine aa H λv64 Hj H=>jA ⟨[(0,tP 200),(4,tP 210),(6,tP 211),(7,tP 216),(8,tP 221),(9,.v (.c (.w 222 ((v8++[r51.1]).length)))),(10,tI v4)],[(200,.var 124 (kM [.f] (cB r51.2))),(210,.var 34 (kM [.z,.z,.z,.z,.z] (b9 {gQ with cp:=(⟨[]⟩:be)}))),(211,.var 34 (kM [.z,.z,.z,.z,.z] (b9 {gQ with cp:=(⟨[]⟩:be)}))),(216,.var 34 (kM [.t,.t,.t,.t,.t] (b9 r1.1))),(221,.var 34 (kM [.t,.t,.t,.t,.t] (b9 v64))),(222,w50 (v8++[r51.1]))],231⟩ ?_ ?_
   .refine cC Hj ?_ ?_<;>intro H
    .cases H
     refine bz (fN 226) ?_
     refine bz (fN 227) ?_
     refine bz (fN 228) ?_
     refine bz (fN 229) ?_
     exact wo
    exact ai H
   exact aN H
  exact aE H
 refine zI (List.range 6) ?_
 refine wA (spx 100488) ?_
 refine wA (spx 100487) ?_
 cases H
 exact Nz⟩
def wm(a0:List Int):Option (ab×List cU):=
 afW (Iw a0) λr1=>afW (BA a0 45) λr2=>afW (BE r1 (WR (30+r2))) λr3=>ς (r3.1,r3.2.1)
instance abI{a0:List Int}{r:ab×List cU}:FC prog (wm a0=ς r) 7 [aL (a0.map eU8)] [.agg (qM [.d,.d,.d,.d,.d] (b9 r.1)),.c (.own 50 25 (r.2.map Bd) r.2.length)]:=⟨λH=>by
 refine fI func7 ntmps7 ?_
 refine aa H λr1 q1 H=>nA (cn (O3 q1) rfl rfl trivial rfl rfl rfl) ?_
 refine aa H λr2 q2 H=>nA (ca (hF:=KE.h q2)) ?_
 refine aa H λr3 q3 H=>sA (cw (o:=1) (Wl.h q3)) ?_
 cases H
 exact jL⟩
def A0(a0:bu)(a1:Int):Option (ab×bu):=
 afW (BE a0 a1) λr1=>ς (r1.2.2.1,r1.2.2.2)
instance Jw{a0:bu}{a1:Int}{r:ab×bu}:FCW prog (A0 a0 a1=ς r) 49 (.var 124 (kM [.f] (cB a0))) [tP 200,tI a1] (.var 124 (kM [.f] (cB r.2))) [.agg (qM [.d,.d,.d,.d,.d] (b9 r.1))]:=gW func49 ntmps49
def tZ(a0:List Int):Option ab:=
 afW (Iw a0) λr1=>afW (BA a0 50) λr2=>afW (A0 r1 (WR (40+r2))) λr3=>ς r3.1
instance aai{a0:List Int}{r:ab}:FC prog (tZ a0=ς r) 15 [aL (a0.map eU8)] [.agg (qM [.d,.d,.d,.d,.d] (b9 r))]:=⟨λH=>by
 refine fI func15 ntmps15 ?_
 refine aa H λr1 q1 H=>nA (cn (O3 q1) rfl rfl trivial rfl rfl rfl) ?_
 refine aa H λr2 q2 H=>nA (ca (hF:=KE.h q2)) ?_
 refine aa H λr3 q3 H=>sA (cw (o:=1) (Jw.h q3)) ?_
 cases H
 exact jL⟩
end Go.AM
