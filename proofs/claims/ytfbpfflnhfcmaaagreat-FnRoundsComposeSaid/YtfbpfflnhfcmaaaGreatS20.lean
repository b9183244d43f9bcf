/- A part. -/
import Derived.Test.YtfbpfflnhfcmaaaGreatS15
import Derived.Test.YtfbpfflnhfcmaaaGreatS16
import Derived.Test.YtfbpfflnhfcmaaaGreatS17
import Derived.Test.YtfbpfflnhfcmaaaGreatS19
import Derived.Test.YtfbpfflnhfcmaaaGreatS18
set_option linter.unusedVariables false
open Option renaming some->ς,none->ξ
open Bool renaming true->ζ,false->η
open True renaming intro->θ
open Option renaming bind->acE
open List renaming range->v0
namespace Go.AM
open Go.Proofs
open Tryz
attribute [local irreducible] AWN NS AWO AWR AWC DR DZ du gr iter
set_option maxRecDepth 100000
set_option maxHeartbeats 40000000
def zz11(a0:ae)(a1:dJ):Option (Bool×ae):=
 cond (eqB a1.bu 1) (acE (CS a0) λr1=>ς (r1.1,r1.2)) (acE (cond (eqB a1.bu 2) (ς (eqB a1.bu 2)) (acE (cond (eqB a1.bu 3) (ς (eqB a1.bu 3)) (ς (eqB a1.bu 4))) λ(v3:Bool)=>ς v3)) λ(v2:Bool)=>cond v2 (acE (xP a0 a1) λr4=>ς (r4.1,r4.2)) (acE (cond (eqB a1.bu 5) (ς (eqB a1.bu 5)) (acE (cond (eqB a1.bu 6) (ς (eqB a1.bu 6)) (acE (cond (eqB a1.bu 7) (ς (eqB a1.bu 7)) (ς (eqB a1.bu 8))) λ(v7:Bool)=>ς v7)) λ(v6:Bool)=>ς v6)) λ(v5:Bool)=>cond v5 (acE (EU a0 a1) λr8=>ς (r8.1,r8.2)) (acE (cond (eqB a1.bu 9) (ς (eqB a1.bu 9)) (ς (eqB a1.bu 10))) λ(v9:Bool)=>cond v9 (acE (CQ a0 a1.da (eqB a1.bu 10)) λr10=>ς (r10.1,r10.2)) (acE (cond (eqB a1.bu 11) (ς (eqB a1.bu 11)) (ς (eqB a1.bu 12))) λ(v11:Bool)=>cond v11 (acE (xQ a0 a1.da (eqB a1.bu 12)) λr12=>ς (r12.1,r12.2)) (cond (eqB a1.bu 13) (acE (kR a0 a1.b7) λr13=>cond (!r13) (ς (η,a0)) (acE (iU a0 a1.b7) λr14=>ς (ζ,r14))) (ς (η,a0)))))))
instance MY{a0:ae}{a1:dJ}{r:Bool×ae}:FCV prog (zz11 a0 a1=ς r) 76 (nS a0) [tP 200,.v (.agg (kM [.t,.t] (g6 a1)))] (nS r.2) (.v (.c (.d η (.b r.1)))) []:=gV func76 ntmps76 (hc 11 11) (hc 11 11) (hc 18 18) (hc 18 18) (hc 18 18) (hc 26 26) (hc 36 36)
def Hh:(Int×List dJ×av×ae)->Option (ci (Int×List dJ×av×ae) (List dJ×av×ae))
 |(v4,v8,v19,v20)=>cond (ltB 0 v4) (acE (CR v19 v20) λr41=>cond (cW 224 (v8++[r41.1]).length) (acE (zH v20) λr42=>acE (zz11 r42 r41.1) λr43=>cond r43.1 (ς (.next (WR (v4-1),(v8++[r41.1]),r41.2,r43.2))) (ς (.next (WR (v4-1),(v8++[r41.1]),r41.2,v20)))) ξ) (ς (.done (v8,v19,v20)))
def EY(a0:av)(a1:Int):Option (ae×List dJ×ae×av):=
 acE (CP a0) λr1=>acE (zH r1.1) λr2=>acE (bC r1.2 a1) λr3=>acE (iter (Hh) FU (WR (3+r3.1),([]:List dJ),r3.2,r2)) λ((v28,v39,v40):List dJ×av×ae)=>ς (r1.1,v28,v40,v39)
instance sl33Run_c{a0:av}{a1:Int}{r:ae×List dJ×ae×av}:FCV prog (EY a0 a1=ς r) 28 [(200,.var 124 (kM [.f] (be a0)))] [tP 200,tI a1] [(200,.var 124 (kM [.f] (be r.2.2.2)))] (.tup [.agg (kM [.t,.n 210,.n 211,.n 212,.n 213] (bF r.1)),.c (.w 214 r.2.1.length),.agg (kM [.t,.n 215,.n 216,.n 217,.n 218] (bF r.2.2.1))]) [(210,n67 r.1.ax),(211,n93 r.1.aJ),(212,Bp r.1.bD),(213,n48 r.1.aT),(214,w50 r.2.1),(215,n67 r.2.2.1.ax),(216,n93 r.2.2.1.aJ),(217,Bp r.2.2.1.bD),(218,n48 r.2.2.1.aT)]:=⟨λH=>by
 refine fV func28 ntmps28 ?_
 refine aa H λr1 q1 H=>sA (cwv [(200,200)] [(210,212),(211,213),(212,214),(213,215)] 216 (Tp.h q1)) ?_
 refine aa H λr2 q2 H=>sA (cwv [(190,212),(191,213),(192,214),(193,215),(201,216)] [(210,217),(211,218),(212,219),(213,220)] 221 (FnV.rd (G8.h q2) [(190,n67 r1.1.ax),(191,n93 r1.1.aJ),(192,Bp r1.1.bD),(193,n48 r1.1.aT),(201,.var 34 (kM [.t,.n 190,.n 191,.n 192,.n 193] (bF r1.1)))] [.v (.agg (kM [.f,.n 190,.n 191,.n 192,.n 193] (bF r1.1)))])) ?_
 refine aa H λr3 q3 H=>sA (cw (o:=200) (cr.h q3)) ?_
 obtain⟨⟨v28,v39,v40⟩,Hj,H⟩:=ob H
 refine jB ⟨[(4,tP 210),(6,tP 211),(7,tP 216),(8,tP 221),(9,.v (.c (.w 222 v28.length)))],(oM [.t,.n 212,.n 213,.n 214,.n 215] 216 34 (bF r1.1)++(oM [.t,.n 217,.n 218,.n 219,.n 220] 221 34 (bF v40)++[(200,.var 124 (kM [.f] (be v39))),(210,.var 34 (kM [.z,.z,.z,.z,.z] (bF {eE with d7:=(⟨[]⟩:aZ)}))),(211,.var 34 (kM [.z,.z,.z,.z,.z] (bF {eE with d7:=(⟨[]⟩:aZ)}))),(222,w50 v28)])),223⟩ ?_ ?_
 .refine iT Hj (λq=>⟨[(0,tP 200),(4,tP 210),(6,tP 211),(7,tP 216),(8,tP 221),(9,.v (.c (.w 222 q.2.1.length))),(10,tI q.1)],(oM [.t,.n 212,.n 213,.n 214,.n 215] 216 34 (bF r1.1)++(oM [.t,.n 217,.n 218,.n 219,.n 220] 221 34 (bF q.2.2.2)++[(200,.var 124 (kM [.f] (be q.2.2.1))),(210,.var 34 (kM [.z,.z,.z,.z,.z] (bF {eE with d7:=(⟨[]⟩:aZ)}))),(211,.var 34 (kM [.z,.z,.z,.z,.z] (bF {eE with d7:=(⟨[]⟩:aZ)}))),(222,w50 q.2.1)])),223⟩) ?_
  rintro⟨v4,v8,v19,v20⟩ o H
  refine ad ?_
  refine cC H ?_ ?_<;>intro H
  .refine aa H λr41 q41 H=>sA (cwv [(190,217),(191,218),(192,219),(193,220),(201,221),(200,200)] [(210,223)] 224 (OM.h q41)) ?_
   refine aW (ia 223) ?_
   obtain⟨h,H⟩:=rq H
   refine sA (apT (enc:=Ex) (ys:=v8) (zs:=[r41.1]) h) ?_
   refine aa H λr42 q42 H=>sA (cwv [(190,217),(191,218),(192,219),(193,220),(201,221)] [(210,226),(211,227),(212,228),(213,229)] 230 (FnV.rd (G8.h q42) [(190,n67 v20.ax),(191,n93 v20.aJ),(192,Bp v20.bD),(193,n48 v20.aT),(201,.var 34 (kM [.t,.n 190,.n 191,.n 192,.n 193] (bF v20)))] [.v (.agg (kM [.f,.n 190,.n 191,.n 192,.n 193] (bF v20)))])) ?_
   refine aa H λr43 q43 H=>sA (cwu [(190,226),(191,227),(192,228),(193,229),(200,230)] [] 231 (MY.h q43)) ?_
   refine cC H ?_ ?_<;>intro H
   .cases H
    refine uj ?_
    refine aP (wS 217 226) ?_
    refine aP (wS 218 227) ?_
    refine aP (wS 219 228) ?_
    refine aP (wS 220 229) ?_
    exact wo
   exact aN H
  exact aE H
 refine zI (v0 6) ?_
 refine wA (spx 100488) ?_
 refine wA (spx 100487) ?_
 cases H
 refine bM (wS 212 210) ?_
 refine bM (wS 213 211) ?_
 refine bM (wS 214 212) ?_
 refine bM (wS 215 213) ?_
 refine bM (wS 222 214) ?_
 refine bM (wS 217 215) ?_
 refine bM (wS 218 216) ?_
 refine bM (wS 219 217) ?_
 refine bM (wS 220 218) ?_
 exact dy⟩
def zz475(a0:av)(a1:Int):Option (ae×av):=
 acE (EY a0 a1) λr1=>ς (r1.2.2.1,r1.2.2.2)
instance zz115{a0:av}{a1:Int}{r:ae×av}:FCV prog (zz475 a0 a1=ς r) 49 [(200,.var 124 (kM [.f] (be a0)))] [tP 200,tI a1] [(200,.var 124 (kM [.f] (be r.2)))] (.v (.agg (kM [.t,.n 210,.n 211,.n 212,.n 213] (bF r.1)))) [(210,n67 r.1.ax),(211,n93 r.1.aJ),(212,Bp r.1.bD),(213,n48 r.1.aT)]:=gV func49 ntmps49
def zz61(a0:av)(a1:Int):Option (ae×av):=
 acE (zz475 a0 a1) λr1=>acE (bC r1.2 40) λr2=>acE (cond (eqB r2.1 0) (acE (EK r2.2) λr18=>ς (r18.2,{r1.1 with d7:=r18.1})) (acE (cond (eqB r2.1 1) (acE (EN r2.2) λr34=>ς (r34.2,{r1.1 with fP:=r34.1})) (acE (cond (eqB r2.1 2) (acE (g4 r2.2 [-1,63,64]) λr50=>ς (r50.2,{r1.1 with cF:=r50.1})) (acE (cond (eqB r2.1 3) (acE (EO r2.2) λr66=>acE (ix r1.1.ax 0) λx67=>ς (r66.2,{r1.1 with ax:=(r1.1.ax.set ((0:Int)).toNat r66.1)})) (acE (cond (eqB r2.1 4) (acE (EV r2.2) λr83=>acE (ix r1.1.aJ 0) λx84=>ς (r83.2,{r1.1 with aJ:=(r1.1.aJ.set ((0:Int)).toNat r83.1)})) (acE (cond (eqB r2.1 5) (acE (EM r2.2) λr100=>acE (ix r1.1.bD 0) λx101=>ς (r100.2,{r1.1 with bD:=(r1.1.bD.set ((0:Int)).toNat r100.1)})) (acE (cond (eqB r2.1 6) (cond (em r1.1.aJ 1 r1.1.aJ.length) (ς (r2.2,{r1.1 with aJ:=r1.1.aJ.drop ((1:Int)).toNat})) ξ) (acE (cond (eqB r2.1 7) (acE (bC r2.2 5) λr124=>acE (bC r124.2 8) λr125=>cond (cW 176 (r1.1.aT++[{fE with bj:=WR (r124.1-1),bh:=WR (r125.1-1)}]).length) (ς (r125.2,{r1.1 with aT:=(r1.1.aT++[{fE with bj:=WR (r124.1-1),bh:=WR (r125.1-1)}])})) ξ) (acE (cond (eqB r2.1 8) (ς (-1)) (ς r1.1.Lost)) λ(v126:Int)=>ς (r2.2,{r1.1 with Lost:=v126}))) λ((v122,v123):av×ae)=>ς (v122,v123))) λ((v115,v116):av×ae)=>ς (v115,v116))) λ((v98,v99):av×ae)=>ς (v98,v99))) λ((v81,v82):av×ae)=>ς (v81,v82))) λ((v64,v65):av×ae)=>ς (v64,v65))) λ((v48,v49):av×ae)=>ς (v48,v49))) λ((v32,v33):av×ae)=>ς (v32,v33))) λ((v16,v17):av×ae)=>ς (v17,v16)
instance zz253{a0:av}{a1:Int}{r:ae×av}:FCV prog (zz61 a0 a1=ς r) 107 [(200,.var 124 (kM [.f] (be a0)))] [tP 200,tI a1] [(200,.var 124 (kM [.f] (be r.2)))] (.v (.agg (kM [.t,.n 210,.t,.n 211,.n 212] (bF r.1)))) [(210,n67 r.1.ax),(211,Bp r.1.bD),(212,n48 r.1.aT)]:=⟨λH=>by
 refine fV func107 ntmps107 ?_
 refine aa H λr1 q1 H=>sA (cwv [(200,200)] [(210,211),(211,212),(212,213),(213,214)] 215 (zz115.h q1)) ?_
 refine aa H λr2 q2 H=>sA (cw (o:=200) (cr.h q2)) ?_
 obtain⟨⟨v16,v17⟩,Hj,H⟩:=ob H
 refine jA ⟨[(4,tP 210),(5,tP 215)],(oM [.t,.n 211,.t,.n 213,.n 214] 215 34 (bF v17)++[(200,.var 124 (kM [.f] (be v16))),(210,.var 34 (kM [.z,.z,.z,.z,.z] (bF {eE with d7:=(⟨[]⟩:aZ)})))]),216⟩ ?_ ?_
 .refine cC Hj ?_ ?_<;>intro H
  .refine aa H λr18 q18 H=>sA (cwv [(200,200)] [(210,216)] 217 (Ti.h q18)) ?_
   cases H
   refine aP (ia 216) ?_
   refine aP (ia 212) ?_
   exact wo
  obtain⟨⟨v32,v33⟩,Hj,H⟩:=ob H
  refine jA ⟨[(4,tP 210),(5,tP 215)],(oM [.t,.n 211,.t,.n 213,.n 214] 215 34 (bF v33)++[(200,.var 124 (kM [.f] (be v32))),(210,.var 34 (kM [.z,.z,.z,.z,.z] (bF {eE with d7:=(⟨[]⟩:aZ)})))]),216⟩ ?_ ?_
  .refine cC Hj ?_ ?_<;>intro H
   .refine aa H λr34 q34 H=>sA (cw (o:=200) (Tk.h q34)) ?_
    cases H
    refine aP (ia 212) ?_
    exact wo
   obtain⟨⟨v48,v49⟩,Hj,H⟩:=ob H
   refine jA ⟨[(4,tP 210),(5,tP 215)],(oM [.t,.n 211,.t,.n 213,.n 214] 215 34 (bF v49)++[(200,.var 124 (kM [.f] (be v48))),(210,.var 34 (kM [.z,.z,.z,.z,.z] (bF {eE with d7:=(⟨[]⟩:aZ)})))]),216⟩ ?_ ?_
   .refine cC Hj ?_ ?_<;>intro H
    .refine aa H λr50 q50 H=>dW (dK (o:=216)) ?_
     refine dW (di (k:=24)) ?_
     refine sA (cw (o:=200) (wC.h q50)) ?_
     cases H
     refine aP (ia 212) ?_
     exact wo
    obtain⟨⟨v64,v65⟩,Hj,H⟩:=ob H
    refine jA ⟨[(4,tP 210),(5,tP 215)],(oM [.t,.n 211,.t,.n 213,.n 214] 215 34 (bF v65)++[(200,.var 124 (kM [.f] (be v64))),(210,.var 34 (kM [.z,.z,.z,.z,.z] (bF {eE with d7:=(⟨[]⟩:aZ)})))]),216⟩ ?_ ?_
    .refine cC Hj ?_ ?_<;>intro H
     .refine zI (v0 6) ?_
      refine aa H λr66 q66 H=>wA (cwx (o:=200) (Tm.h q66)) ?_
      refine aa H λx67 hx67 H=>zA (oG hx67) ?_
      refine zB (lv 211 (hne:=yd (enc:=dF) hx67)) (kz rfl (soT (enc:=dF) (a':=r66.1) hx67)) cA ?_
      cases H
      refine aP (fZ 211) ?_
      refine aP (ia 212) ?_
      refine aP (wB 211 ((r1.1.ax.set ((0:Int)).toNat r66.1).length)) ?_
      exact wo
     obtain⟨⟨v81,v82⟩,Hj,H⟩:=ob H
     refine jA ⟨[(4,tP 210),(5,tP 215)],(oM [.t,.n 211,.t,.n 213,.n 214] 215 34 (bF v82)++[(200,.var 124 (kM [.f] (be v81))),(210,.var 34 (kM [.z,.z,.z,.z,.z] (bF {eE with d7:=(⟨[]⟩:aZ)})))]),216⟩ ?_ ?_
     .refine cC Hj ?_ ?_<;>intro H
      .refine zI (v0 6) ?_
       refine aa H λr83 q83 H=>wA (cwx (o:=200) (zz252.h q83)) ?_
       refine aa H λx84 hx84 H=>zA (oG hx84) ?_
       refine zB (lv 212 (hne:=yd (enc:=cp) hx84)) (kz rfl (soT (enc:=cp) (a':=r83.1) hx84)) cA ?_
       cases H
       refine aP (dK (o:=212)) ?_
       refine aP (di (k:=8)) ?_
       refine aP (di (k:=37)) ?_
       refine aP (dE (o:=215)) ?_
       exact wo
      obtain⟨⟨v98,v99⟩,Hj,H⟩:=ob H
      refine jA ⟨[(4,tP 210),(5,tP 215)],(oM [.t,.n 211,.t,.n 213,.n 214] 215 34 (bF v99)++[(200,.var 124 (kM [.f] (be v98))),(210,.var 34 (kM [.z,.z,.z,.z,.z] (bF {eE with d7:=(⟨[]⟩:aZ)})))]),216⟩ ?_ ?_
      .refine cC Hj ?_ ?_<;>intro H
       .refine zI (v0 6) ?_
        refine aa H λr100 q100 H=>wA (cwx (o:=200) (FnV.frzW (Tj.h q100) rfl rfl ⟨by first|rfl|simp,θ⟩ rfl)) ?_
        refine aa H λx101 hx101 H=>zA (oG hx101) ?_
        refine zB (lv 213 (hne:=yd (enc:=dh) hx101)) (kz rfl (soT (enc:=dh) (a':=r100.1) hx101)) cA ?_
        cases H
        refine aP (ia 212) ?_
        refine aP (fZ 213) ?_
        refine aP (wB 213 ((r1.1.bD.set ((0:Int)).toNat r100.1).length)) ?_
        exact wo
       obtain⟨⟨v115,v116⟩,Hj,H⟩:=ob H
       refine jA ⟨[(4,tP 210),(5,tP 215)],(oM [.t,.n 211,.t,.n 213,.n 214] 215 34 (bF v116)++[(200,.var 124 (kM [.f] (be v115))),(210,.var 34 (kM [.z,.z,.z,.z,.z] (bF {eE with d7:=(⟨[]⟩:aZ)})))]),216⟩ ?_ ?_
       .refine cC Hj ?_ ?_<;>intro H
        .refine aW (ia 212) ?_
         obtain⟨h,H⟩:=rq H
         refine nA (UE (enc:=cp) h (λ_=>rfl) rfl rfl rfl) ?_
         exact ai H
        obtain⟨⟨v122,v123⟩,Hj,H⟩:=ob H
        refine jA ⟨[(4,tP 210),(5,tP 215)],(oM [.t,.n 211,.n 212,.n 213,.n 214] 215 34 (bF v123)++[(200,.var 124 (kM [.f] (be v122))),(210,.var 34 (kM [.z,.z,.z,.z,.z] (bF {eE with d7:=(⟨[]⟩:aZ)})))]),216⟩ ?_ ?_
        .refine cC Hj ?_ ?_<;>intro H
         .refine zI (v0 13) ?_
          refine aa H λr124 q124 H=>wA (cwx (o:=200) (cr.h q124)) ?_
          refine aa H λr125 q125 H=>wA (cwx (o:=200) (cr.h q125)) ?_
          obtain⟨h,H⟩:=rq H
          refine zB cA (kz rfl (Jp (enc:=eP) (ys:=r1.1.aT) (zs:=[{fE with bj:=WR (r124.1-1),bh:=WR (r125.1-1)}]) h (by first|exact List.cons_ne_nil _ _|simp) rfl (λ_=>rfl) (by first|rfl|simp) (.w rfl (by first|rfl|exact lm _|simp)) rfl rfl rfl rfl rfl rfl rfl rfl rfl rfl)) cA ?_
          refine wA (spx 101894) ?_
          cases H
          refine aP (fZ 214) ?_
          exact wo
         refine aa H λv126 Hj H=>jA ⟨[(4,tP 210),(5,tP 215)],(oM [.t,.n 211,.n 212,.n 213,.n 214] 215 34 (bF {r1.1 with Lost:=v126})++[(200,.var 124 (kM [.f] (be r2.2))),(210,.var 34 (kM [.z,.z,.z,.z,.z] (bF {eE with d7:=(⟨[]⟩:aZ)})))]),216⟩ ?_ ?_
         .exact az Hj
         exact ai H
        cases H
        refine aP (ia 212) ?_
        exact wo
       exact ai H
      exact ai H
     exact ai H
    exact ai H
   exact ai H
  exact ai H
 cases H
 refine bM (wS 211 210) ?_
 refine bM (wS 213 211) ?_
 refine bM (wS 214 212) ?_
 exact dy⟩
def Hg(a0:List Int)(a1:Int):Option (av×ae):=
 acE (KN a0) λr1=>acE (zz61 r1 a1) λr2=>ς (r2.2,r2.1)
instance sl33Pair_c{a0:List Int}{a1:Int}{r:av×ae}:FCV prog (Hg a0 a1=ς r) 57 [] [.v (.c (.d η (.l (a0.map eU8)))),tI a1] [] (.tup [.c (.p 210 0),.agg (kM [.t,.n 211,.t,.n 212,.n 213] (bF r.2))]) [(210,.var 124 (kM [.f] (be r.1))),(211,n67 r.2.ax),(212,Bp r.2.bD),(213,n48 r.2.aT)]:=⟨λH=>by
 refine fV func57 ntmps57 ?_
 refine aa H λr1 q1 H=>nA (cn (Xz q1) rfl rfl trivial rfl rfl rfl) ?_
 refine aa H λr2 q2 H=>sA (cwv [(200,211)] [(210,212),(211,213),(212,214)] 215 (zz253.h q2)) ?_
 cases H
 refine bM (wS 211 210) ?_
 refine bM (wS 212 211) ?_
 refine bM (wS 213 212) ?_
 refine bM (wS 214 213) ?_
 exact dy⟩
def zz452(a0:List Int):Option ae:=
 acE (Hg a0 25) λr1=>ς r1.2
instance zz329{a0:List Int}{r:ae}:FCV prog (zz452 a0=ς r) 20 [] [.v (.c (.d η (.l (a0.map eU8))))] [] (.v (.agg (kM [.t,.n 210,.t,.n 211,.n 212] (bF r)))) [(210,n67 r.ax),(211,Bp r.bD),(212,n48 r.aT)]:=gV func20 ntmps20
end Go.AM
