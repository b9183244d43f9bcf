/- A part. -/
import Derived.Test.YtcnfbcpgepbnkaaGreatI87
set_option linter.unusedVariables false
set_option linter.unusedSimpArgs false
open Option renaming some->ς,none->ξ
open Bool renaming true->ζ,false->η
open True renaming intro->θ
namespace Go.AM
open Go.Proofs
open Tryz
attribute [local irreducible] AWN NS AWO AWR AWC DR DZ cO eB iter
set_option maxRecDepth 100000
set_option maxHeartbeats 4000000
def pR(a:ag)(b:aj):Laa:=rT [.w 200,.w 201,.w 202] (dh a) (rT [.w 203] (cp b) [])
theorem JL{a0:ag}{a1:aj}{a2:aU}{r:bk}(H:uW a0 a1 a2=ς r):FnV prog 189 (pR a0 a1) [.v (.agg (kT [.w 200,.w 201,.w 202] (dh a0))),.v (.agg (kT [.w 203] (cp a1))),.v (.agg [.d η (.l (a2.bh.map de))])] (pR r.aX r.eu) (.v (.agg (kT [.w 200,.w 201,.w 202,.w 203,.y 210,.z] (bv {r with cF:=[]})))) [(210,n147 r.ou)]:=by
 refine fV func189 ntmps189 ?_
 refine aa H λr1 q1 H=>nA (ca (hF:=UL.h q1)) ?_
 refine aa H λv2 Hj H=>jA ⟨[(3,tP 210),(4,tP 211),(5,tP 212),(6,tP 213)],[(210,.var 140 (kT [.w 200,.w 201,.w 202] (dh {a0 with fJ:={a0.fJ with eO:=v2}}))),(211,.var 144 (kT [.w 203] (cp a1))),(212,.var 36 [.d η (.l (a2.bh.map de))]),(213,.var 185 (kM [.z,.z,.z,.z,.z,.z] (bv bU)))]++pR a0 a1,214⟩ ?_ ?_
 .refine cC Hj ?_ ?_<;>intro H
  .refine aa H λr3 q3 H=>nA (ca (hF:=UE.h q3)) ?_
   exact ai H
  exact ai H
 refine aa H λr4 q4 H=>nA (ca (hF:=JJ.h q4)) ?_
 refine aa H λv8 Hj H=>jB ⟨[(6,tP 213),(9,tP 216)],(oT [.w 200,.w 201,.w 202,.w 203,.y 217,.z] 216 185 (bv (⟨{a0 with fJ:=r4.1},a1,v8,[]⟩:bk))++[(213,.var 185 (kM [.z,.z,.z,.z,.z,.z] (bv bU)))]),218⟩ ?_ ?_
 .refine iT Hj (λq=>⟨[(6,tP 213),(9,tP 216),(36,.v (.c (.w 214 r4.2.length))),(37,tI (r4.2.length:Int)),(38,tI q.1)],(oT [.w 200,.w 201,.w 202,.w 203,.y 217,.z] 216 185 (bv (⟨{a0 with fJ:=r4.1},a1,q.2,[]⟩:bk))++[(213,.var 185 (kM [.z,.z,.z,.z,.z,.z] (bv bU))),(214,w3 r4.2)]),218⟩) ?_ (by refine aK (An (o:=216) (j:=34) 147 11 ζ) ?_;refine aK (wB 217 (([]:List aD).length)) ?_;exact wo)
  rintro⟨v5,v6⟩ o H
  refine ad ?_
  refine cC H ?_ ?_<;>intro H
  .refine aa H λx9 hx9 H=>nA (xwT hx9) ?_
   refine nA (oe (he:=fK _ hx9)) ?_
   obtain⟨h,H⟩:=rq H
   refine sA (Up (enc:=cP) (ys:=v6) (zs:=[{gq with eb:=7,bC:=x9}]) h (by first|exact List.cons_ne_nil _ _|simp) rfl (λ_=>rfl) (by first|rfl|simp) (.w rfl (by first|rfl|exact lm _|simp)) rfl rfl rfl rfl rfl rfl rfl rfl rfl rfl) ?_
   cases H
   refine yH ?_
   refine aK (ez 217) ?_
   exact wo
  exact aE H
 cases H
 refine Kh (wS 217 210) ?_
 exact eo
theorem y9{a0:ag}{a1:aj}{a2:aU}{r:bk}(H:sv a0 a1 a2=ς r):FnU prog 110 [.agg (aM a0),.agg (bj a1),.agg (eh a2)] [.agg (qM [.o,.o,.o,.o,.d,.d] (bv r))]:=by
 refine ee func110 (hN:=ntmps110) (h:=?_)
 refine wI ?_
 refine aa H λr1 q1 H=>nA (cu (hF:=lI q1)) ?_
 refine aa H λr2 q2 H=>nA (cu (hF:=gk q2)) ?_
 refine aa H λr3 q3 H=>nA (ca (hF:=uN.h q3)) ?_
 refine aa H λv4 Hj H=>jR ⟨[(3,tP 0),(4,tP 1),(5,tP 2),(6,tP 3),(21,tB v4)],(oT [.w 4,.w 5,.w 6] 0 140 (dh r1)++(oT [.w 7] 1 144 (cp r2)++[(2,.var 36 [.d η (.l (a2.bh.map de))]),(3,.var 185 (kM [.z,.z,.z,.z,.z,.z] (bv bU)))])),8⟩ ?_ ?_
 .exact az Hj
 refine cC H ?_ ?_<;>intro H
 .cases H
  refine jw (s7 (o:=3) (j:=34)) ?_
  refine jw (s7 (o:=3) (j:=35)) ?_
  exact bD
 obtain⟨⟨v12,v13⟩,Hj,H⟩:=ob H
 refine jA ⟨[(3,tP 0),(4,tP 1),(5,tP 2),(6,tP 3)],(oT [.w 4,.w 5,.w 6] 0 140 (dh v12)++(oT [.w 8] 1 144 (cp v13)++[(2,.var 36 [.d η (.l (a2.bh.map de))]),(3,.var 185 (kM [.z,.z,.z,.z,.z,.z] (bv bU)))])),9⟩ ?_ ?_
 .refine cC Hj ?_ ?_<;>intro H
  .refine aa H λr14 q14 H=>nA (cu (hF:=Hy q14)) ?_
   exact ai H
  cases H
  refine aK (A8 (nx':=9) rfl) ?_
  refine aK (wT 8 7) ?_
  exact wo
 refine aa H λv15 Hj H=>jA ⟨[(3,tP 0),(4,tP 1),(5,tP 2),(6,tP 3),(7,tB (ltB 0 (v12.aC.ar.length:Int)))],(oT [.w 4,.w 5,.w 6] 0 140 (dh {v12 with dy:=v15})++(oT [.w 8] 1 144 (cp v13)++[(2,.var 36 [.d η (.l (a2.bh.map de))]),(3,.var 185 (kM [.z,.z,.z,.z,.z,.z] (bv bU)))])),9⟩ ?_ ?_
 .refine cC Hj ?_ ?_<;>intro H
  .refine aa H λr16 q16 H=>nA (ca (hF:=XW.h q16)) ?_
   exact ai H
  exact ai H
 refine cC H ?_ ?_<;>intro H
 .refine aa H λr17 q17 H=>sA (cvt ζ [(200,4),(201,5),(202,6),(203,8)] [(210,9)] [(200,4),(201,5),(202,6),(203,8)] [] 10 10 (JL q17)) ?_
  cases H
  refine jw (s7 (o:=3) (j:=35)) ?_
  refine jw (eD 9) ?_
  exact bD
 refine aa H λv18 Hj H=>jR ⟨[(3,tP 0),(4,tP 1),(6,tP 3),(7,tB (ltB 0 (v12.aC.ar.length:Int))),(8,.v (.c (.w 9 (([]:List am).length)))),(65,tB v18)],(oT [.w 4,.w 5,.w 6] 0 140 (dh {v12 with dy:=v15})++(oT [.w 8] 1 144 (cp v13)++[(3,.var 185 (kM [.z,.z,.z,.z,.z,.z] (bv bU))),(9,Fa ([]:List am))])),10⟩ ?_ ?_
 .exact az Hj
 obtain⟨⟨v19,v20⟩,Hj,H⟩:=ob H
 refine jA ⟨[(3,tP 0),(4,tP 1),(6,tP 3),(8,.v (.c (.w 9 v19.length)))],(oT [.w 4,.w 5,.w 6] 0 140 (dh {v12 with dy:=v15,du:=v20})++(oT [.w 8] 1 144 (cp v13)++[(3,.var 185 (kM [.z,.z,.z,.z,.z,.z] (bv bU))),(9,Fa v19)])),10⟩ ?_ ?_
 .refine cC Hj ?_ ?_<;>intro H
  .exact ai H
  obtain⟨⟨v21,v22⟩,Hj,H⟩:=ob H
  refine jA ⟨[(3,tP 0),(4,tP 1),(6,tP 3),(8,.v (.c (.w 10 v21.length)))],(oT [.w 4,.w 5,.w 6] 0 140 (dh {v12 with dy:=v15,du:=v22})++(oT [.w 8] 1 144 (cp v13)++[(3,.var 185 (kM [.z,.z,.z,.z,.z,.z] (bv bU))),(10,Fa v21)])),11⟩ ?_ ?_
  .refine cC Hj ?_ ?_<;>intro H
   .refine aa H λr23 q23 H=>nA (ca (hF:=JG.h q23)) ?_
    exact ai H
   cases H
   refine aK (A8 (nx':=11) rfl) ?_
   refine aK (wT 10 9) ?_
   exact wo
  cases H
  refine aK (wT 9 10) ?_
  exact wo
 refine aa H λr24 q24 H=>nA (cu (hF:=Qs q24)) ?_
 obtain⟨h,H⟩:=rq H
 refine sA (apT (enc:=cQ) (ys:=v19) (zs:=r24.cF) h) ?_
 cases H
 refine jw (wN (o:=9)) ?_
 refine jw (oo (k:=80)) ?_
 refine jw (oo (k:=82)) ?_
 refine jw (nO (o:=3)) ?_
 refine jw (nO (o:=14)) ?_
 refine jw (s7 (o:=3) (j:=34)) ?_
 exact bD
end Go.AM
