/- A part. -/
import Derived.Test.YtfbpfflnhfcmaaaGreatS2
set_option linter.unusedVariables false
open Option renaming some->ς,none->ξ
open Bool renaming true->ζ,false->η
open True renaming intro->θ
open Option renaming bind->afW
namespace Go.AM
open Go.Proofs
open Tryz
attribute [local irreducible] AWN NS AWO AWR AWC DR DZ dm gK iter
set_option maxRecDepth 100000
set_option maxHeartbeats 40000000
variable{a1:Int}
def Fz:(Int×List Int×bu)->Option (cj (Int×List Int×bu) (List Int×bu))
 |(v4,v8,v9)=>cond (ltB v4 4) (afW (jY v9 3) λr17=>afW (cond r17.1 (cond (da 8 (v8++[v4]).length) (ς (v8++[v4])) ξ) (ς v8)) λ(v18:List Int)=>ς (.next (WR (v4+1),v18,r17.2))) (ς (.done (v8,v9)))
def DX(a0:bu):Option (bR×bu):=
 afW (cS a0 9) λr1=>afW (cS r1.2 4) λr2=>afW (cS r2.2 20) λr3=>afW (iter (Fz) FU (0,([]:List Int),r3.2)) λ((v15,v16):List Int×bu)=>ς ((⟨WR (1+r1.1),WR (1+r2.1),WR (1+r3.1),v15⟩:bR),v16)
instance Rp{a0:bu}{r:bR×bu}:FCV prog (DX a0=ς r) 131 [(200,.var 124 (kM [.f] (cB a0)))] [tP 200] [(200,.var 124 (kM [.f] (cB r.2)))] (.v (.agg (kM [.n 210] (pF r.1)))) [(210,n3 r.1.bU)]:=gV func131 ntmps131 (hL 0 (λ(v:Int×List Int×bu) sl ob nx=>⟨(4,tI v.1)::xS [212] sl,[(200,.var 124 (kM [.f] (cB v.2.2))),(212,n3 v.2.1)]++(uC 211 3 [.wn 212 v.2.1.length] ob),213⟩)) (hB 0 (λ(v:List Int×bu) sl ob nx=>⟨(4,.any)::xS [212] sl,[(200,.var 124 (kM [.f] (cB v.2))),(212,n3 v.1)]++(uC 211 3 [.wn 212 v.1.length] ob),213⟩)) (hC 20 (λ(v:List Int) sl ob nx=>⟨xS [212] sl,[(212,n3 v)]++(uC 211 3 [.wn 212 v.length] ob),nx⟩))
def qN(a0:List a8)(v1:Int):Int->Option (cj (Int) (cj (Int) (Bool)))
 |v4=>cond (ltB v4 v1) (afW (ix a0 v4) λx5=>afW (ix a0 v1) λx6=>bif(eqB x5.ID.eF x6.ID.eF&&(eqB x5.ID.bP x6.ID.bP&&ζ)) then(dn (dn (ς η))) else(ς (.next (WR (v4+1))))) (dn (ς (.next (WR (v1+1)))))
def qL(a0:List a8):Int->Option (cj (Int) (Bool))
 |v1=>cond (ltB v1 (a0.length:Int)) (afW (ix a0 v1) λx2=>afW (fc x2) λr3=>cond (!r3) (dn (ς η)) (iter (qN a0 v1) FU 0)) (dn (ς (leB (a0.length:Int) 4)))
def wO(a0:List a8):Option Bool:=
 iter (qL a0) FU 0
instance abW{a0:List a8}{r:Bool}:FC prog (wO a0=ς r) 225 [aL (a0.map eB)] [.c (.d (.b r))]:=gG func225 ntmps225 (hl 0 3) (hl 2 4)
def mq(a1:ah)(r1:a9):Int->Option (cj (Int) (Int))
 |v6=>afW (cond (ltB v6 (r1.aV.length:Int)) (afW (ix r1.aV v6) λx11=>ς (ltB x11.cH a1.cH)) (ς η)) λ(v10:Bool)=>cond v10 (ς (.next (WR (v6+1)))) (ς (.done v6))
def wy:a9->Option (cj (a9) (a9))
 |v15=>afW (cond (ltB 0 (v15.aV.length:Int)) (afW (ix v15.aV 0) λx24=>cond (eqB x24.cH v15.bw) (ς (ltB (v15.bv.length:Int) 24)) (ς η)) (ς η)) λ(v23:Bool)=>cond v23 (afW (ix v15.aV 0) λx25=>cond (da 24 (v15.bv++[(⟨x25.bh⟩:bI)]).length) (cond (eQ v15.aV 1 v15.aV.length) (ς (.next (⟨WR (v15.bw+1),v15.aV.drop ((1:Int)).toNat,(v15.bv++[(⟨x25.bh⟩:bI)])⟩:a9))) ξ) ξ) (ς (.done v15))
def qB(a0:a9)(a1:ah):Option a9:=
 afW (AT a0) λr1=>afW (kG a0) λr2=>afW (cond (!r2) (ς ζ) (cond (ltB 60 (a1.bh.length:Int)) (ς ζ) (afW (dt a1.cH a0.bw (WR ((WR (a0.bw+8))-1))) λr4=>cond (!r4) (ς ζ) (afW (Ix a0.aV a1.cH) λr5=>cond (leB 0 r5) (ς ζ) (ς (leB 24 (a0.bv.length:Int))))))) λ(v3:Bool)=>cond v3 (ς r1) (afW (iter (mq a1 r1) FU 0) λ(v9:Int)=>cond (da 1 (([]:List Int)++a1.bh).length) (cond (eQ r1.aV 0 v9) (cond (eQ r1.aV v9 r1.aV.length) (cond (da 32 (([]:List ah)++(r1.aV.take (v9).toNat)).length) (cond (da 32 ((([]:List ah)++(r1.aV.take (v9).toNat))++[(⟨a1.cH,(([]:List Int)++a1.bh)⟩:ah)]).length) (cond (da 32 (((([]:List ah)++(r1.aV.take (v9).toNat))++[(⟨a1.cH,(([]:List Int)++a1.bh)⟩:ah)])++(r1.aV.drop (v9).toNat)).length) (afW (iter (wy) FU {r1 with aV:=(((([]:List ah)++(r1.aV.take (v9).toNat))++[(⟨a1.cH,(([]:List Int)++a1.bh)⟩:ah)])++(r1.aV.drop (v9).toNat))}) λ(v22:a9)=>afW (cond (eqB (v22.bv.length:Int) 24) (ς ([]:List ah)) (ς v22.aV)) λ(v26:List ah)=>ς {v22 with aV:=v26}) ξ) ξ) ξ) ξ) ξ) ξ)
instance V2{a0:a9}{a1:ah}{r:a9}:FC prog (qB a0 a1=ς r) 361 [.agg (iJ a0),.agg (bC a1)] [.agg (qM [.d,.o] (c7 r))]:=⟨λH=>by
 refine fI func361 ntmps361 ?_
 refine aa H λr1 q1 H=>nA (ca (hF:=Rr.h q1)) ?_
 refine aa H λr2 q2 H=>nA (ca (hF:=CH.h q2)) ?_
 refine aa H λv3 Hj H=>jR ⟨[(3,tP 1),(4,tP 2),(5,tP 5),(44,tB v3)],(oM [.w 3,.w 4] 5 65 (c7 r1)++[(1,.var 100 (kM [.f] (ec a1))),(2,.var 65 (kM [.z,.z] (c7 ey)))]),6⟩ ?_ ?_
 .refine gC Hj ?_ ?_<;>intro H
  .exact ai H
  refine gC H ?_ ?_<;>intro H
  .exact ai H
  refine aa H λr4 q4 H=>nG (ca (hF:=adS.h q4)) ?_
  refine gC H ?_ ?_<;>intro H
  .exact ai H
  refine aa H λr5 q5 H=>nG (ca (hF:=Rq.h q5)) ?_
  exact az H
 refine cC H ?_ ?_<;>intro H
 .cases H
  refine Ng (eP (o:=3)) ?_
  refine Ng (eg (o:=2)) ?_
  exact jL
 refine aa H λv9 Hj H=>jB ⟨[(3,tP 1),(4,tP 2),(5,tP 5),(6,tI v9)],(oM [.w 3,.w 4] 5 65 (c7 r1)++[(1,.var 100 (kM [.f] (ec a1))),(2,.var 65 (kM [.z,.z] (c7 ey)))]),6⟩ ?_ ?_
 .refine iT Hj (λq=>⟨[(3,tP 1),(4,tP 2),(5,tP 5),(6,tI q)],(oM [.w 3,.w 4] 5 65 (c7 r1)++[(1,.var 100 (kM [.f] (ec a1))),(2,.var 65 (kM [.z,.z] (c7 ey)))]),6⟩) ?_
  rintro v6 o H
  refine ad ?_
  refine dI ?_
  refine aa H λv10 Hj H=>Lp ⟨[(3,tP 1),(4,tP 2),(5,tP 5),(6,tI v6),(61,tB v10)],(oM [.w 3,.w 4] 5 65 (c7 r1)++[(1,.var 100 (kM [.f] (ec a1))),(2,.var 65 (kM [.z,.z] (c7 ey)))]),6⟩ ?_ ?_
  .have H:=Hj
   refine wI ?_
   refine dC H ?_ ?_<;>intro H
   .refine aa H λx11 hx11 H=>dG (xwT hx11) ?_
    refine dG (oe (he:=qi _ hx11)) ?_
    refine wI ?_
    exact ai H
   refine wI ?_
   exact ai H
  refine wI ?_
  refine cC H ?_ ?_<;>intro H
  .refine wI ?_
   exact aN H
  exact aE H
 refine zI [0,1,2,3,4,7,5,6,8] ?_
 obtain⟨h,H⟩:=rq H
 refine wA (M8 (enc:=eU8) (ys:=([]:List Int)) (zs:=a1.bh) [6] h) ?_
 refine wA (spx 100452) ?_
 refine tD (ds:=[6]) (by kernel_rfl) (by kernel_rfl) rfl ?_
 refine wI ?_
 refine pB (eP (o:=8)) ?_
 refine pB (dP (k:=69)) ?_
 refine pB (dP (k:=70)) ?_
 refine pB (eg (o:=7)) ?_
 refine zI [0,1,2,3,4,6,7,9,10,11,12,5,8,13,14,15] ?_
 obtain⟨hs10,H⟩:=rq H
 refine zA (cwhT (enc:=bC) hs10 (by first|rfl|simp) rfl rfl rfl rfl) ?_
 obtain⟨hs11,H⟩:=rq H
 refine zA (cwlT (enc:=bC) hs11 (by first|rfl|simp) rfl rfl rfl rfl) ?_
 obtain⟨h,H⟩:=rq H
 refine wA (apx (enc:=bC) (ys:=([]:List ah)) (zs:=r1.aV.take (v9).toNat) [9,3] h (hs:=T6 (enc:=bC) hs10 rfl)) ?_
 obtain⟨h,H⟩:=rq H
 refine wA (apx (enc:=bC) (ys:=(([]:List ah)++(r1.aV.take (v9).toNat))) (zs:=[(⟨a1.cH,(([]:List Int)++a1.bh)⟩:ah)]) [11,10] h) ?_
 obtain⟨h,H⟩:=rq H
 refine wA (apx (enc:=bC) (ys:=((([]:List ah)++(r1.aV.take (v9).toNat))++[(⟨a1.cH,(([]:List Int)++a1.bh)⟩:ah)])) (zs:=r1.aV.drop (v9).toNat) [12,3] h (hs:=O6 (enc:=bC) hs11 (by first|rfl|simp) rfl)) ?_
 refine wA (spx 100451) ?_
 refine tD (ds:=[9,11,12]) (by kernel_rfl) (by kernel_rfl) rfl ?_
 refine wI ?_
 refine aa H λv22 Hj H=>jB ⟨[(4,tP 2),(5,tP 5)],(oM [.t,.w 4] 5 65 (c7 v22)++[(2,.var 65 (kM [.z,.z] (c7 ey)))]),14⟩ ?_ ?_
 .refine iT Hj (λq=>⟨[(4,tP 2),(5,tP 5)],(oM [.t,.w 4] 5 65 (c7 q)++[(2,.var 65 (kM [.z,.z] (c7 ey)))]),14⟩) ?_ (by refine bz (eP (o:=13)) ?_;refine bz (dP (k:=84)) ?_;refine bz (eg (o:=5)) ?_;exact wo)
  rintro v15 o H
  refine ad ?_
  refine dI ?_
  refine aa H λv23 Hj H=>Lp ⟨[(4,tP 2),(5,tP 5),(105,tB v23)],(oM [.t,.w 4] 5 65 (c7 v15)++[(2,.var 65 (kM [.z,.z] (c7 ey)))]),14⟩ ?_ ?_
  .have H:=Hj
   refine wI ?_
   refine dC H ?_ ?_<;>intro H
   .refine aa H λx24 hx24 H=>dG (xdT (enc:=bC) hx24) ?_
    refine dC H ?_ ?_<;>intro H
    .refine wI ?_
     exact ai H
    refine wI ?_
    exact ai H
   refine wI ?_
   exact ai H
  refine wI ?_
  refine cC H ?_ ?_<;>intro H
  .refine zI (List.range 12) ?_
   refine aa H λx25 hx25 H=>zA (xdT (enc:=bC) hx25) ?_
   obtain⟨h,H⟩:=rq H
   refine zB dV (vG rfl (apT (enc:=eT) (ys:=v15.bv) (zs:=[(⟨x25.bh⟩:bI)]) h)) dV ?_
   refine wA (spx 100450) ?_
   obtain⟨h,H⟩:=rq H
   refine nA (cdlT (enc:=bC) h (λ_=>rfl) rfl rfl rfl) ?_
   exact aN H
  exact aE H
 refine aa H λv26 Hj H=>jA ⟨[(4,tP 2),(5,tP 5)],(oM [.t,.w 4] 5 65 (c7 {v22 with aV:=v26})++[(2,.var 65 (kM [.z,.z] (c7 ey)))]),14⟩ ?_ ?_
 .refine cC Hj ?_ ?_<;>intro H
  .cases H
   refine bz (eP (o:=14)) ?_
   refine bz (dP (k:=129)) ?_
   refine bz (eg (o:=5)) ?_
   exact wo
  exact ai H
 cases H
 exact jL⟩
def D1(a0:ab)(a1:Int)(a2:Bool):Option (Bool×ab):=
 afW (dt a1 0 (WR ((a0.cp.bp.length:Int)-1))) λr1=>afW (cond (!r1) (ς ζ) (afW (uv a0 a1) λr3=>ς (booB r3 a2))) λ(v2:Bool)=>cond v2 (ς (η,a0)) (cond (leB 0 a1) (ς (ζ,{a0 with bH:=Jb .i64 a0.bH (nO .i64 1 a1)})) ξ)
instance sl33Cell_c{a0:ab}{a2:Bool}{r:Bool×ab}:FCV prog (D1 a0 a1 a2=ς r) 151 (nS a0) [tP 200,tI a1,tB a2] (nS r.2) (.v (.c (.d η (.b r.1)))) []:=gV func151 ntmps151 (hb 17 25) (hz 3)
def ud(a0:bQ)(a1:Int)(a2:Bool):Option bQ:=
 afW (nB a0) λr1=>afW (cond (!r1) (ς ζ) (afW (dt a1 0 (WR (a0.fU-1))) λr3=>ς (!r3))) λ(v2:Bool)=>cond v2 (ς a0) (afW (cond a2 (cond (leB 0 a1) (ς (bOr .i64 a0.fZ (nO .i64 1 a1))) ξ) (cond (leB 0 a1) (ς (yp .i64 a0.fZ (nO .i64 1 a1))) ξ)) λ(v4:Int)=>ς (⟨a0.fU,v4⟩:bQ))
instance aau{a0:bQ}{a2:Bool}{r:bQ}:FC prog (ud a0 a1 a2=ς r) 251 [.agg (jK a0),aI a1,aB a2] [.agg (qM [] (tE r))]:=gG func251 ntmps251 (hb 11 18) (hC 21 (λ(v:Int) sl ob nx=>⟨sl,[(2,.var 32 (kM [] (tE (⟨a0.fU,v⟩:bQ))))]++ob,nx⟩)) (hz 5) (hz 6)
def sY(a0:bQ)(a1:Int):Option Bool:=
 afW (nB a0) λr1=>afW (cond r1 (afW (dt a1 0 (WR (a0.fU-1))) λr3=>cond r3 (cond (leB 0 a1) (ς (eqB (yo .i64 (Cf .i64 a0.fZ a1) 1) 1)) ξ) (ς η)) (ς η)) λ(v2:Bool)=>ς v2
instance abM{a0:bQ}{r:Bool}:FC prog (sY a0 a1=ς r) 252 [.agg (jK a0),aI a1] [.c (.d (.b r))]:=gG func252 ntmps252 (hb 7 4)
def sv(a0:ab)(a1:Int):Option Int:=
 afW (ta a0 a1) λr1=>cond (!r1) (ς (-1)) (afW (ix a0.aT a1) λx2=>afW (ix a0.an a1) λx3=>ς (WR (x2.d9+x3.bG.d6)))
instance WW{a0:ab}{r:Int}:FC prog (sv a0 a1=ς r) 45 [.agg (eb a0),aI a1] [.c (.d (.i .i64 r))]:=gG func45 ntmps45
def qp(a0:ab)(a1:Int):Option Bool:=
 afW (dt a1 0 (WR ((a0.aj.length:Int)-1))) λr1=>afW (cond r1 (afW (ix a0.aj a1) λx3=>cond (!eqB x3.aX 0) (afW (ix a0.aj a1) λx4=>afW (uv a0 x4.aS) λr5=>ς r5) (ς η)) (ς η)) λ(v2:Bool)=>ς v2
instance aal{a0:ab}{r:Bool}:FC prog (qp a0 a1=ς r) 18 [.agg (eb a0),aI a1] [.c (.d (.b r))]:=gG func18 ntmps18 (hb 11 4)
end Go.AM
