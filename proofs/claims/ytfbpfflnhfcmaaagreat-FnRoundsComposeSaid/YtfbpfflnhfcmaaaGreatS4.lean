/- A part. -/
import Derived.Test.YtfbpfflnhfcmaaaGreatG
set_option linter.unusedVariables false
open Option renaming some->ς,none->ξ
open Bool renaming true->ζ,false->η
open True renaming intro->θ
open Option renaming bind->acE
namespace Go.AM
open Go.Proofs
open Tryz
attribute [local irreducible] AWN NS AWO AWR AWC DR DZ du gr iter
set_option maxRecDepth 100000
set_option maxHeartbeats 40000000
def wD(a0:List Int):(Int×Int)->Option (ci (Int×Int) (Int))
 |(v1,v2)=>acE (cond (ltB v2 (a0.length:Int)) (ς (ltB v2 4000)) (ς η)) λ(v6:Bool)=>cond v6 (acE (ix a0 v2) λx7=>ς (.next (AC .i64 (WR ((WR ((WR (v1*137))+(WR (x7))))+11)) 1073741823,WR (v2+1)))) (ς (.done v1))
def KN(a0:List Int):Option av:=
 acE (iter (wD a0) FU (WR (193017+(a0.length:Int)),0)) λ(v5:Int)=>ς (⟨a0,0,v5⟩:av)
theorem Xz{a0:List Int}{r:av}(H:KN a0=ς r):FnN prog 27 [aL (a0.map eU8)] 124 (Y9 r):=by
 refine fn_inN func27 (hN:=ntmps27) (h:=?_)
 refine wI ?_
 refine aa H λv5 Hj H=>jB ⟨[(0,.v (.c (.d η (.l (a0.map eU8))))),(3,tI v5)],[],0⟩ ?_ ?_
 .refine iT Hj (λq=>⟨[(0,.v (.c (.d η (.l (a0.map eU8))))),(3,tI q.1),(4,tI q.2)],[],0⟩) ?_
  rintro⟨v1,v2⟩ o H
  refine ad ?_
  refine aa H λv6 Hj H=>jR ⟨[(0,.v (.c (.d η (.l (a0.map eU8))))),(3,tI v1),(4,tI v2),(15,tB v6)],[],0⟩ ?_ ?_
  .exact az Hj
  refine cC H ?_ ?_<;>intro H
  .refine aa H λx7 hx7 H=>nA (xdT (enc:=eU8) hx7) ?_
   exact aN H
  exact aE H
 cases H
 exact Va
def BB(a0:List Int)(a1:Int):Int->Option (ci (Int) (Bool))
 |v1=>cond (ltB v1 (a0.length:Int)) (acE (ix a0 v1) λx2=>cond (eqB x2 a1) (dn (ς ζ)) (ς (.next (WR (v1+1))))) (dn (ς η))
def Ap(a0:List Int)(a1:Int):Option Bool:=
 iter (BB a0 a1) FU 0
instance IX{a0:List Int}{a1:Int}{r:Bool}:FC prog (Ap a0 a1=ς r) 108 [aL (a0.map eI),aI a1] [.c (.d (.b r))]:=gG func108 ntmps108 (hl 0 5)
def kv(a0:aZ):(Int×List dY)->Option (ci (Int×List dY) (List dY))
 |(v1,v2)=>cond (ltB v1 (a0.bp.length:Int)) (acE (ix a0.bp v1) λx6=>acE (ix a0.bp v1) λx7=>cond (cW 8 (([]:List Int)++x7.cM).length) (cond (cW 32 (v2++[(⟨x6.fF,(([]:List Int)++x7.cM)⟩:dY)]).length) (ς (.next (WR (v1+1),(v2++[(⟨x6.fF,(([]:List Int)++x7.cM)⟩:dY)])))) ξ) ξ) (ς (.done v2))
def ry(a0:aZ):Option aZ:=
 acE (iter (kv a0) FU (0,([]:List dY))) λ(v5:List dY)=>ς (⟨v5⟩:aZ)
instance sl10Copy_c{a0:aZ}{r:aZ}:FCV prog (ry a0=ς r) 140 [] [.v (.agg [.d η (.l (a0.bp.map eL))])] [] (.v (.agg [.wn 210 r.bp.length])) [(210,Sk r.bp)]:=⟨λH=>by
 refine fV func140 ntmps140 ?_
 refine aa H λv5 Hj H=>jB ⟨[(2,tP 211),(3,tP 212)],[(211,.var 26 [.nil]),(212,.var 26 [.wn 213 v5.length]),(213,Sk v5)],214⟩ ?_ ?_
 .refine iT Hj (λq=>⟨[(1,tP 210),(2,tP 211),(3,tP 212),(4,tI q.1)],[(210,.var 26 [.d η (.l (a0.bp.map eL))]),(211,.var 26 [.nil]),(212,.var 26 [.wn 213 q.2.length]),(213,Sk q.2)],214⟩) ?_ (by refine aP (eo (o:=212) (j:=0) 154 2 ζ) ?_;refine aP (wB 213 (([]:List dY).length)) ?_;exact wo)
  rintro⟨v1,v2⟩ o H
  refine ad ?_
  refine cC H ?_ ?_<;>intro H
  .refine zI (List.range 21) ?_
   refine aa H λx6 hx6 H=>zA (xdT (enc:=eL) hx6) ?_
   refine aa H λx7 hx7 H=>zA (xdT (enc:=eL) hx7) ?_
   obtain⟨h,H⟩:=rq H
   refine wA (Ic (enc:=eI) (ys:=([]:List Int)) (zs:=x7.cM) [214] h) ?_
   obtain⟨h,H⟩:=rq H
   refine qv (ds:=[214]) (by kernel_rfl) (by kernel_rfl) rfl (by kernel_rfl) cA (kz rfl (Jp (enc:=eL) (ys:=v2) (zs:=[(⟨x6.fF,(([]:List Int)++x7.cM)⟩:dY)]) h (by first|exact List.cons_ne_nil _ _|simp) rfl (λ_=>rfl) (by first|rfl|simp) (.w rfl (by first|rfl|exact lm _|simp)) rfl rfl rfl rfl rfl rfl rfl rfl rfl rfl)) cA rfl ?_
   refine wI ?_
   refine wA (spx 100015) ?_
   cases H
   refine uj ?_
   refine aP (fZ 213) ?_
   exact wo
  exact aE H
 cases H
 refine bM (wS 213 210) ?_
 exact dy⟩
instance sl10Copy_f{a0:aZ}{r:aZ}:FCF prog (ry a0=ς r) 140 [.agg (fT a0)] [.agg [.d (.l (r.bp.map eL))]]:=⟨λH=>by
 refine fI func140 ntmps140 ?_
 refine aa H λv5 Hj H=>jB ⟨[(2,tP 1),(3,tP 2)],[(1,.var 26 [.nil]),(2,.var 26 [.wn 3 v5.length]),(3,Sk v5)],4⟩ ?_ ?_
 .refine iT Hj (λq=>⟨[(1,tP 0),(2,tP 1),(3,tP 2),(4,tI q.1)],[(0,.var 26 [.d η (.l (a0.bp.map eL))]),(1,.var 26 [.nil]),(2,.var 26 [.wn 3 q.2.length]),(3,Sk q.2)],4⟩) ?_ (by refine aP (eo (o:=2) (j:=0) 154 2 ζ) ?_;refine aP (wB 3 (([]:List dY).length)) ?_;exact wo)
  rintro⟨v1,v2⟩ o H
  refine ad ?_
  refine cC H ?_ ?_<;>intro H
  .refine zI (List.range 21) ?_
   refine aa H λx6 hx6 H=>zA (xdT (enc:=eL) hx6) ?_
   refine aa H λx7 hx7 H=>zA (xdT (enc:=eL) hx7) ?_
   obtain⟨h,H⟩:=rq H
   refine wA (Ic (enc:=eI) (ys:=([]:List Int)) (zs:=x7.cM) [4] h) ?_
   obtain⟨h,H⟩:=rq H
   refine qv (ds:=[4]) (by kernel_rfl) (by kernel_rfl) rfl (by kernel_rfl) cA (kz rfl (Jp (enc:=eL) (ys:=v2) (zs:=[(⟨x6.fF,(([]:List Int)++x7.cM)⟩:dY)]) h (by first|exact List.cons_ne_nil _ _|simp) rfl (λ_=>rfl) (by first|rfl|simp) (.w rfl (by first|rfl|exact lm _|simp)) rfl rfl rfl rfl rfl rfl rfl rfl rfl rfl)) cA rfl ?_
   refine wI ?_
   refine wA (spx 100025) ?_
   cases H
   refine uj ?_
   refine aP (fZ 3) ?_
   exact wo
  exact aE H
 cases H
 refine Lj (ia 3) ?_
 exact jJ⟩
def tY(a0:aC):Option aG:=
 ς {fc with bu:=1,bh:=a0.bh}
instance aak{a0:aC}{r:aG}:FC prog (tY a0=ς r) 234 [.agg (dF a0)] [.agg (qM [] (gL r))]:=gG func234 ntmps234
def mw(a0:aj):Option aj:=
 cond (cW 16 (([]:List aH)++a0.an).length) (ς {a0 with an:=(([]:List aH)++a0.an)}) ξ
instance sl16Copy_c{a0:aj}{r:aj}:FC prog (mw a0=ς r) 143 [.agg (dh a0)] [.agg (qM [.o] (cO r))]:=gG func143 ntmps143
def xJ(a0:List aH)(a1:Int):Int->Option (ci (Int) (Int))
 |v1=>acE (cond (ltB v1 (a0.length:Int)) (acE (ix a0 v1) λx6=>ς (ltB x6.aO a1)) (ς η)) λ(v5:Bool)=>cond v5 (ς (.next (WR (v1+1)))) (ς (.done v1))
def EL(a0:List aH)(a1:Int)(a2:Int):Option (List aH):=
 acE (iter (xJ a0 a1) FU 0) λ(v4:Int)=>acE (cond (ltB v4 (a0.length:Int)) (acE (ix a0 v4) λx8=>ς (eqB x8.aO a1)) (ς η)) λ(v7:Bool)=>cond v7 (cond (cW 16 (([]:List aH)++a0).length) (acE (ix (([]:List aH)++a0) v4) λx9=>acE (ix (([]:List aH)++a0) v4) λx10=>ς ((([]:List aH)++a0).set (v4).toNat (⟨x10.aO,WR (x9.ea+a2)⟩:aH))) ξ) (cond (em a0 0 v4) (cond (em a0 v4 a0.length) (cond (cW 16 (([]:List aH)++(a0.take (v4).toNat)).length) (cond (cW 16 ((([]:List aH)++(a0.take (v4).toNat))++[(⟨a1,a2⟩:aH)]).length) (cond (cW 16 (((([]:List aH)++(a0.take (v4).toNat))++[(⟨a1,a2⟩:aH)])++(a0.drop (v4).toNat)).length) (ς (((([]:List aH)++(a0.take (v4).toNat))++[(⟨a1,a2⟩:aH)])++(a0.drop (v4).toNat))) ξ) ξ) ξ) ξ) ξ)
instance sl16Add_c{a0:List aH}{a1:Int}{a2:Int}{r:List aH}:FC prog (EL a0 a1 a2=ς r) 371 [aL (a0.map cf),aI a1,aI a2] [.c (.own 165 2 (r.map cf) r.length)]:=⟨λH=>by
 refine fI func371 ntmps371 ?_
 refine aa H λv4 Hj H=>jB ⟨[(0,.v (.c (.d η (.l (a0.map cf))))),(1,tI a1),(2,tI a2),(7,tI v4)],[],0⟩ ?_ ?_
 .refine iT Hj (λq=>⟨[(0,.v (.c (.d η (.l (a0.map cf))))),(1,tI a1),(2,tI a2),(7,tI q)],[],0⟩) ?_
  rintro v1 o H
  refine ad ?_
  refine aa H λv5 Hj H=>jR ⟨[(0,.v (.c (.d η (.l (a0.map cf))))),(1,tI a1),(2,tI a2),(7,tI v1),(21,tB v5)],[],0⟩ ?_ ?_
  .refine gC Hj ?_ ?_<;>intro H
   .refine aa H λx6 hx6 H=>nG (xdT (enc:=cf) hx6) ?_
    exact ai H
   exact ai H
  refine cC H ?_ ?_<;>intro H
  .exact aN H
  exact aE H
 refine aa H λv7 Hj H=>jR ⟨[(0,.v (.c (.d η (.l (a0.map cf))))),(1,tI a1),(2,tI a2),(7,tI v4),(36,tB v7)],[],0⟩ ?_ ?_
 .refine gC Hj ?_ ?_<;>intro H
  .refine aa H λx8 hx8 H=>nG (xdT (enc:=cf) hx8) ?_
   exact ai H
  exact ai H
 refine cC H ?_ ?_<;>intro H
 .obtain⟨h,H⟩:=rq H
  refine fR rfl (apT (enc:=cf) (ys:=([]:List aH)) (zs:=a0) h) ?_
  refine aW (Az (enc:=cf) (o:=0)) ?_
  refine aa H λx9 hx9 H=>nA (xwT hx9) ?_
  refine nA (oe (he:=kK _ hx9)) ?_
  refine aa H λx10 hx10 H=>nA (xwT hx10) ?_
  refine sA (soT (enc:=cf) (a':=(⟨x10.aO,WR (x9.ea+a2)⟩:aH)) hx10) ?_
  exact ao H
 refine zI [0,1,2,3,5,6,7,8,10,11,12,4,9,13,14] ?_
 obtain⟨h,H⟩:=rq H
 refine zA (cdhT (enc:=cf) h (λ_=>rfl) rfl rfl rfl) ?_
 obtain⟨h,H⟩:=rq H
 refine zA (UE (enc:=cf) h (λ_=>rfl) rfl rfl rfl) ?_
 obtain⟨h,H⟩:=rq H
 refine wA (Jq (enc:=cf) (ys:=([]:List aH)) (zs:=a0.take (v4).toNat) [0] h) ?_
 obtain⟨h,H⟩:=rq H
 refine wA (Jq (enc:=cf) (ys:=(([]:List aH)++(a0.take (v4).toNat))) (zs:=[(⟨a1,a2⟩:aH)]) [2,1] h) ?_
 obtain⟨h,H⟩:=rq H
 refine wA (Jq (enc:=cf) (ys:=((([]:List aH)++(a0.take (v4).toNat))++[(⟨a1,a2⟩:aH)])) (zs:=a0.drop (v4).toNat) [3] h) ?_
 refine oK (ds:=[0,2,3]) (by kernel_rfl) (by kernel_rfl) rfl ?_
 refine wI ?_
 cases H
 exact jJ⟩
def u7(a0:List ab)(a1:Int):Int->Option (ci (Int) (Int))
 |v1=>cond (ltB v1 (a0.length:Int)) (acE (ix a0 v1) λx2=>cond (eqB x2.cX a1) (dn (ς v1)) (ς (.next (WR (v1+1))))) (dn (ς (-1)))
def CM(a0:List ab)(a1:Int):Option Int:=
 iter (u7 a0 a1) FU 0
instance GZ{a0:List ab}{a1:Int}{r:Int}:FC prog (CM a0 a1=ς r) 386 [aL (a0.map aX),aI a1] [.c (.d (.i .i64 r))]:=gG func386 ntmps386 (hl 0 5)
end Go.AM
