/- A part. -/
import Derived.Test.YtigcecmbknoijaaGreatDoorG
set_option linter.unusedVariables false
open Option renaming some->ς,none->ξ
open Bool renaming true->ζ,false->η
open True renaming intro->θ
open Option renaming bind->ZS
namespace Go.AM
open Go.Proofs
open Tryz
attribute [local irreducible] AWN NS AWO AWR AWC DR DZ cM eN iter
set_option maxRecDepth 100000
set_option maxHeartbeats 40000000
def sR(a0:List Int):(Int×Int)->Option (cH (Int×Int) (Int))
 |(v1,v2)=>ZS (cond (ltB v2 (a0.length:Int)) (ς (ltB v2 4000)) (ς η)) λ(v6:Bool)=>cond v6 (ZS (ix a0 v2) λx7=>ς (.next (uL .i64 (WR ((WR ((WR (v1*137))+(WR (x7))))+11)) 1073741823,WR (v2+1)))) (ς (.done v1))
def rV(a0:List Int):Option aj:=
 ZS (iter (sR a0) FU (WR (193017+(a0.length:Int)),0)) λ(v5:Int)=>ς (⟨a0,0,v5⟩:aj)
theorem sS{a0:List Int}{r:aj}(H:rV a0=ς r):FnN prog 26 [aL (a0.map eU8)] 115 (T4 r):=by
 refine Ws func26 (hN:=ntmps26) (h:=?_)
 refine wI ?_
 refine aa H λv5 Hj H=>jB ⟨[(0,.v (.c (.d η (.l (a0.map eU8))))),(3,tI v5)],[],0⟩ ?_ ?_
 .refine iT Hj (λq=>⟨[(0,.v (.c (.d η (.l (a0.map eU8))))),(3,tI q.1),(4,tI q.2)],[],0⟩) ?_
  rintro⟨v1,v2⟩ o H
  refine ad ?_
  refine aa H λv6 Hj H=>jR ⟨[(0,.v (.c (.d η (.l (a0.map eU8))))),(3,tI v1),(4,tI v2),(15,tB v6)],[],0⟩ ?_ ?_
  .exact az Hj
  refine cC H ?_ ?_<;>intro H
  .refine aa H λx7 hx7 H=>nA (xdT (enc:=eU8) hx7) ?_
   exact aN H
  exact aE H
 cases H
 exact PZ
def tX(a0:List aG)(a1:Int):Int->Option (cH (Int) (Int))
 |v1=>ZS (cond (ltB v1 (a0.length:Int)) (ZS (ix a0 v1) λx6=>ς (ltB x6.aH a1)) (ς η)) λ(v5:Bool)=>cond v5 (ς (.next (WR (v1+1)))) (ς (.done v1))
def AU(a0:List aG)(a1:Int)(a2:Int):Option (List aG):=
 ZS (iter (tX a0 a1) FU 0) λ(v4:Int)=>ZS (cond (ltB v4 (a0.length:Int)) (ZS (ix a0 v4) λx8=>ς (eqB x8.aH a1)) (ς η)) λ(v7:Bool)=>cond v7 (cond (cN 16 (([]:List aG)++a0).length) (ZS (ix (([]:List aG)++a0) v4) λx9=>ZS (ix (([]:List aG)++a0) v4) λx10=>ς ((([]:List aG)++a0).set (v4).toNat (⟨x10.aH,WR (x9.dV+a2)⟩:aG))) ξ) (cond (fa a0 0 v4) (cond (fa a0 v4 a0.length) (cond (cN 16 (([]:List aG)++(a0.take (v4).toNat)).length) (cond (cN 16 ((([]:List aG)++(a0.take (v4).toNat))++[(⟨a1,a2⟩:aG)]).length) (cond (cN 16 (((([]:List aG)++(a0.take (v4).toNat))++[(⟨a1,a2⟩:aG)])++(a0.drop (v4).toNat)).length) (ς (((([]:List aG)++(a0.take (v4).toNat))++[(⟨a1,a2⟩:aG)])++(a0.drop (v4).toNat))) ξ) ξ) ξ) ξ) ξ)
instance sl16Add_c{a0:List aG}{a1:Int}{a2:Int}{r:List aG}:FC prog (AU a0 a1 a2=ς r) 113 [aL (a0.map bT),aI a1,aI a2] [.c (.own 99 2 (r.map bT) r.length)]:=⟨λH=>by
 refine fI func113 ntmps113 ?_
 refine aa H λv4 Hj H=>jB ⟨[(0,.v (.c (.d η (.l (a0.map bT))))),(1,tI a1),(2,tI a2),(7,tI v4)],[],0⟩ ?_ ?_
 .refine iT Hj (λq=>⟨[(0,.v (.c (.d η (.l (a0.map bT))))),(1,tI a1),(2,tI a2),(7,tI q)],[],0⟩) ?_
  rintro v1 o H
  refine ad ?_
  refine aa H λv5 Hj H=>jR ⟨[(0,.v (.c (.d η (.l (a0.map bT))))),(1,tI a1),(2,tI a2),(7,tI v1),(21,tB v5)],[],0⟩ ?_ ?_
  .refine gC Hj ?_ ?_<;>intro H
   .refine aa H λx6 hx6 H=>nG (xdT (enc:=bT) hx6) ?_
    exact ai H
   exact ai H
  refine cC H ?_ ?_<;>intro H
  .exact aN H
  exact aE H
 refine aa H λv7 Hj H=>jR ⟨[(0,.v (.c (.d η (.l (a0.map bT))))),(1,tI a1),(2,tI a2),(7,tI v4),(36,tB v7)],[],0⟩ ?_ ?_
 .refine gC Hj ?_ ?_<;>intro H
  .refine aa H λx8 hx8 H=>nG (xdT (enc:=bT) hx8) ?_
   exact ai H
  exact ai H
 refine cC H ?_ ?_<;>intro H
 .obtain⟨h,H⟩:=rq H
  refine eV rfl (apT (enc:=bT) (ys:=([]:List aG)) (zs:=a0) h) ?_
  refine aW (wL (enc:=bT) (o:=0)) ?_
  refine aa H λx9 hx9 H=>nA (xwT hx9) ?_
  refine nA (oe (he:=js _ hx9)) ?_
  refine aa H λx10 hx10 H=>nA (xwT hx10) ?_
  refine sA (soT (enc:=bT) (a':=(⟨x10.aH,WR (x9.dV+a2)⟩:aG)) hx10) ?_
  exact ao H
 refine zI [0,1,2,3,5,6,7,8,10,11,12,4,9,13,14] ?_
 obtain⟨h,H⟩:=rq H
 refine zA (cdhT (enc:=bT) h (λ_=>rfl) rfl rfl rfl) ?_
 obtain⟨h,H⟩:=rq H
 refine zA (Pn (enc:=bT) h (λ_=>rfl) rfl rfl rfl) ?_
 obtain⟨h,H⟩:=rq H
 refine wA (Db (enc:=bT) (ys:=([]:List aG)) (zs:=a0.take (v4).toNat) [0] h) ?_
 obtain⟨h,H⟩:=rq H
 refine wA (Db (enc:=bT) (ys:=(([]:List aG)++(a0.take (v4).toNat))) (zs:=[(⟨a1,a2⟩:aG)]) [2,1] h) ?_
 obtain⟨h,H⟩:=rq H
 refine wA (Db (enc:=bT) (ys:=((([]:List aG)++(a0.take (v4).toNat))++[(⟨a1,a2⟩:aG)])) (zs:=a0.drop (v4).toNat) [3] h) ?_
 refine lA (ds:=[0,2,3]) (by kernel_rfl) (by kernel_rfl) rfl ?_
 refine wI ?_
 cases H
 exact dK⟩
def ot(a0:List b8):(Int×List b8)->Option (cH (Int×List b8) (List b8))
 |(v1,v2)=>cond (ltB v1 (a0.length:Int)) (ZS (ix a0 v1) λx5=>cond (cN 1 (([]:List Int)++x5.bm).length) (cond (cN 24 (v2++[(⟨(([]:List Int)++x5.bm)⟩:b8)]).length) (ς (.next (WR (v1+1),(v2++[(⟨(([]:List Int)++x5.bm)⟩:b8)])))) ξ) ξ) (ς (.done v2))
def qq(a0:List b8):Option (List b8):=
 ZS (iter (ot a0) FU (0,([]:List b8))) λ(v4:List b8)=>ς v4
instance U4{a0:List b8}{r:List b8}:FC prog (qq a0=ς r) 180 [aL (a0.map er)] [.c (.own 176 1 (r.map er) r.length)]:=gG func180 ntmps180 (hL 0 (λ(v:Int×List b8) sl ob nx=>⟨(3,.v (.c (.w 0 v.2.length)))::(4,tI v.1)::xS [0] sl,[(0,SM v.2)]++ob,nx⟩)) (hB 0 (λ(v:List b8) sl ob nx=>⟨(3,.v (.c (.w 0 v.length)))::(4,.any)::xS [0] sl,[(0,SM v)]++ob,nx⟩))
def lx(a0:ax)(a1:aT):Option bv:=
 ς (⟨{a0 with hP:=3},[a1]⟩:bv)
instance XA{a0:ax}{a1:aT}{r:bv}:FCV prog (lx a0 a1=ς r) 122 [] [.v (.agg (kM [.f,.f] (fy a0))),.v (.agg (kM [] (i6 a1)))] [] (.v (.agg (kM [.f,.f,.w 210] (eE r)))) [(210,w79 r.cT)]:=gV func122 ntmps122
def rp(a0:List ab)(a1:Int):Int->Option (cH (Int) (Int))
 |v1=>cond (ltB v1 (a0.length:Int)) (ZS (ix a0 v1) λx2=>cond (eqB x2.c9 a1) (dn (ς v1)) (ς (.next (WR (v1+1))))) (dn (ς (-1)))
def yX(a0:List ab)(a1:Int):Option Int:=
 iter (rp a0 a1) FU 0
instance CG{a0:List ab}{a1:Int}{r:Int}:FC prog (yX a0 a1=ς r) 175 [aL (a0.map aY),aI a1] [.c (.d (.i .i64 r))]:=gG func175 ntmps175 (hl 0 5)
def jm(a0:bi):(Int×List d6)->Option (cH (Int×List d6) (List d6))
 |(v1,v2)=>cond (ltB v1 (a0.bI.length:Int)) (ZS (ix a0.bI v1) λx6=>ZS (ix a0.bI v1) λx7=>cond (cN 8 (([]:List Int)++x7.di).length) (cond (cN 32 (v2++[(⟨x6.g9,(([]:List Int)++x7.di)⟩:d6)]).length) (ς (.next (WR (v1+1),(v2++[(⟨x6.g9,(([]:List Int)++x7.di)⟩:d6)])))) ξ) ξ) (ς (.done v2))
def oP(a0:bi):Option bi:=
 ZS (iter (jm a0) FU (0,([]:List d6))) λ(v5:List d6)=>ς (⟨v5⟩:bi)
instance Xn{a0:bi}{r:bi}:FCV prog (oP a0=ς r) 152 [] [.v (.agg [.d η (.l (a0.bI.map fw))])] [] (.v (.agg [.wn 210 r.bI.length])) [(210,Ny r.bI)]:=⟨λH=>by
 refine fV func152 ntmps152 ?_
 refine aa H λv5 Hj H=>jB ⟨[(2,tP 211),(3,tP 212)],[(211,.var 35 [.nil]),(212,.var 35 [.wn 213 v5.length]),(213,Ny v5)],214⟩ ?_ ?_
 .refine iT Hj (λq=>⟨[(1,tP 210),(2,tP 211),(3,tP 212),(4,tI q.1)],[(210,.var 35 [.d η (.l (a0.bI.map fw))]),(211,.var 35 [.nil]),(212,.var 35 [.wn 213 q.2.length]),(213,Ny q.2)],214⟩) ?_ (by refine aJ (eo (o:=212) (j:=0) 190 2 ζ) ?_;refine aJ (wB 213 (([]:List d6).length)) ?_;exact wo)
  rintro⟨v1,v2⟩ o H
  refine ad ?_
  refine cC H ?_ ?_<;>intro H
  .refine zI (List.range 21) ?_
   refine aa H λx6 hx6 H=>zA (xdT (enc:=fw) hx6) ?_
   refine aa H λx7 hx7 H=>zA (xdT (enc:=fw) hx7) ?_
   obtain⟨h,H⟩:=rq H
   refine wA (Dz (enc:=eI) (ys:=([]:List Int)) (zs:=x7.di) [214] h) ?_
   obtain⟨h,H⟩:=rq H
   refine og (ds:=[214]) (by kernel_rfl) (by kernel_rfl) rfl (by kernel_rfl) cz (kh rfl (GU (enc:=fw) (ys:=v2) (zs:=[(⟨x6.g9,(([]:List Int)++x7.di)⟩:d6)]) h (by first|exact List.cons_ne_nil _ _|simp) rfl (λ_=>rfl) (by first|rfl|simp) (.w rfl (by first|rfl|exact lm _|simp)) rfl rfl rfl rfl rfl rfl rfl rfl rfl rfl)) cz rfl ?_
   refine wI ?_
   refine wA (spx 100475) ?_
   cases H
   refine qF ?_
   refine aJ (fE 213) ?_
   exact wo
  exact aE H
 cases H
 refine cg (wS 213 210) ?_
 exact dv⟩
instance Xo{a0:bi}{r:bi}:FCF prog (oP a0=ς r) 152 [.agg (nR a0)] [.agg [.d (.l (r.bI.map fw))]]:=⟨λH=>by
 refine fI func152 ntmps152 ?_
 refine aa H λv5 Hj H=>jB ⟨[(2,tP 1),(3,tP 2)],[(1,.var 35 [.nil]),(2,.var 35 [.wn 3 v5.length]),(3,Ny v5)],4⟩ ?_ ?_
 .refine iT Hj (λq=>⟨[(1,tP 0),(2,tP 1),(3,tP 2),(4,tI q.1)],[(0,.var 35 [.d η (.l (a0.bI.map fw))]),(1,.var 35 [.nil]),(2,.var 35 [.wn 3 q.2.length]),(3,Ny q.2)],4⟩) ?_ (by refine aJ (eo (o:=2) (j:=0) 190 2 ζ) ?_;refine aJ (wB 3 (([]:List d6).length)) ?_;exact wo)
  rintro⟨v1,v2⟩ o H
  refine ad ?_
  refine cC H ?_ ?_<;>intro H
  .refine zI (List.range 21) ?_
   refine aa H λx6 hx6 H=>zA (xdT (enc:=fw) hx6) ?_
   refine aa H λx7 hx7 H=>zA (xdT (enc:=fw) hx7) ?_
   obtain⟨h,H⟩:=rq H
   refine wA (Dz (enc:=eI) (ys:=([]:List Int)) (zs:=x7.di) [4] h) ?_
   obtain⟨h,H⟩:=rq H
   refine og (ds:=[4]) (by kernel_rfl) (by kernel_rfl) rfl (by kernel_rfl) cz (kh rfl (GU (enc:=fw) (ys:=v2) (zs:=[(⟨x6.g9,(([]:List Int)++x7.di)⟩:d6)]) h (by first|exact List.cons_ne_nil _ _|simp) rfl (λ_=>rfl) (by first|rfl|simp) (.w rfl (by first|rfl|exact lm _|simp)) rfl rfl rfl rfl rfl rfl rfl rfl rfl rfl)) cz rfl ?_
   refine wI ?_
   refine wA (spx 100485) ?_
   cases H
   refine qF ?_
   refine aJ (fE 3) ?_
   exact wo
  exact aE H
 cases H
 refine Bv (gm 3) ?_
 exact dK⟩
def vu(a0:ae):(Int×List Int)->Option (cH (Int×List Int) (List Int))
 |(v1,v2)=>cond (ltB v1 (a0.av.length:Int)) (ZS (ix a0.av v1) λx5=>cond (cN 8 (v2++[(x5.bL.a8.length:Int)]).length) (ς (.next (WR (v1+1),(v2++[(x5.bL.a8.length:Int)])))) ξ) (ς (.done v2))
def yR(a0:ae):Option (List Int):=
 ZS (iter (vu a0) FU (0,[a0.lI,(a0.aV.length:Int),a0.Lost])) λ(v4:List Int)=>ς v4
instance Xf{a0:ae}{r:List Int}:FC prog (yR a0=ς r) 10 [.agg (kK a0)] [.c (.own 3 1 (r.map eI) r.length)]:=gG func10 ntmps10 (hL 0 (λ(v:Int×List Int) sl ob nx=>⟨(3,.v (.c (.w 1 v.2.length)))::(4,tI v.1)::xS [1] sl,[(1,w3 v.2)]++ob,nx⟩)) (hB 0 (λ(v:List Int) sl ob nx=>⟨(3,.v (.c (.w 1 v.length)))::(4,.any)::xS [1] sl,[(1,w3 v)]++ob,nx⟩))
end Go.AM
