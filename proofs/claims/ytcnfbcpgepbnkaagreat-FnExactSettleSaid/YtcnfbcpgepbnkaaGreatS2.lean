/- A part. -/
import Derived.Test.YtcnfbcpgepbnkaaGreatG
set_option linter.unusedVariables false
open Option renaming some->ς,none->ξ
open Bool renaming true->ζ,false->η
open True renaming intro->θ
open Option renaming bind->aeP
open List renaming cons_ne_nil->aeR,range->f6
namespace Go.AM
open Go.Proofs
open Tryz
attribute [local irreducible] AWN NS AWO AWR AWC DR DZ cO eB iter
set_option maxRecDepth 100000
set_option maxHeartbeats 40000000
def vg(a0:aU):(Int×List cZ)->Option (bJ (Int×List cZ) (List cZ))
 |(v1,v2)=>cond (ltB v1 (a0.bh.length:Int)) (aeP (ix a0.bh v1) λx6=>aeP (ix a0.bh v1) λx7=>cond (c8 8 (([]:List Int)++x7.b7).length) (cond (c8 32 (v2++[(⟨x6.eO,(([]:List Int)++x7.b7)⟩:cZ)]).length) (ς (.next (WR (v1+1),(v2++[(⟨x6.eO,(([]:List Int)++x7.b7)⟩:cZ)])))) ξ) ξ) (ς (.done v2))
def Af(a0:aU):Option aU:=
 aeP (iter (vg a0) FU (0,([]:List cZ))) λ(v5:List cZ)=>ς (⟨v5⟩:aU)
instance sl10Copy_c{a0:aU}{r:aU}:FCV prog (Af a0=ς r) 62 [] [.v (.agg [.d η (.l (a0.bh.map de))])] [] (.v (.agg [.wn 210 r.bh.length])) [(210,Yq r.bh)]:=⟨λH=>by
 refine fV func62 ntmps62 ?_
 refine aa H λv5 Hj H=>jB ⟨[(2,tP 211),(3,tP 212)],[(211,.var 36 [.nil]),(212,.var 36 [.wn 213 v5.length]),(213,Yq v5)],214⟩ ?_ ?_
 .refine iT Hj (λq=>⟨[(1,tP 210),(2,tP 211),(3,tP 212),(4,tI q.1)],[(210,.var 36 [.d η (.l (a0.bh.map de))]),(211,.var 36 [.nil]),(212,.var 36 [.wn 213 q.2.length]),(213,Yq q.2)],214⟩) ?_ (by refine aK (An (o:=212) (j:=0) 198 2 ζ) ?_;refine aK (wB 213 (([]:List cZ).length)) ?_;exact wo)
  rintro⟨v1,v2⟩ o H
  refine ad ?_
  refine cC H ?_ ?_<;>intro H
  .refine zI (f6 21) ?_
   refine aa H λx6 hx6 H=>zA (xdT (enc:=de) hx6) ?_
   refine aa H λx7 hx7 H=>zA (xdT (enc:=de) hx7) ?_
   obtain⟨h,H⟩:=rq H
   refine wA (Kb (enc:=eI) (ys:=([]:List Int)) (zs:=x7.b7) [214] h) ?_
   obtain⟨h,H⟩:=rq H
   refine uE (ds:=[214]) (by kernel_rfl) (by kernel_rfl) rfl (by kernel_rfl) dH (tj rfl (Up (enc:=de) (ys:=v2) (zs:=[(⟨x6.eO,(([]:List Int)++x7.b7)⟩:cZ)]) h (by first|exact aeR _ _|simp) rfl (λ_=>rfl) (by first|rfl|simp) (.w rfl (by first|rfl|exact lm _|simp)) rfl rfl rfl rfl rfl rfl rfl rfl rfl rfl)) dH rfl ?_
   refine wI ?_
   refine wA (spx 100015) ?_
   cases H
   refine yH ?_
   refine aK (ez 213) ?_
   exact wo
  exact aE H
 cases H
 refine Kh (wS 213 210) ?_
 exact eo⟩
instance sl10Copy_f{a0:aU}{r:aU}:FCF prog (Af a0=ς r) 62 [.agg (eh a0)] [.agg [.d (.l (r.bh.map de))]]:=⟨λH=>by
 refine fI func62 ntmps62 ?_
 refine aa H λv5 Hj H=>jB ⟨[(2,tP 1),(3,tP 2)],[(1,.var 36 [.nil]),(2,.var 36 [.wn 3 v5.length]),(3,Yq v5)],4⟩ ?_ ?_
 .refine iT Hj (λq=>⟨[(1,tP 0),(2,tP 1),(3,tP 2),(4,tI q.1)],[(0,.var 36 [.d η (.l (a0.bh.map de))]),(1,.var 36 [.nil]),(2,.var 36 [.wn 3 q.2.length]),(3,Yq q.2)],4⟩) ?_ (by refine aK (An (o:=2) (j:=0) 198 2 ζ) ?_;refine aK (wB 3 (([]:List cZ).length)) ?_;exact wo)
  rintro⟨v1,v2⟩ o H
  refine ad ?_
  refine cC H ?_ ?_<;>intro H
  .refine zI (f6 21) ?_
   refine aa H λx6 hx6 H=>zA (xdT (enc:=de) hx6) ?_
   refine aa H λx7 hx7 H=>zA (xdT (enc:=de) hx7) ?_
   obtain⟨h,H⟩:=rq H
   refine wA (Kb (enc:=eI) (ys:=([]:List Int)) (zs:=x7.b7) [4] h) ?_
   obtain⟨h,H⟩:=rq H
   refine uE (ds:=[4]) (by kernel_rfl) (by kernel_rfl) rfl (by kernel_rfl) dH (tj rfl (Up (enc:=de) (ys:=v2) (zs:=[(⟨x6.eO,(([]:List Int)++x7.b7)⟩:cZ)]) h (by first|exact aeR _ _|simp) rfl (λ_=>rfl) (by first|rfl|simp) (.w rfl (by first|rfl|exact lm _|simp)) rfl rfl rfl rfl rfl rfl rfl rfl rfl rfl)) dH rfl ?_
   refine wI ?_
   refine wA (spx 100025) ?_
   cases H
   refine yH ?_
   refine aK (ez 3) ?_
   exact wo
  exact aE H
 cases H
 refine NA (eD 3) ?_
 exact iw⟩
def DL(a0:bK):Option bK:=
 cond (c8 8 (([]:List Int)++a0.bi).length) (ς {a0 with bi:=(([]:List Int)++a0.bi)}) ξ
instance sl30Plan_c{a0:bK}{r:bK}:FC prog (DL a0=ς r) 121 [.agg (ga a0)] [.agg (qM [.o] (tu r))]:=gG func121 ntmps121
def mU(a0:aj):Option aj:=
 cond (c8 16 (([]:List ah)++a0.ak).length) (ς {a0 with ak:=(([]:List ah)++a0.ak)}) ξ
instance sl16Copy_c{a0:aj}{r:aj}:FC prog (mU a0=ς r) 65 [.agg (bj a0)] [.agg (qM [.o] (cp r))]:=gG func65 ntmps65
def DI(a0:am):Option am:=
 cond (c8 1 (([]:List Int)++a0.bH.be).length) (ς {a0 with bH:={a0.bH with be:=(([]:List Int)++a0.bH.be)}}) ξ
instance sl27Copy_c{a0:am}{r:am}:FC prog (DI a0=ς r) 124 [.agg (cQ a0)] [.agg (qM [.o] (gX r))]:=gG func124 ntmps124
def uu(a0:a9):Option a9:=
 aeP (DI a0.cF) λr1=>ς {a0 with cF:=r1}
instance MU{a0:a9}{r:a9}:FC prog (uu a0=ς r) 66 [.agg (bA a0)] [.agg (qM [.o] (ox r))]:=gG func66 ntmps66
def py:Option fj:=
 ς (⟨[1,2]⟩:fj)
instance Qc{r:fj}:FC prog (py=ς r) 341 [] [.agg [.own 3 1 (r.Steps.map eI) r.Steps.length]]:=gG func341 ntmps341
def pF(a0:ae)(a1:a9):Option ae:=
 cond (leB 200 (a0.aJ.length:Int)) (ς {a0 with my:=WR (a0.my+1)}) (aeP (uu a1) λr1=>cond (c8 176 (a0.aJ++[r1]).length) (ς {a0 with aJ:=(a0.aJ++[r1])}) ξ)
instance sl32Send_c{a0:ae}{a1:a9}{r:ae}:FCV prog (pF a0 a1=ς r) 183 (nS a0) [tP 200,.v (.agg (kM [.t] (ox a1)))] (nS r) (.tup []) []:=⟨λH=>by
 refine fV func183 ntmps183 ?_
 refine cC H ?_ ?_<;>intro H
 .cases H
  exact eo
 refine R8 0 18 0 [1,2,3,4,5,6,7,8,9,10,11] Try.follows (by kernel_rfl) (by kernel_rfl) rfl (by kernel_rfl) rfl rfl ?_
 refine wI ?_
 refine aa H λr1 q1 H=>zA (ca (hF:=(MU.h q1).frzs (by repeat (first|exact θ|refine⟨?_,?_⟩|exact lm _|rfl)))) ?_
 obtain⟨h,H⟩:=rq H
 refine zB dH (tj rfl (Up (enc:=bA) (ys:=a0.aJ) (zs:=[r1]) h (by first|exact aeR _ _|simp) rfl (λ_=>rfl) (by first|rfl|simp) (.w rfl (by first|rfl|exact lm _|simp)) rfl rfl rfl rfl rfl rfl rfl rfl rfl rfl)) dH ?_
 refine wA (spx 100126) ?_
 cases H
 refine Kh ((ez 193)) ?_
 exact tw⟩
def lS(a1:Int)(a2:Bool)(a3:List aD):(Int×ae)->Option (bJ (Int×ae) (ae))
 |(v1,v12)=>cond (ltB v1 (a3.length:Int)) (aeP (ix a3 v1) λx27=>aeP (ix a3 v1) λx28=>aeP (pF v12 (⟨a1,a2,η,x27.bC,x28,kU⟩:a9)) λr29=>ς (.next (WR (v1+1),r29))) (ς (.done v12))
def lR(a0:ae)(a1:Int)(a2:Bool)(a3:List aD):Option ae:=
 aeP (iter (lS a1 a2 a3) FU (0,a0)) λ(v26:ae)=>ς v26
instance aaU{a0:ae}{a1:Int}{a2:Bool}{a3:List aD}{r:ae}:FCV prog (lR a0 a1 a2 a3=ς r) 133 (nS a0) [tP 200,tI a1,tB a2,.v (.c (.d ζ (.l (a3.map cP))))] (nS r) (.tup []) []:=gV func133 ntmps133 (hL 0 (λ(v:Int×ae) sl ob nx=>⟨(8,tI v.1)::xS [193,192,191,190] sl,nS v.2++ob,nx⟩)) (hB 0 (λ(v:ae) sl ob nx=>⟨(8,.any)::xS [193,192,191,190] sl,nS v++ob,nx⟩)) (hz 3)
def lQ(a0:ae)(a1:Int)(a2:aZ):Option ae:=
 aeP (ix a0.aH a1) λx1=>aeP (lR {a0 with aH:=(a0.aH.set (a1).toNat a2.bS)} a1 ζ a2.dV) λr2=>ς r2
instance acP{a0:ae}{a1:Int}{a2:aZ}{r:ae}:FCV prog (lQ a0 a1 a2=ς r) 134 (nS a0) [tP 200,tI a1,.v (.agg (kM [.t,.t,.t] (cU a2)))] (nS r) (.tup []) []:=gV func134 ntmps134 (hz 1)
def vi(a0:List ab)(a1:Int):Int->Option (bJ (Int) (Int))
 |v1=>cond (ltB v1 (a0.length:Int)) (aeP (ix a0 v1) λx2=>cond (eqB x2.df a1) (dn (ς v1)) (ς (.next (WR (v1+1))))) (dn (ς (-1)))
def Ja(a0:List ab)(a1:Int):Option Int:=
 iter (vi a0 a1) FU 0
instance Rz{a0:List ab}{a1:Int}{r:Int}:FC prog (Ja a0 a1=ς r) 298 [aL (a0.map an),aI a1] [.c (.d (.i .i64 r))]:=gG func298 ntmps298 (hl 0 5)
def rf(a0:aF)(a1:aD):Option aZ:=
 ς (⟨{a0 with eG:=3},[a1]⟩:aZ)
instance sl29Send_c{a0:aF}{a1:aD}{r:aZ}:FCV prog (rf a0 a1=ς r) 221 [] [.v (.agg (kM [.f,.f] (ku a0))),.v (.agg (kM [] (fM a1)))] [] (.v (.agg (kM [.f,.f,.w 210] (cU r)))) [(210,w147 r.dV)]:=gV func221 ntmps221
def Cm(a0:aF):Option aD:=
 ς {gq with eb:=1,bC:=a0.bC}
instance acL{a0:aF}{r:aD}:FC prog (Cm a0=ς r) 265 [.agg (bG a0)] [.agg (qM [] (fM r))]:=gG func265 ntmps265
def yb(a0:List ah)(a1:Int):Int->Option (bJ (Int) (Int))
 |v1=>aeP (cond (ltB v1 (a0.length:Int)) (aeP (ix a0 v1) λx6=>ς (ltB x6.ax a1)) (ς η)) λ(v5:Bool)=>cond v5 (ς (.next (WR (v1+1)))) (ς (.done v1))
def GM(a0:List ah)(a1:Int)(a2:Int):Option (List ah):=
 aeP (iter (yb a0 a1) FU 0) λ(v4:Int)=>aeP (cond (ltB v4 (a0.length:Int)) (aeP (ix a0 v4) λx8=>ς (eqB x8.ax a1)) (ς η)) λ(v7:Bool)=>cond v7 (cond (c8 16 (([]:List ah)++a0).length) (aeP (ix (([]:List ah)++a0) v4) λx9=>aeP (ix (([]:List ah)++a0) v4) λx10=>ς ((([]:List ah)++a0).set (v4).toNat (⟨x10.ax,WR (x9.dq+a2)⟩:ah))) ξ) (cond (d6 a0 0 v4) (cond (d6 a0 v4 a0.length) (cond (c8 16 (([]:List ah)++(a0.take (v4).toNat)).length) (cond (c8 16 ((([]:List ah)++(a0.take (v4).toNat))++[(⟨a1,a2⟩:ah)]).length) (cond (c8 16 (((([]:List ah)++(a0.take (v4).toNat))++[(⟨a1,a2⟩:ah)])++(a0.drop (v4).toNat)).length) (ς (((([]:List ah)++(a0.take (v4).toNat))++[(⟨a1,a2⟩:ah)])++(a0.drop (v4).toNat))) ξ) ξ) ξ) ξ) ξ)
instance sl16Add_c{a0:List ah}{a1:Int}{a2:Int}{r:List ah}:FC prog (GM a0 a1 a2=ς r) 381 [aL (a0.map aO),aI a1,aI a2] [.c (.own 232 2 (r.map aO) r.length)]:=⟨λH=>by
 refine fI func381 ntmps381 ?_
 refine aa H λv4 Hj H=>jB ⟨[(0,.v (.c (.d η (.l (a0.map aO))))),(1,tI a1),(2,tI a2),(7,tI v4)],[],0⟩ ?_ ?_
 .refine iT Hj (λq=>⟨[(0,.v (.c (.d η (.l (a0.map aO))))),(1,tI a1),(2,tI a2),(7,tI q)],[],0⟩) ?_
  rintro v1 o H
  refine ad ?_
  refine aa H λv5 Hj H=>jR ⟨[(0,.v (.c (.d η (.l (a0.map aO))))),(1,tI a1),(2,tI a2),(7,tI v1),(21,tB v5)],[],0⟩ ?_ ?_
  .refine gC Hj ?_ ?_<;>intro H
   .refine aa H λx6 hx6 H=>nG (xdT (enc:=aO) hx6) ?_
    exact ai H
   exact ai H
  refine cC H ?_ ?_<;>intro H
  .exact aN H
  exact aE H
 refine aa H λv7 Hj H=>jR ⟨[(0,.v (.c (.d η (.l (a0.map aO))))),(1,tI a1),(2,tI a2),(7,tI v4),(36,tB v7)],[],0⟩ ?_ ?_
 .refine gC Hj ?_ ?_<;>intro H
  .refine aa H λx8 hx8 H=>nG (xdT (enc:=aO) hx8) ?_
   exact ai H
  exact ai H
 refine cC H ?_ ?_<;>intro H
 .obtain⟨h,H⟩:=rq H
  refine qK rfl (apT (enc:=aO) (ys:=([]:List ah)) (zs:=a0) h) ?_
  refine aW (wM (enc:=aO) (o:=0)) ?_
  refine aa H λx9 hx9 H=>nA (xwT hx9) ?_
  refine nA (oe (he:=fK _ hx9)) ?_
  refine aa H λx10 hx10 H=>nA (xwT hx10) ?_
  refine sA (soT (enc:=aO) (a':=(⟨x10.ax,WR (x9.dq+a2)⟩:ah)) hx10) ?_
  exact ao H
 refine zI [0,1,2,3,5,6,7,8,10,11,12,4,9,13,14] ?_
 obtain⟨h,H⟩:=rq H
 refine zA (cdhT (enc:=aO) h (λ_=>rfl) rfl rfl rfl) ?_
 obtain⟨h,H⟩:=rq H
 refine zA (cdlT (enc:=aO) h (λ_=>rfl) rfl rfl rfl) ?_
 obtain⟨h,H⟩:=rq H
 refine wA (No (enc:=aO) (ys:=([]:List ah)) (zs:=a0.take (v4).toNat) [0] h) ?_
 obtain⟨h,H⟩:=rq H
 refine wA (No (enc:=aO) (ys:=(([]:List ah)++(a0.take (v4).toNat))) (zs:=[(⟨a1,a2⟩:ah)]) [2,1] h) ?_
 obtain⟨h,H⟩:=rq H
 refine wA (No (enc:=aO) (ys:=((([]:List ah)++(a0.take (v4).toNat))++[(⟨a1,a2⟩:ah)])) (zs:=a0.drop (v4).toNat) [3] h) ?_
 refine sb (ds:=[0,2,3]) (by kernel_rfl) (by kernel_rfl) rfl ?_
 refine wI ?_
 cases H
 exact iw⟩
end Go.AM
