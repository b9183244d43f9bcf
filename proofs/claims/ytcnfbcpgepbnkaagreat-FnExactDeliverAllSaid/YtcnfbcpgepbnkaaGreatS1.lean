/- A part. -/
import Derived.Test.YtcnfbcpgepbnkaaGreatG
set_option linter.unusedVariables false
open Option renaming some->ς,none->ξ
open Bool renaming true->ζ,false->η
open True renaming intro->θ
open Option renaming bind->abX
open List renaming cons_ne_nil->abZ,range->aag
namespace Go.AM
open Go.Proofs
open Tryz
attribute [local irreducible] AWN NS AWO AWR AWC DR DZ cp ec iter
set_option maxRecDepth 100000
set_option maxHeartbeats 40000000
def sQ(a0:bz):(Int×List cA)->Option (bN (Int×List cA) (List cA))
 |(v1,v2)=>cond (ltB v1 (a0.bD.length:Int)) (abX (ix a0.bD v1) λx6=>abX (ix a0.bD v1) λx7=>cond (dH 8 (([]:List Int)++x7.bI).length) (cond (dH 32 (v2++[(⟨x6.mG,(([]:List Int)++x7.bI)⟩:cA)]).length) (ς (.next (WR (v1+1),(v2++[(⟨x6.mG,(([]:List Int)++x7.bI)⟩:cA)])))) ξ) ξ) (ς (.done v2))
def wZ(a0:bz):Option bz:=
 abX (iter (sQ a0) FU (0,([]:List cA))) λ(v5:List cA)=>ς (⟨v5⟩:bz)
instance sl10Copy_c{a0:bz}{r:bz}:FCV prog (wZ a0=ς r) 62 [] [.v (.agg [.d η (.l (a0.bD.map cQ))])] [] (.v (.agg [.wn 210 r.bD.length])) [(210,Uo r.bD)]:=⟨λH=>by
 refine fV func62 ntmps62 ?_
 refine aa H λv5 Hj H=>jB ⟨[(2,tP 211),(3,tP 212)],[(211,.var 36 [.nil]),(212,.var 36 [.wn 213 v5.length]),(213,Uo v5)],214⟩ ?_ ?_
 .refine iT Hj (λq=>⟨[(1,tP 210),(2,tP 211),(3,tP 212),(4,tI q.1)],[(210,.var 36 [.d η (.l (a0.bD.map cQ))]),(211,.var 36 [.nil]),(212,.var 36 [.wn 213 q.2.length]),(213,Uo q.2)],214⟩) ?_ (by refine bv (Fd (o:=212) (j:=0) 198 2 ζ) ?_;refine bv (wB 213 (([]:List cA).length)) ?_;exact wo)
  rintro⟨v1,v2⟩ o H
  refine ad ?_
  refine cC H ?_ ?_<;>intro H
  .refine zI (aag 21) ?_
   refine aa H λx6 hx6 H=>zA (xdT (enc:=cQ) hx6) ?_
   refine aa H λx7 hx7 H=>zA (xdT (enc:=cQ) hx7) ?_
   obtain⟨h,H⟩:=rq H
   refine wA (NT (enc:=eI) (ys:=([]:List Int)) (zs:=x7.bI) [214] h) ?_
   obtain⟨h,H⟩:=rq H
   refine CR (ds:=[214]) (by kernel_rfl) (by kernel_rfl) rfl (by kernel_rfl) eG (yL rfl (WZ (enc:=cQ) (ys:=v2) (zs:=[(⟨x6.mG,(([]:List Int)++x7.bI)⟩:cA)]) h (by first|exact abZ _ _|simp) rfl (λ_=>rfl) (by first|rfl|simp) (.w rfl (by first|rfl|exact lm _|simp)) rfl rfl rfl rfl rfl rfl rfl rfl rfl rfl)) eG rfl ?_
   refine wI ?_
   refine wA (spx 100015) ?_
   cases H
   refine y6 ?_
   refine bv (kD 213) ?_
   exact wo
  exact aE H
 cases H
 refine JE (wS 213 210) ?_
 exact ea⟩
instance sl10Copy_f{a0:bz}{r:bz}:FCF prog (wZ a0=ς r) 62 [.agg (gm a0)] [.agg [.d (.l (r.bD.map cQ))]]:=⟨λH=>by
 refine fI func62 ntmps62 ?_
 refine aa H λv5 Hj H=>jB ⟨[(2,tP 1),(3,tP 2)],[(1,.var 36 [.nil]),(2,.var 36 [.wn 3 v5.length]),(3,Uo v5)],4⟩ ?_ ?_
 .refine iT Hj (λq=>⟨[(1,tP 0),(2,tP 1),(3,tP 2),(4,tI q.1)],[(0,.var 36 [.d η (.l (a0.bD.map cQ))]),(1,.var 36 [.nil]),(2,.var 36 [.wn 3 q.2.length]),(3,Uo q.2)],4⟩) ?_ (by refine bv (Fd (o:=2) (j:=0) 198 2 ζ) ?_;refine bv (wB 3 (([]:List cA).length)) ?_;exact wo)
  rintro⟨v1,v2⟩ o H
  refine ad ?_
  refine cC H ?_ ?_<;>intro H
  .refine zI (aag 21) ?_
   refine aa H λx6 hx6 H=>zA (xdT (enc:=cQ) hx6) ?_
   refine aa H λx7 hx7 H=>zA (xdT (enc:=cQ) hx7) ?_
   obtain⟨h,H⟩:=rq H
   refine wA (NT (enc:=eI) (ys:=([]:List Int)) (zs:=x7.bI) [4] h) ?_
   obtain⟨h,H⟩:=rq H
   refine CR (ds:=[4]) (by kernel_rfl) (by kernel_rfl) rfl (by kernel_rfl) eG (yL rfl (WZ (enc:=cQ) (ys:=v2) (zs:=[(⟨x6.mG,(([]:List Int)++x7.bI)⟩:cA)]) h (by first|exact abZ _ _|simp) rfl (λ_=>rfl) (by first|rfl|simp) (.w rfl (by first|rfl|exact lm _|simp)) rfl rfl rfl rfl rfl rfl rfl rfl rfl rfl)) eG rfl ?_
   refine wI ?_
   refine wA (spx 100025) ?_
   cases H
   refine y6 ?_
   refine bv (kD 3) ?_
   exact wo
  exact aE H
 cases H
 refine JC (oW 3) ?_
 exact jK⟩
def pn(a0:List aC):(Int×List aC)->Option (bN (Int×List aC) (List aC))
 |(v1,v2)=>cond (ltB v1 (a0.length:Int)) (abX (ix a0 v1) λx5=>cond (dH 1 (([]:List Int)++x5.bk).length) (cond (dH 24 (v2++[(⟨(([]:List Int)++x5.bk)⟩:aC)]).length) (ς (.next (WR (v1+1),(v2++[(⟨(([]:List Int)++x5.bk)⟩:aC)])))) ξ) ξ) (ς (.done v2))
def rW(a0:List aC):Option (List aC):=
 abX (iter (pn a0) FU (0,([]:List aC))) λ(v4:List aC)=>ς v4
instance YI{a0:List aC}{r:List aC}:FC prog (rW a0=ς r) 122 [aL (a0.map bQ)] [.c (.own 251 1 (r.map bQ) r.length)]:=gG func122 ntmps122 (hL 0 (λ(v:Int×List aC) sl ob nx=>⟨(3,.v (.c (.w 0 v.2.length)))::(4,tI v.1)::xS [0] sl,[(0,RI v.2)]++ob,nx⟩)) (hB 0 (λ(v:List aC) sl ob nx=>⟨(3,.v (.c (.w 0 v.length)))::(4,.any)::xS [0] sl,[(0,RI v)]++ob,nx⟩))
def AK(a0:an):Option an:=
 cond (dH 16 (([]:List aA)++a0.aG).length) (ς {a0 with aG:=(([]:List aA)++a0.aG)}) ξ
instance sl16Copy_c{a0:an}{r:an}:FC prog (AK a0=ς r) 65 [.agg (bu a0)] [.agg (qM [.o] (xo r))]:=gG func65 ntmps65
def AL(a0:aT):Option aT:=
 cond (dH 1 (([]:List Int)++a0.a9.bk).length) (ς {a0 with a9:={a0.a9 with bk:=(([]:List Int)++a0.a9.bk)}}) ξ
instance sl27Copy_c{a0:aT}{r:aT}:FC prog (AL a0=ς r) 124 [.agg (db a0)] [.agg (qM [.o] (jy r))]:=gG func124 ntmps124
def sa(a0:aH):Option aH:=
 abX (AL a0.cY) λr1=>ς {a0 with cY:=r1}
instance IR{a0:aH}{r:aH}:FC prog (sa a0=ς r) 66 [.agg (aW a0)] [.agg (qM [.o] (jh r))]:=gG func66 ntmps66
def wV(a0:List Int)(a1:List Int):Option Bool:=
 ς (strB (Dq a0) (Dq a1))
instance WK{a0:List Int}{a1:List Int}{r:Bool}:FC prog (wV a0 a1=ς r) 284 [aL (a0.map eU8),aL (a1.map eU8)] [.c (.d (.b r))]:=gG func284 ntmps284
def va(a0:List ab):(Int×Int)->Option (bN (Int×Int) (Int))
 |(v1,v2)=>cond (ltB v2 (a0.length:Int)) (abX (ix a0 v2) λx5=>ς (.next (WR (v1+(x5.bk.length:Int)),WR (v2+1)))) (ς (.done v1))
def qF(a0:List ab):Option Int:=
 abX (iter (va a0) FU (0,0)) λ(v4:Int)=>ς v4
instance ZM{a0:List ab}{r:Int}:FC prog (qF a0=ς r) 285 [aL (a0.map ah)] [.c (.d (.i .i64 r))]:=gG func285 ntmps285 (hm 0 3 4) (he 0 3 4)
def Vp(a0:Int)(a1:Int):Option Int:=
 cond (ltB a0 a1) (ς a1) (ς a0)
instance sMax_c{a0:Int}{a1:Int}{r:Int}:FC prog (Vp a0 a1=ς r) 361 [aI a0,aI a1] [.c (.d (.i .i64 r))]:=gG func361 ntmps361
def oo:Option eu:=
 ς (⟨[1,2]⟩:eu)
instance L6{r:eu}:FC prog (oo=ς r) 341 [] [.agg [.own 3 1 (r.Steps.map eI) r.Steps.length]]:=gG func341 ntmps341
def t8(a0:ae)(a1:aH):Option ae:=
 cond (leB 200 (a0.ax.length:Int)) (ς {a0 with lb:=WR (a0.lb+1)}) (abX (sa a1) λr1=>cond (dH 176 (a0.ax++[r1]).length) (ς {a0 with ax:=(a0.ax++[r1])}) ξ)
instance sl32Send_c{a0:ae}{a1:aH}{r:ae}:FCV prog (t8 a0 a1=ς r) 183 (nS a0) [tP 200,.v (.agg (kM [.t] (jh a1)))] (nS r) (.tup []) []:=⟨λH=>by
 refine fV func183 ntmps183 ?_
 refine cC H ?_ ?_<;>intro H
 .cases H
  exact ea
 refine Hn 0 18 0 [1,2,3,4,5,6,7,8,9,10,11] Try.follows (by kernel_rfl) (by kernel_rfl) rfl (by kernel_rfl) rfl rfl ?_
 refine wI ?_
 refine aa H λr1 q1 H=>zA (ca (hF:=(IR.h q1).frzs (by repeat (first|exact θ|refine⟨?_,?_⟩|exact lm _|rfl)))) ?_
 obtain⟨h,H⟩:=rq H
 refine zB eG (yL rfl (WZ (enc:=aW) (ys:=a0.ax) (zs:=[r1]) h (by first|exact abZ _ _|simp) rfl (λ_=>rfl) (by first|rfl|simp) (.w rfl (by first|rfl|exact lm _|simp)) rfl rfl rfl rfl rfl rfl rfl rfl rfl rfl)) eG ?_
 refine wA (spx 100126) ?_
 cases H
 refine JE ((kD 193)) ?_
 exact qT⟩
def kA(a1:Int)(a2:Bool)(a3:List ar):(Int×ae)->Option (bN (Int×ae) (ae))
 |(v1,v12)=>cond (ltB v1 (a3.length:Int)) (abX (ix a3 v1) λx27=>abX (ix a3 v1) λx28=>abX (t8 v12 (⟨a1,a2,η,x27.bJ,x28,jH⟩:aH)) λr29=>ς (.next (WR (v1+1),r29))) (ς (.done v12))
def mF(a0:ae)(a1:Int)(a2:Bool)(a3:List ar):Option ae:=
 abX (iter (kA a1 a2 a3) FU (0,a0)) λ(v26:ae)=>ς v26
instance WQ{a0:ae}{a1:Int}{a2:Bool}{a3:List ar}{r:ae}:FCV prog (mF a0 a1 a2 a3=ς r) 133 (nS a0) [tP 200,tI a1,tB a2,.v (.c (.d ζ (.l (a3.map cb))))] (nS r) (.tup []) []:=gV func133 ntmps133 (hL 0 (λ(v:Int×ae) sl ob nx=>⟨(8,tI v.1)::xS [193,192,191,190] sl,nS v.2++ob,nx⟩)) (hB 0 (λ(v:ae) sl ob nx=>⟨(8,.any)::xS [193,192,191,190] sl,nS v++ob,nx⟩)) (hz 3)
def mt(a0:ae)(a1:Int)(a2:aK):Option ae:=
 abX (ix a0.aO a1) λx1=>abX (mF {a0 with aO:=(a0.aO.set (a1).toNat a2.bC)} a1 ζ a2.dQ) λr2=>ς r2
instance YN{a0:ae}{a1:Int}{a2:aK}{r:ae}:FCV prog (mt a0 a1 a2=ς r) 134 (nS a0) [tP 200,tI a1,.v (.agg (kM [.t,.t,.t] (cd a2)))] (nS r) (.tup []) []:=gV func134 ntmps134 (hz 1)
def jt(a0:List Int):(Int×List Int)->Option (bN (Int×List Int) (List Int))
 |(v1,v2)=>cond (ltB v1 (a0.length:Int)) (abX (ix a0 v1) λx5=>cond (dH 8 (v2++[WR (x5)]).length) (ς (.next (WR (v1+1),(v2++[WR (x5)])))) ξ) (ς (.done v2))
def qr(a0:List Int):Option (List Int):=
 abX (iter (jt a0) FU (0,[(a0.length:Int)])) λ(v4:List Int)=>ς v4
instance ES{a0:List Int}{r:List Int}:FC prog (qr a0=ς r) 379 [aL (a0.map eU8)] [.c (.own 3 1 (r.map eI) r.length)]:=gG func379 ntmps379 (hL 0 (λ(v:Int×List Int) sl ob nx=>⟨(3,.v (.c (.w 0 v.2.length)))::(4,tI v.1)::xS [0] sl,[(0,w3 v.2)]++ob,nx⟩)) (hB 0 (λ(v:List Int) sl ob nx=>⟨(3,.v (.c (.w 0 v.length)))::(4,.any)::xS [0] sl,[(0,w3 v)]++ob,nx⟩))
def sS(a0:List ab)(a1:Int):Int->Option (bN (Int) (Int))
 |v1=>cond (ltB v1 (a0.length:Int)) (abX (ix a0 v1) λx2=>cond (eqB x2.cP a1) (dn (ς v1)) (ς (.next (WR (v1+1))))) (dn (ς (-1)))
def EW(a0:List ab)(a1:Int):Option Int:=
 iter (sS a0 a1) FU 0
instance No{a0:List ab}{a1:Int}{r:Int}:FC prog (EW a0 a1=ς r) 298 [aL (a0.map ah),aI a1] [.c (.d (.i .i64 r))]:=gG func298 ntmps298 (hl 0 5)
def xe(a0:av)(a1:ar):Option aK:=
 ς (⟨{a0 with mH:=3},[a1]⟩:aK)
instance sl29Send_c{a0:av}{a1:ar}{r:aK}:FCV prog (xe a0 a1=ς r) 221 [] [.v (.agg (kM [.f,.f] (gv a0))),.v (.agg (kM [] (fH a1)))] [] (.v (.agg (kM [.f,.f,.w 210] (cd r)))) [(210,w147 r.dQ)]:=gV func221 ntmps221
end Go.AM
