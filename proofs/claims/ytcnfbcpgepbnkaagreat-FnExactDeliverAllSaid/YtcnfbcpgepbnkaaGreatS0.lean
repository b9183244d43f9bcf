/- A part. -/
import Derived.Test.YtcnfbcpgepbnkaaGreatG
set_option linter.unusedVariables false
open Option renaming some->ς,none->ξ
open Bool renaming true->ζ,false->η
open True renaming intro->θ
open Option renaming bind->abX
namespace Go.AM
open Go.Proofs
open Tryz
attribute [local irreducible] AWN NS AWO AWR AWC DR DZ cp ec iter
set_option maxRecDepth 100000
set_option maxHeartbeats 40000000
variable{a1:Int}
def qy(a0:List ab):(Int×List ab)->Option (bN (Int×List ab) (List ab))
 |(v1,v2)=>cond (ltB v1 (a0.length:Int)) (abX (ix a0 v1) λx6=>abX (ix a0 v1) λx7=>cond (dH 1 (([]:List Int)++x7.bk).length) (cond (dH 32 (v2++[(⟨x6.cP,(([]:List Int)++x7.bk)⟩:ab)]).length) (ς (.next (WR (v1+1),(v2++[(⟨x6.cP,(([]:List Int)++x7.bk)⟩:ab)])))) ξ) ξ) (ς (.done v2))
def t6(a0:List ab):Option (List ab):=
 abX (iter (qy a0) FU (0,([]:List ab))) λ(v5:List ab)=>ς v5
instance ZK{a0:List ab}{r:List ab}:FC prog (t6 a0=ς r) 196 [aL (a0.map ah)] [.c (.own 249 2 (r.map ah) r.length)]:=⟨λH=>by
 refine fI func196 ntmps196 ?_
 refine aa H λv5 Hj H=>jB ⟨[(3,.v (.c (.w 0 v5.length)))],[(0,Jd v5)],1⟩ ?_ ?_
 .refine iT Hj (λq=>⟨[(0,.v (.c (.d η (.l (a0.map ah))))),(3,.v (.c (.w 0 q.2.length))),(4,tI q.1)],[(0,Jd q.2)],1⟩) ?_
  rintro⟨v1,v2⟩ o H
  refine ad ?_
  refine cC H ?_ ?_<;>intro H
  .refine zI (List.range 17) ?_
   refine aa H λx6 hx6 H=>zA (xdT (enc:=ah) hx6) ?_
   refine aa H λx7 hx7 H=>zA (xdT (enc:=ah) hx7) ?_
   obtain⟨h,H⟩:=rq H
   refine wA (NT (enc:=eU8) (ys:=([]:List Int)) (zs:=x7.bk) [1] h) ?_
   obtain⟨h,H⟩:=rq H
   refine wA (apx (enc:=ah) (ys:=v2) (zs:=[(⟨x6.cP,(([]:List Int)++x7.bk)⟩:ab)]) [0,3] h) ?_
   refine zY (ds:=[1,0]) (by kernel_rfl) (by kernel_rfl) rfl ?_
   refine wI ?_
   cases H
   refine y6 ?_
   refine bv (wS 0 4) ?_
   exact wo
  exact aE H
 cases H
 exact jK⟩
def rY(a0:aF):Option aF:=
 abX (t6 a0.aJ) λr1=>ς (⟨a0.bK,r1⟩:aF)
instance IQ{a0:aF}{r:aF}:FC prog (rY a0=ς r) 123 [.agg (eA a0)] [.agg (qM [.o] (dW r))]:=gG func123 ntmps123 (hz 1)
def zF(a0:List Int)(a1:Int):Int->Option (bN (Int) (Bool))
 |v1=>cond (ltB v1 (a0.length:Int)) (abX (ix a0 v1) λx2=>cond (eqB x2 a1) (dn (ς ζ)) (ς (.next (WR (v1+1))))) (dn (ς η))
def Df(a0:List Int)(a1:Int):Option Bool:=
 iter (zF a0 a1) FU 0
instance sl10Has_c{a0:List Int}{r:Bool}:FC prog (Df a0 a1=ς r) 125 [aL (a0.map eI),aI a1] [.c (.d (.b r))]:=gG func125 ntmps125 (hl 0 5)
def ou(a0:an):(Int×Int)->Option (bN (Int×Int) (Int))
 |(v1,v2)=>cond (ltB v2 (a0.aG.length:Int)) (abX (ix a0.aG v2) λx5=>ς (.next (WR (v1+x5.dX),WR (v2+1)))) (ς (.done v1))
def ot(a0:an):Option Int:=
 abX (iter (ou a0) FU (0,0)) λ(v4:Int)=>ς v4
instance Rz{a0:an}{r:Int}:FC prog (ot a0=ς r) 205 [.agg (bu a0)] [.c (.d (.i .i64 r))]:=gG func205 ntmps205 (hm 0 3 4) (he 0 3 4)
def sR(a0:an)(a1:Int):Int->Option (bN (Int) (Int))
 |v1=>cond (ltB v1 (a0.aG.length:Int)) (abX (ix a0.aG v1) λx2=>cond (eqB x2.bi a1) (dn (ς v1)) (ς (.next (WR (v1+1))))) (dn (ς (-1)))
def EV(a0:an)(a1:Int):Option Int:=
 iter (sR a0 a1) FU 0
instance sl16Find_c{a0:an}{r:Int}:FC prog (EV a0 a1=ς r) 287 [.agg (bu a0),aI a1] [.c (.d (.i .i64 r))]:=gG func287 ntmps287 (hl 0 5)
def qt(a0:an)(a1:Int):Option Int:=
 abX (EV a0 a1) λr1=>cond (ltB r1 0) (ς 0) (abX (ix a0.aG r1) λx2=>ς x2.dX)
instance Vr{a0:an}{r:Int}:FC prog (qt a0 a1=ς r) 206 [.agg (bu a0),aI a1] [.c (.d (.i .i64 r))]:=gG func206 ntmps206
def AS(a0:ae)(a1:Int):Option (aH×ae):=
 abX (ix a0.ax a1) λx1=>cond (fD a0.ax 0 a1) (cond (fD a0.ax (WR (a1+1)) a0.ax.length) (cond (dH 176 (([]:List aH)++(a0.ax.take (a1).toNat)).length) (cond (dH 176 ((([]:List aH)++(a0.ax.take (a1).toNat))++(a0.ax.drop (WR (a1+1)).toNat)).length) (ς (x1,{a0 with ax:=((([]:List aH)++(a0.ax.take (a1).toNat))++(a0.ax.drop (WR (a1+1)).toNat))})) ξ) ξ) ξ) ξ
instance sl33Take_c{a0:ae}{r:aH×ae}:FCV prog (AS a0 a1=ς r) 130 (nS a0) [tP 200,tI a1] (nS r.2) (.v (.agg (kM [.t] (jh r.1)))) []:=⟨λH=>by
 refine fV func130 ntmps130 ?_
 refine aa H λx1 hx1 H=>di (Ff 193 (hne:=Uc (enc:=aW) hx1)) ?_
 refine nA (xwT hx1) ?_
 refine nA (oea (he:=lh _ hx1)) ?_
 refine zI [0,1,2,3,4,5,6,7,9,10,11,12,13,14,15,8,16,17,18,19] ?_
 obtain⟨hs3,H⟩:=rq H
 refine zA (W7 (enc:=aW) hs3 (by first|rfl|simp) rfl rfl rfl rfl) ?_
 obtain⟨hs4,H⟩:=rq H
 refine zA (W8 (enc:=aW) hs4 (by first|rfl|simp) rfl rfl rfl rfl) ?_
 obtain⟨h,H⟩:=rq H
 refine wA (apx (enc:=aW) (ys:=([]:List aH)) (zs:=a0.ax.take (a1).toNat) [212,193] h (hs:=Lz (enc:=aW) hs3 rfl)) ?_
 obtain⟨h,H⟩:=rq H
 refine wA (apx (enc:=aW) (ys:=(([]:List aH)++(a0.ax.take (a1).toNat))) (zs:=a0.ax.drop (WR (a1+1)).toNat) [213,193] h (hs:=GZ (enc:=aW) hs4 (by first|rfl|simp) rfl)) ?_
 refine wA (spx 100094) ?_
 refine zY (ds:=[212,213]) (by kernel_rfl) (by kernel_rfl) rfl ?_
 refine wI ?_
 cases H
 refine JE (Fe 193 214) ?_
 refine JE ((kD 193)) ?_
 exact ea⟩
def YD(a0:Int)(a1:Int):Option Int:=
 cond (ltB a1 a0) (ς a1) (ς a0)
instance sMin_c{a0:Int}{r:Int}:FC prog (YD a0 a1=ς r) 207 [aI a0,aI a1] [.c (.d (.i .i64 r))]:=gG func207 ntmps207
def oU(a0:bL)(a1:Int):Option Bool:=
 ς (eqB a1 a0.A2)
instance Nj{a0:bL}{r:Bool}:FC prog (oU a0 a1=ς r) 290 [.agg (fM a0),aI a1] [.c (.d (.b r))]:=gG func290 ntmps290
def gL(a0:aF)(a1:Int):(Int×List ab)->Option (bN (Int×List ab) (List ab))
 |(v2,v3)=>cond (ltB v2 (a0.aJ.length:Int)) (abX (ix a0.aJ v2) λx9=>abX (cond (leB a1 x9.cP) (abX (ix a0.aJ v2) λx11=>abX (ix a0.aJ v2) λx12=>cond (dH 1 (([]:List Int)++x12.bk).length) (cond (dH 32 (v3++[(⟨x11.cP,(([]:List Int)++x12.bk)⟩:ab)]).length) (ς (v3++[(⟨x11.cP,(([]:List Int)++x12.bk)⟩:ab)])) ξ) ξ) (ς v3)) λ(v10:List ab)=>ς (.next (WR (v2+1),v10))) (ς (.done v3))
def jZ(a0:aF)(a1:Int):Option aF:=
 abX (rY a0) λr1=>cond (ltB a0.bK a1) (ς r1) (abX (iter (gL a0 a1) FU (0,([]:List ab))) λ(v8:List ab)=>ς (⟨r1.bK,v8⟩:aF))
instance L5{a0:aF}{r:aF}:FC prog (jZ a0 a1=ς r) 293 [.agg (eA a0),aI a1] [.agg (qM [.o] (dW r))]:=⟨λH=>by
 refine fI func293 ntmps293 ?_
 refine aa H λr1 q1 H=>nA (ca (hF:=IQ.h q1)) ?_
 refine cC H ?_ ?_<;>intro H
 .exact ao H
 refine aa H λv8 Hj H=>jB ⟨[(4,tP 1),(5,tP 3)],(oM [.w 4] 3 137 (dW (⟨r1.bK,v8⟩:aF))++[(1,.var 137 (kM [.z] (dW qC)))]),5⟩ ?_ ?_
 .refine iT Hj (λq=>⟨[(1,tI a1),(2,tP 0),(4,tP 1),(5,tP 3),(6,tI q.1)],(oM [.w 4] 3 137 (dW (⟨r1.bK,q.2⟩:aF))++[(0,.var 137 (kM [.f] (dW a0))),(1,.var 137 (kM [.z] (dW qC)))]),5⟩) ?_ (by refine bv (wB 4 (([]:List ab).length)) ?_;exact wo)
  rintro⟨v2,v3⟩ o H
  refine ad ?_
  refine cC H ?_ ?_<;>intro H
  .refine aa H λx9 hx9 H=>nA (xdT (enc:=ah) hx9) ?_
   refine aa H λv10 Hj H=>jA ⟨[(1,tI a1),(2,tP 0),(4,tP 1),(5,tP 3),(6,tI v2)],(oM [.w 4] 3 137 (dW (⟨r1.bK,v10⟩:aF))++[(0,.var 137 (kM [.f] (dW a0))),(1,.var 137 (kM [.z] (dW qC)))]),5⟩ ?_ ?_
   .refine cC Hj ?_ ?_<;>intro H
    .refine zI (List.range 21) ?_
     refine aa H λx11 hx11 H=>zA (xdT (enc:=ah) hx11) ?_
     refine aa H λx12 hx12 H=>zA (xdT (enc:=ah) hx12) ?_
     obtain⟨h,H⟩:=rq H
     refine wA (NT (enc:=eU8) (ys:=([]:List Int)) (zs:=x12.bk) [5] h) ?_
     obtain⟨h,H⟩:=rq H
     refine CR (ds:=[5]) (by kernel_rfl) (by kernel_rfl) rfl (by kernel_rfl) eG (yL rfl (apT (enc:=ah) (ys:=v3) (zs:=[(⟨x11.cP,(([]:List Int)++x12.bk)⟩:ab)]) h)) eG rfl ?_
     refine wI ?_
     refine wA (spx 100120) ?_
     exact ai H
    exact ai H
   exact aN H
  exact aE H
 cases H
 exact jK⟩
def tp(a0:Int):Option eu:=
 ς (⟨[1,3,a0]⟩:eu)
instance Sj{a0:Int}{r:eu}:FC prog (tp a0=ς r) 340 [aI a0] [.agg [.own 3 1 (r.Steps.map eI) r.Steps.length]]:=gG func340 ntmps340
end Go.AM
