/- A part. -/
import Derived.Test.YtgbcdgihmgapeaaGreatG
set_option linter.unusedVariables false
open Option renaming some->ς,none->ξ
open Bool renaming true->ζ,false->η
open True renaming intro->θ
open Option renaming bind->abd
namespace Go.AM
open Go.Proofs
open Tryz
attribute [local irreducible] AWN NS AWO AWR AWC DR DZ cB eZ iter
set_option maxRecDepth 100000
set_option maxHeartbeats 40000000
def tv(a0:bK):Option bK:=
 cond (cW 8 (([]:List Int)++a0.bJ).length) (ς {a0 with bJ:=(([]:List Int)++a0.bJ)}) ξ
instance YP{a0:bK}{r:bK}:FC prog (tv a0=ς r) 45 [.agg (lQ a0)] [.agg (qM [.o] (qc r))]:=gG func45 ntmps45
def yU(a0:aD):Option aD:=
 cond (cW 1 (([]:List Int)++a0.bz.bb).length) (ς {a0 with bz:={a0.bz with bb:=(([]:List Int)++a0.bz.bb)}}) ξ
instance YI{a0:aD}{r:aD}:FC prog (yU a0=ς r) 48 [.agg (d4 a0)] [.agg (qM [.o] (sE r))]:=gG func48 ntmps48
def qI(a0:bT):Option bT:=
 abd (yU a0.cz) λr1=>ς {a0 with cz:=r1}
instance yV{a0:bT}{r:bT}:FC prog (qI a0=ς r) 29 [.agg (eU a0)] [.agg (qM [.o] (yc r))]:=gG func29 ntmps29
def gz(a0:ab)(a1:bT):Option ab:=
 cond (leB 200 (a0.aZ.length:Int)) (ς {a0 with jM:=WR (a0.jM+1)}) (abd (qI a1) λr1=>cond (cW 176 (a0.aZ++[r1]).length) (ς {a0 with aZ:=(a0.aZ++[r1])}) ξ)
instance K0{a0:ab}{a1:bT}{r:ab}:FCV prog (gz a0 a1=ς r) 59 (nS a0) [tP 200,.v (.agg (kM [.t] (yc a1)))] (nS r) (.tup []) []:=⟨λH=>by
 refine fV func59 ntmps59 ?_
 refine cC H ?_ ?_<;>intro H
 .cases H
  exact dK
 refine Ux 0 18 0 [1,2,3,4,5,6,7,8,9,10,11] Try.follows (by kernel_rfl) (by kernel_rfl) rfl (by kernel_rfl) rfl rfl ?_
 refine wI ?_
 refine aa H λr1 q1 H=>zA (ca (hF:=(yV.h q1).frzs (by repeat (first|exact θ|refine⟨?_,?_⟩|exact lm _|rfl)))) ?_
 obtain⟨h,H⟩:=rq H
 refine zB cr (jP rfl (GU (enc:=eU) (ys:=a0.aZ) (zs:=[r1]) h (by first|exact List.cons_ne_nil _ _|simp) rfl (λ_=>rfl) (by first|rfl|simp) (.w rfl (by first|rfl|exact lm _|simp)) rfl rfl rfl rfl rfl rfl rfl rfl rfl rfl)) cr ?_
 refine wA (spx 100096) ?_
 cases H
 refine ci ((gA 193)) ?_
 exact Hs⟩
def ka(a1:Int)(a2:Bool)(a3:List aM):(Int×ab)->Option (ct (Int×ab) (ab))
 |(v1,v12)=>cond (ltB v1 (a3.length:Int)) (abd (ix a3 v1) λx27=>abd (ix a3 v1) λx28=>abd (gz v12 (⟨a1,a2,η,x27.bv,x28,fj⟩:bT)) λr29=>ς (.next (WR (v1+1),r29))) (ς (.done v12))
def jZ(a0:ab)(a1:Int)(a2:Bool)(a3:List aM):Option ab:=
 abd (iter (ka a1 a2 a3) FU (0,a0)) λ(v26:ab)=>ς v26
instance Up{a0:ab}{a1:Int}{a2:Bool}{a3:List aM}{r:ab}:FCV prog (jZ a0 a1 a2 a3=ς r) 88 (nS a0) [tP 200,tI a1,tB a2,.v (.c (.d ζ (.l (a3.map eB))))] (nS r) (.tup []) []:=gV func88 ntmps88 (hL 0 (λ(v:Int×ab) sl ob nx=>⟨(8,tI v.1)::xS [193,192,191,190] sl,nS v.2++ob,nx⟩)) (hB 0 (λ(v:ab) sl ob nx=>⟨(8,.any)::xS [193,192,191,190] sl,nS v++ob,nx⟩)) (hz 3)
def ic(a0:ab)(a1:Int)(a2:bj):Option ab:=
 abd (ix a0.aj a1) λx1=>abd (jZ {a0 with aj:=(a0.aj.set (a1).toNat a2.bA)} a1 ζ a2.dF) λr2=>ς r2
instance V8{a0:ab}{a1:Int}{a2:bj}{r:ab}:FCV prog (ic a0 a1 a2=ς r) 85 (nS a0) [tP 200,tI a1,.v (.agg (kM [.t,.t,.t] (eb a2)))] (nS r) (.tup []) []:=gV func85 ntmps85 (hz 1)
def ud(a0:List aJ)(a1:Int):Int->Option (ct (Int) (Int))
 |v1=>abd (cond (ltB v1 (a0.length:Int)) (abd (ix a0 v1) λx6=>ς (ltB x6.aA a1)) (ς η)) λ(v5:Bool)=>cond v5 (ς (.next (WR (v1+1)))) (ς (.done v1))
def AZ(a0:List aJ)(a1:Int)(a2:Int):Option (List aJ):=
 abd (iter (ud a0 a1) FU 0) λ(v4:Int)=>abd (cond (ltB v4 (a0.length:Int)) (abd (ix a0 v4) λx8=>ς (eqB x8.aA a1)) (ς η)) λ(v7:Bool)=>cond v7 (cond (cW 16 (([]:List aJ)++a0).length) (abd (ix (([]:List aJ)++a0) v4) λx9=>abd (ix (([]:List aJ)++a0) v4) λx10=>ς ((([]:List aJ)++a0).set (v4).toNat (⟨x10.aA,WR (x9.dO+a2)⟩:aJ))) ξ) (cond (fH a0 0 v4) (cond (fH a0 v4 a0.length) (cond (cW 16 (([]:List aJ)++(a0.take (v4).toNat)).length) (cond (cW 16 ((([]:List aJ)++(a0.take (v4).toNat))++[(⟨a1,a2⟩:aJ)]).length) (cond (cW 16 (((([]:List aJ)++(a0.take (v4).toNat))++[(⟨a1,a2⟩:aJ)])++(a0.drop (v4).toNat)).length) (ς (((([]:List aJ)++(a0.take (v4).toNat))++[(⟨a1,a2⟩:aJ)])++(a0.drop (v4).toNat))) ξ) ξ) ξ) ξ) ξ)
instance sl16Add_c{a0:List aJ}{a1:Int}{a2:Int}{r:List aJ}:FC prog (AZ a0 a1 a2=ς r) 222 [aL (a0.map b9),aI a1,aI a2] [.c (.own 170 2 (r.map b9) r.length)]:=⟨λH=>by
 refine fI func222 ntmps222 ?_
 refine aa H λv4 Hj H=>jB ⟨[(0,.v (.c (.d η (.l (a0.map b9))))),(1,tI a1),(2,tI a2),(7,tI v4)],[],0⟩ ?_ ?_
 .refine iT Hj (λq=>⟨[(0,.v (.c (.d η (.l (a0.map b9))))),(1,tI a1),(2,tI a2),(7,tI q)],[],0⟩) ?_
  rintro v1 o H
  refine ad ?_
  refine aa H λv5 Hj H=>jR ⟨[(0,.v (.c (.d η (.l (a0.map b9))))),(1,tI a1),(2,tI a2),(7,tI v1),(21,tB v5)],[],0⟩ ?_ ?_
  .refine gC Hj ?_ ?_<;>intro H
   .refine aa H λx6 hx6 H=>nG (xdT (enc:=b9) hx6) ?_
    exact ai H
   exact ai H
  refine cC H ?_ ?_<;>intro H
  .exact aN H
  exact aE H
 refine aa H λv7 Hj H=>jR ⟨[(0,.v (.c (.d η (.l (a0.map b9))))),(1,tI a1),(2,tI a2),(7,tI v4),(36,tB v7)],[],0⟩ ?_ ?_
 .refine gC Hj ?_ ?_<;>intro H
  .refine aa H λx8 hx8 H=>nG (xdT (enc:=b9) hx8) ?_
   exact ai H
  exact ai H
 refine cC H ?_ ?_<;>intro H
 .obtain⟨h,H⟩:=rq H
  refine iu rfl (apT (enc:=b9) (ys:=([]:List aJ)) (zs:=a0) h) ?_
  refine aW (tC (enc:=b9) (o:=0)) ?_
  refine aa H λx9 hx9 H=>nA (xwT hx9) ?_
  refine nA (oe (he:=gk _ hx9)) ?_
  refine aa H λx10 hx10 H=>nA (xwT hx10) ?_
  refine sA (soT (enc:=b9) (a':=(⟨x10.aA,WR (x9.dO+a2)⟩:aJ)) hx10) ?_
  exact ao H
 refine zI [0,1,2,3,5,6,7,8,10,11,12,4,9,13,14] ?_
 obtain⟨h,H⟩:=rq H
 refine zA (cdhT (enc:=b9) h (λ_=>rfl) rfl rfl rfl) ?_
 obtain⟨h,H⟩:=rq H
 refine zA (UB (enc:=b9) h (λ_=>rfl) rfl rfl rfl) ?_
 obtain⟨h,H⟩:=rq H
 refine wA (E5 (enc:=b9) (ys:=([]:List aJ)) (zs:=a0.take (v4).toNat) [0] h) ?_
 obtain⟨h,H⟩:=rq H
 refine wA (E5 (enc:=b9) (ys:=(([]:List aJ)++(a0.take (v4).toNat))) (zs:=[(⟨a1,a2⟩:aJ)]) [2,1] h) ?_
 obtain⟨h,H⟩:=rq H
 refine wA (E5 (enc:=b9) (ys:=((([]:List aJ)++(a0.take (v4).toNat))++[(⟨a1,a2⟩:aJ)])) (zs:=a0.drop (v4).toNat) [3] h) ?_
 refine oZ (ds:=[0,2,3]) (by kernel_rfl) (by kernel_rfl) rfl ?_
 refine wI ?_
 cases H
 exact kn⟩
def rA(a0:aF)(a1:bK)(a2:Int):Option ah:=
 abd (tv a1) λr1=>ς {EL with bH:=a0,ip:=r1,ax:=(⟨1,[]⟩:bu),bV:={Ns with aA:=a2}}
instance Uj{a0:aF}{a1:bK}{a2:Int}{r:ah}:FC prog (rA a0 a1 a2=ς r) 115 [.agg (dR a0),.agg (lQ a1),aI a2] [.agg (qM [.o,.z,.z] (eC r))]:=gG func115 ntmps115 (hz 1)
def yS(a0:List Int)(a1:Int):Option Int:=
 cond (ltB a1 (WR (3+(WR (Int.tdiv (a0.length:Int) 12))))) (ς a1) (ς (WR (3+(WR (Int.tdiv (a0.length:Int) 12)))))
instance O5{a0:List Int}{a1:Int}{r:Int}:FC prog (yS a0 a1=ς r) 13 [aL (a0.map eU8),aI a1] [.c (.d (.i .i64 r))]:=gG func13 ntmps13
end Go.AM
