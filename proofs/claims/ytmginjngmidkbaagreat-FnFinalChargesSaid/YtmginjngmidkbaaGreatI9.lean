/- A part. -/
import Derived.Test.YtmginjngmidkbaaGreatI8
set_option linter.unusedVariables false
open Option renaming bind->abU
namespace Go.AM
open Go.Proofs
open Tryz
attribute [local irreducible] AWN NS AWO AWR AWC DR DZ dS gp iter
set_option maxRecDepth 100000
set_option maxHeartbeats 40000000
def jS (a0:bH) (a1:Int):(Int×Int×Int)->Option (ct (Int×Int×Int) (Int))
 |(v2,v3,v4)=>bif ltB v4 a0.fx then(abU (qq a0 v4) λr10=>bif !r10 then(some (.next (v2,v3,WR (v4+1)))) else(abU (lk v4 a1) λr11=>abU (bif ltB v3 r11 then(some (v4,r11)) else(some (v2,v3))) λ((v12,v13):Int×Int)=>some (.next (v12,v13,WR (v4+1))))) else(some (.done v2))
def mQ (a0:bH) (a1:Int):Option Int:=
 abU (kn a0) λr1=>bif !r1 then(some (-1)) else(abU (iter (jS a0 a1) FU (-1,-1,0)) λ(v9:Int)=>some v9)
instance SA {a0:bH} {a1:Int} {r:Int}:FC prog (mQ a0 a1=some r) 158 [.agg (je a0),aI a1] [.c (.d (.i .i64 r))]:=gF func158 ntmps158 (hL 0 (λ(v:Int×Int×Int) sl ob nx=>⟨(5,tI v.1)::(6,tI v.2.1)::(7,tI v.2.2)::sl,ob,nx⟩)) (hB 0 (λ(v:Int) sl ob nx=>⟨(5,tI v)::(6,.any)::(7,.any)::sl,ob,nx⟩)) (hC 27 (λ(v:Int×Int) sl ob nx=>⟨(5,tI v.1)::(6,tI v.2)::sl,ob,nx⟩))
def lp (a0:ab) (r4:bH):(Int×List ah)->Option (ct (Int×List ah) (List ah))
 |(v5,v6)=>bif ltB v5 (a0.aF.length:Int) then(abU (mQ a0.ev v5) λr14=>abU (mQ r4 v5) λr15=>abU (bif !eqB r14 r15 then(abU (ix v6 v5) λx17=>abU (yT x17) λr18=>abU (ix v6 v5) λx19=>some (v6.set (v5).toNat r18)) else(some v6)) λ(v16:List ah)=>some (.next (WR (v5+1),v16))) else(some (.done v6))
def sT (a0:ab) (a1:dN):Option (Bool×ab):=
 abU (cf a1.cB 0 (WR (a0.ev.fx-1))) λr1=>abU (bif !r1 then(some true) else(abU (qq a0.ev a1.cB) λr3=>some (booB r3 (eqB a1.bh 12)))) λ(v2:Bool)=>bif v2 then(some (false,a0)) else(abU (rz a0.ev a1.cB (eqB a1.bh 12)) λr4=>bif eqB r4.fB 0 then(some (false,a0)) else(abU (iter (lp a0 r4) FU (0,a0.aF)) λ(v13:List ah)=>some (true,{a0 with aF:=v13,ev:=r4})))
def NE (a0:ab) (a1:bS):Option (Bool×ab):=
 abU (bif leB 200 (a0.aT.length:Int) then(some true) else(abU (cf a1.bm 0 (WR ((a0.av.length:Int)-1))) λr2=>bif !r2 then(some true) else(abU (lr a0.ei a1.bg) λr3=>some (!r3)))) λ(v1:Bool)=>bif v1 then(some (false,a0)) else(abU (qy a0 a1) λr4=>some (true,r4))
def CU (a0:ab) (a1:dN):Option (Bool×ab):=
 bif eqB a1.bh 1 then(abU (LB a0) λr1=>some (r1.1,r1.2)) else(abU (bif eqB a1.bh 2 then(some (eqB a1.bh 2)) else(abU (bif eqB a1.bh 3 then(some (eqB a1.bh 3)) else(some (eqB a1.bh 4))) λ(v3:Bool)=>some v3)) λ(v2:Bool)=>bif v2 then(abU (sS a0 a1) λr4=>some (r4.1,r4.2)) else(abU (bif eqB a1.bh 5 then(some (eqB a1.bh 5)) else(abU (bif eqB a1.bh 6 then(some (eqB a1.bh 6)) else(abU (bif eqB a1.bh 7 then(some (eqB a1.bh 7)) else(some (eqB a1.bh 8))) λ(v7:Bool)=>some v7)) λ(v6:Bool)=>some v6)) λ(v5:Bool)=>bif v5 then(abU (nJ a0 a1) λr8=>some (r8.1,r8.2)) else(abU (bif eqB a1.bh 9 then(some (eqB a1.bh 9)) else(some (eqB a1.bh 10))) λ(v9:Bool)=>bif v9 then(abU (wh a0 a1) λr10=>some (r10.1,r10.2)) else(abU (bif eqB a1.bh 11 then(some (eqB a1.bh 11)) else(some (eqB a1.bh 12))) λ(v11:Bool)=>bif v11 then(abU (sT a0 a1) λr12=>some (r12.1,r12.2)) else(bif eqB a1.bh 13 then(abU (NE a0 a1.b8) λr13=>some (r13.1,r13.2)) else(some (false,a0)))))))
def sP (a1:Int):(Int×ab)->Option (ct (Int×ab) (ab))
 |(v5,v16)=>bif ltB v5 a1 then(abU (LB v16) λr30=>abU (qa r30.2 4000) λr31=>some (.next (WR (v5+1),r31))) else(some (.done v16))
def Bd (a0:ab) (a1:Int):Option ab:=
 abU (rE a0) λr1=>abU (kC a0) λr2=>abU (bif !r2 then(some true) else(abU (cf a1 0 200) λr4=>some (!r4))) λ(v3:Bool)=>bif v3 then(some r1) else(abU (iter (sP a1) FU (0,r1)) λ(v29:ab)=>some v29)
instance iRounds_c {a0:ab} {a1:Int} {r:ab}:FC prog (Bd a0 a1=some r) 48 [.agg (gv a0),aI a1] [.agg (qM [.d,.o,.o,.o,.o] (bw r))]:=⟨λH=>by
 refine fI func48 ntmps48 ?_
 refine aa H λr1 q1 H=>nA (ca (hF:=E9.h q1)) ?_
 refine aa H λr2 q2 H=>nA (ca (hF:=Ba.h q2)) ?_
 refine aa H λv3 Hj H=>jR ⟨[(1,tI a1),(4,tP 1),(5,tP 7),(16,tB v3)],(oM [.w 2,.w 3,.w 4,.w 5,.w 6] 7 34 (bw r1)++[(1,.var 34 (kM [.z,.z,.z,.z,.z] (bw {dV with ei:=(⟨[]⟩:aS)})))]),8⟩ ?_ ?_
 .refine gC Hj ?_ ?_<;>intro H
  .exact ai H
  refine aa H λr4 q4 H=>nG (ca (hF:=iK.h q4)) ?_
  exact ai H
 refine cC H ?_ ?_<;>intro H
 .cases H
  refine dR (aV (o:=2)) ?_
  refine dR (cz (o:=1)) ?_
  exact bX
 refine aa H λv29 Hj H=>jB ⟨[(4,tP 1),(5,tP 7)],(oM [.t,.w 3,.w 4,.w 5,.w 6] 7 34 (bw v29)++[(1,.var 34 (kM [.z,.z,.z,.z,.z] (bw {dV with ei:=(⟨[]⟩:aS)})))]),8⟩ ?_ ?_
 .refine iT Hj (λq=>⟨[(1,tI a1),(4,tP 1),(5,tP 7),(6,tI q.1)],(oM [.t,.w 3,.w 4,.w 5,.w 6] 7 34 (bw q.2)++[(1,.var 34 (kM [.z,.z,.z,.z,.z] (bw {dV with ei:=(⟨[]⟩:aS)})))]),8⟩) ?_ (by refine an (aV (o:=2)) ?_;refine an (cz (o:=7)) ?_;exact wo)
  rintro⟨v5,v16⟩ o H
  refine ad ?_
  refine cC H ?_ ?_<;>intro H
  .refine aa H λr30 q30 H=>sA (cwu [(190,3),(191,4),(192,5),(193,6),(200,7)] [] 8 (Xz q30)) ?_
   refine aa H λr31 q31 H=>sA (cwu [(190,3),(191,4),(192,5),(193,6),(200,7)] [] 8 (Dw q31)) ?_
   exact aN H
  exact aE H
 cases H
 exact bX⟩
def Js (a0:ab):Option ab:=
 abU (Bd a0 80) λr1=>some r1
instance iSettle_c {a0:ab} {r:ab}:FC prog (Js a0=some r) 16 [.agg (gv a0)] [.agg (qM [.d,.o,.o,.o,.o] (bw r))]:=gF func16 ntmps16
end Go.AM
