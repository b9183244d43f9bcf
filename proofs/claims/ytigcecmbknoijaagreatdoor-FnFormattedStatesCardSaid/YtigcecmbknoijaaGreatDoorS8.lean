/- A part. -/
import Derived.Test.YtigcecmbknoijaaGreatDoorS1
import Derived.Test.YtigcecmbknoijaaGreatDoorS2
import Derived.Test.YtigcecmbknoijaaGreatDoorS3
import Derived.Test.YtigcecmbknoijaaGreatDoorS4
set_option linter.unusedVariables false
open Option renaming some->ς,none->ξ
open Bool renaming true->ζ,false->η
open True renaming intro->θ
open Option renaming bind->ZS
namespace Go.AM
open Go.Proofs
open Tryz
attribute [local irreducible] AWN NS AWO AWR AWC DR DZ cM eN iter
set_option maxRecDepth 100000
set_option maxHeartbeats 40000000
variable{r:Bool}{a1:Int}
def y9:(Int×List bV×aj)->Option (cH (Int×List bV×aj) (List bV×aj))
 |(v2,v6,v7)=>cond (ltB 0 v2) (ZS (a9 v7 4) λr16=>ZS (a9 r16.2 4) λr17=>ZS (a9 r17.2 50) λr18=>cond (cN 24 (v6++[(⟨r16.1,r17.1,r18.1⟩:bV)]).length) (ς (.next (WR (v2-1),(v6++[(⟨r16.1,r17.1,r18.1⟩:bV)]),r18.2))) ξ) (ς (.done (v6,v7)))
def wE(a0:aj):Option (List bV×aj):=
 ZS (a9 a0 6) λr1=>ZS (iter (y9) FU (r1.1,([]:List bV),r1.2)) λ((v14,v15):List bV×aj)=>ZS (fD v15 8) λr19=>ZS (cond r19.1 (ZS (fg r19.2 [-1,4]) λr25=>cond (cN 24 (v14++[(⟨r25.1,0,5⟩:bV)]).length) (ς ((v14++[(⟨r25.1,0,5⟩:bV)]),r25.2)) ξ) (ς (v14,r19.2))) λ((v23,v24):List bV×aj)=>ς (v23,v24)
instance IM{a0:aj}{r:List bV×aj}:FCW prog (wE a0=ς r) 49 (.var 115 (kM [.f] (aO a0))) [tP 200] (.var 115 (kM [.f] (aO r.2))) [.c (.own 32 3 (r.1.map fH) r.1.length)]:=gW func49 ntmps49 (hL 0 (λ(v:Int×List bV×aj) sl ob nx=>⟨(3,.v (.c (.w 210 v.2.1.length)))::(4,tI v.1)::xS [210] sl,[(200,.var 115 (kM [.f] (aO v.2.2))),(210,w32 v.2.1)]++ob,nx⟩)) (hB 0 (λ(v:List bV×aj) sl ob nx=>⟨(3,.v (.c (.w 210 v.1.length)))::(4,.any)::xS [210] sl,[(200,.var 115 (kM [.f] (aO v.2))),(210,w32 v.1)]++ob,nx⟩)) (hC 23 (λ(v:List bV×aj) sl ob nx=>⟨(3,.v (.c (.w 210 v.1.length)))::xS [210] sl,[(200,.var 115 (kM [.f] (aO v.2))),(210,w32 v.1)]++ob,nx⟩))
def lX(a0:List Int):Option (List bV):=
 ZS (rV a0) λr1=>ZS (wE r1) λr2=>ς r2.1
instance Is{a0:List Int}{r:List bV}:FC prog (lX a0=ς r) 28 [aL (a0.map eU8)] [.c (.own 32 3 (r.map fH) r.length)]:=⟨λH=>by
 refine fI func28 ntmps28 ?_
 refine aa H λr1 q1 H=>nA (cn (sS q1) rfl rfl trivial rfl rfl rfl) ?_
 refine aa H λr2 q2 H=>sA (cw (o:=0) (IM.h q2)) ?_
 cases H
 exact dK⟩
def kv(a0:List Int):Option (List bV):=
 ZS (lX a0) λr1=>ς r1
instance Gb{a0:List Int}{r:List bV}:FC prog (kv a0=ς r) 7 [aL (a0.map eU8)] [.c (.own 32 3 (r.map fH) r.length)]:=gG func7 ntmps7
def ge(a0:Int)(a1:Int)(a2:Int):Option cY:=
 ZS (cU a2 0 999999) λr1=>cond (!r1) (ς c8) (ZS (lu a0 a1) λr2=>ZS (Aw (WR (a2+r2)) 1000000) λr3=>ZS (eF a0 [2,a1,a2]) λr4=>ZS (eF a0 [3,a1]) λr5=>ZS (eF a0 [4,a1,a2]) λr6=>ZS (Cr 1 r6) λr7=>ς (⟨a1,r3,r4,r5,r7⟩:cY))
instance Od{a0:Int}{a2:Int}{r:cY}:FC prog (ge a0 a1 a2=ς r) 80 [aI a0,aI a1,aI a2] [.agg (qM [] (mD r))]:=gG func80 ntmps80
def lg(a0:lj)(a1:cY):Option (lj×oc):=
 ZS (mT a0) λr1=>cond (!r1) (ς (a0,{kF with Code:=1})) (ZS (lv a0.gS a0.dq a1) λr2=>cond (eqB r2 0) (ZS (jH a0.gS a1.fT a1.ji) λr3=>ZS (eF a0.gS [3,a1.fT]) λr4=>ZS (ge a0.gS a1.fT r3) λr5=>ς ({a0 with dq:=r3},{kF with uH:=r4,xp:=r5.gS})) (ZS (cond (eqB r2 2) (ς (eqB r2 2)) (ς (eqB r2 3))) λ(v6:Bool)=>cond v6 (ZS (px a0.gS a1.fT a0.dq) λr7=>ς (a0,{kF with Code:=r2,Vs:=r7})) (ς (a0,{kF with Code:=r2}))))
instance GM{a0:lj}{a1:cY}{r:lj×oc}:FC prog (lg a0 a1=ς r) 168 [.agg (Jx a0),.agg (tz a1)] [.agg (qM [] (JA r.1)),.agg (qM [] (BJ r.2))]:=gG func168 ntmps168 (hz 9) (hc 48 48) (hz 12)
def zZ(a0:Int)(a1:bC):Option Int:=
 ZS (pm a1.bm) λr1=>cond (cN 8 ([a1.dQ,a1.eJ]++r1).length) (ZS (eF a0 ([a1.dQ,a1.eJ]++r1)) λr2=>ς r2) ξ
instance sl8Mac_c{a0:Int}{a1:bC}{r:Int}:FC prog (zZ a0 a1=ς r) 178 [aI a0,.agg (gN a1)] [.c (.d (.i .i64 r))]:=⟨λH=>by
 refine fI func178 ntmps178 ?_
 refine zI (List.range 12) ?_
 refine aa H λr1 q1 H=>zA (ca (hF:=Cn.h q1)) ?_
 obtain⟨h,H⟩:=rq H
 refine wA (Db (enc:=eI) (ys:=[a1.dQ,a1.eJ]) (zs:=r1) [1,2] h) ?_
 refine aa H λr2 q2 H=>zA (ca (hF:=Gf.h q2)) ?_
 refine lA (ds:=[1]) (by kernel_rfl) (by kernel_rfl) rfl ?_
 refine wI ?_
 cases H
 exact dK⟩
def qp(a0:Int)(a1:bC):Option Bool:=
 ZS (zZ a0 a1) λr1=>ς (eqB a1.kf r1)
instance UZ{a0:Int}{a1:bC} :FC prog (qp a0 a1=ς r) 210 [aI a0,.agg (gN a1)] [.c (.d (.b r))]:=gG func210 ntmps210
def oY(a0:aP)(a1:Int):Option (aP×cY):=
 ZS (ey a0) λr1=>ZS (cond (!r1) (ς ζ) (ς (eqB a0.c9 999999))) λ(v2:Bool)=>cond v2 (ς (a0,c8)) (ZS (ge a0.gS a1 (WR (a0.c9+1))) λr3=>ς ({a0 with c9:=WR (a0.c9+1)},r3))
instance Mt{a0:aP}{r:aP×cY}:FC prog (oY a0 a1=ς r) 141 [.agg (eD a0),aI a1] [.agg (qM [] (pZ r.1)),.agg (qM [] (mD r.2))]:=gG func141 ntmps141 (hb 10 14) (hz 5)
def wF(a0:aj):Option (cY×aj):=
 ZS (o5 a0) λr1=>ZS (a9 r1.2 50) λr2=>ZS (Gs r2.2) λr3=>ZS (ge r1.1 r2.1 r3.1) λr4=>ZS (a9 r3.2 8) λr5=>ZS (cond (eqB r5.1 0) (ZS (ud r5.2) λr16=>ς (r16.2,{r4 with kf:=r16.1})) (ZS (cond (eqB r5.1 1) (ZS (fg r5.2 [WR (r4.ji+1),-1,1000000,WR (r4.ji+1000000)]) λr24=>ς (r24.2,{r4 with ji:=r24.1})) (ZS (cond (eqB r5.1 2) (ς (WR (r4.fT+1))) (ς r4.fT)) λ(v25:Int)=>ς (r5.2,{r4 with fT:=v25}))) λ((v22,v23):aj×cY)=>ς (v22,v23))) λ((v14,v15):aj×cY)=>ς (v15,v14)
instance V0{a0:aj}{r:cY×aj}:FCW prog (wF a0=ς r) 214 (.var 115 (kM [.f] (aO a0))) [tP 200] (.var 115 (kM [.f] (aO r.2))) [.agg (qM [] (mD r.1))]:=gW func214 ntmps214 (hC 17 (λ(v:aj×cY) sl ob nx=>⟨sl,[(200,.var 115 (kM [.f] (aO v.1))),(211,.var 68 (kM [] (mD v.2)))]++ob,nx⟩)) (hC 22 (λ(v:aj×cY) sl ob nx=>⟨sl,[(200,.var 115 (kM [.f] (aO v.1))),(211,.var 68 (kM [] (mD v.2)))]++ob,nx⟩)) (hC 34 (λ(v:Int) sl ob nx=>⟨sl,uC 211 0 [.d η (.i .i64 v)] ob,nx⟩))
def jQ(a0:ah):Int->Option (cH (Int) (Bool))
 |v5=>cond (ltB v5 (a0.aK.aM.length:Int)) (ZS (ix a0.aK.aM v5) λx6=>ZS (ix a0.aU (WR (x6.c9-1))) λx7=>ZS (oF x6.bm x7.bm) λr8=>cond (!r8) (dn (ς η)) (ς (.next (WR (v5+1))))) (dn (ZS (mq a0.aK.aM) λr9=>ZS (ik a0.ci) λr10=>ς (leB r9 r10)))
def ox(a0:ah):Int->Option (cH (Int) (Bool))
 |v1=>cond (ltB v1 (a0.aU.length:Int)) (ZS (ix a0.aU v1) λx2=>cond (ltB 60 (x2.bm.length:Int)) (dn (ς η)) (ς (.next (WR (v1+1))))) (dn (ZS (cond (ltB 24 (a0.aU.length:Int)) (ς ζ) (ZS (kw a0.aK) λr4=>cond (!r4) (ς ζ) (ς (ltB (WR ((a0.aU.length:Int)+1)) a0.aK.bF)))) λ(v3:Bool)=>cond v3 (ς η) (iter (jQ a0) FU 0)))
def t9(a0:ah):Option Bool:=
 iter (ox a0) FU 0
instance U8{a0:ah} :FC prog (t9 a0=ς r) 244 [.agg (cQ a0)] [.c (.d (.b r))]:=gG func244 ntmps244 (hl 0 3) (hb 25 40) (hl 2 4)
def jG(a0:ah):Option Bool:=
 ZS (cond (eqB a0.bB 1) (ZS (gI a0.bj) λr2=>cond (!r2) (ς ζ) (cond (ltB 0 a0.bO) (ZS (gI a0.aA.gS) λr3=>cond (!r3) (ς ζ) (ZS (cU a0.bB 0 1) λr4=>ς (!r4))) (ZS (cU a0.bB 0 1) λr5=>ς (!r5)))) (cond (ltB 0 a0.bO) (ZS (gI a0.aA.gS) λr6=>cond (!r6) (ς ζ) (ZS (cU a0.bB 0 1) λr7=>ς (!r7))) (ZS (cU a0.bB 0 1) λr8=>ς (!r8)))) λ(v1:Bool)=>cond v1 (ς η) (ZS (ey a0.b7) λr9=>ZS (cond (!r9) (ς ζ) (ZS (ga a0.jj) λr11=>cond (!r11) (ς ζ) (ZS (mS a0.jn) λr12=>cond (!r12) (ς ζ) (ZS (gJ a0.ci) λr13=>cond (!r13) (ς ζ) (ZS (t9 a0) λr14=>ς (!r14)))))) λ(v10:Bool)=>cond v10 (ς η) (ZS (cU a0.bO 0 999999) λr15=>ZS (cond (!r15) (ς ζ) (ZS (cU a0.ag 0 999999) λr17=>cond (!r17) (ς ζ) (ZS (cU a0.aZ 0 999999) λr18=>cond (!r18) (ς ζ) (ZS (cU a0.bj 0 2147483646) λr19=>ς (!r19))))) λ(v16:Bool)=>cond v16 (ς η) (ZS (cU a0.bg 0 5) λr20=>ZS (cond r20 (ZS (cU a0.eg 0 5) λr22=>cond r22 (ZS (cU a0.d9 0 3) λr23=>ς r23) (ς η)) (ς η)) λ(v21:Bool)=>ς v21)))
instance Ms{a0:ah} :FC prog (jG a0=ς r) 233 [.agg (cQ a0)] [.c (.d (.b r))]:=gG func233 ntmps233 (hb 6 29) (hb 34 56) (hb 61 78) (hb 82 2)
def vK(a0:ah):Option Bool:=
 ZS (cond (!eqB a0.bB 1) (ς ζ) (ZS (jG a0) λr2=>ς (!r2))) λ(v1:Bool)=>ς v1
instance CL{a0:ah} :FC prog (vK a0=ς r) 219 [.agg (cQ a0)] [.c (.d (.b r))]:=gG func219 ntmps219 (hb 6 2)
def mW(a0:ah)(a1:Int):Option Int:=
 ZS (mV a0) λr1=>ZS (ik a0.ci) λr2=>ZS (Cr 0 (WR ((WR (r1+a1))-r2))) λr3=>ς r3
instance Cu{a0:ah}{r:Int}:FC prog (mW a0 a1=ς r) 238 [.agg (cQ a0),aI a1] [.c (.d (.i .i64 r))]:=gG func238 ntmps238
def sL(a0:ae)(a1:Int):Option Bool:=
 ZS (Cs (a0.d5.bI.length:Int) 6) λr1=>ZS (cU a1 0 (WR (r1-1))) λr2=>ZS (cond r2 (cond (leB 0 a1) (ς (eqB (uL .i64 (Ap .i64 a0.cP a1) 1) 0)) ξ) (ς η)) λ(v3:Bool)=>ς v3
instance VP{a0:ae} :FC prog (sL a0 a1=ς r) 195 [.agg (kK a0),aI a1] [.c (.d (.b r))]:=gG func195 ntmps195 (hb 13 4)
def y6(a0:ae)(a1:Int)(a2:Bool):Option (Bool×ae):=
 ZS (cU a1 0 (WR ((a0.d5.bI.length:Int)-1))) λr1=>ZS (cond (!r1) (ς ζ) (ZS (sL a0 a1) λr3=>ς (booB r3 a2))) λ(v2:Bool)=>cond v2 (ς (η,a0)) (cond (leB 0 a1) (ς (ζ,{a0 with cP:=GX .i64 a0.cP (my .i64 1 a1)})) ξ)
instance XD{a0:ae}{a2:Bool}{r:Bool×ae}:FCV prog (y6 a0 a1 a2=ς r) 158 (nS a0) [tP 200,tI a1,tB a2] (nS r.2) (.v (.c (.d η (.b r.1)))) []:=gV func158 ntmps158 (hb 17 25) (hz 3)
def py(a0:bQ)(a1:Int)(a2:Bool):Option bQ:=
 ZS (kQ a0) λr1=>ZS (cond (!r1) (ς ζ) (ZS (cU a1 0 (WR (a0.ia-1))) λr3=>ς (!r3))) λ(v2:Bool)=>cond v2 (ς a0) (ZS (cond a2 (cond (leB 0 a1) (ς (bOr .i64 a0.fZ (my .i64 1 a1))) ξ) (cond (leB 0 a1) (ς (vW .i64 a0.fZ (my .i64 1 a1))) ξ)) λ(v4:Int)=>ς (⟨a0.ia,v4⟩:bQ))
instance RY{a0:bQ}{a2:Bool}{r:bQ}:FC prog (py a0 a1 a2=ς r) 196 [.agg (pb a0),aI a1,aB a2] [.agg (qM [] (mE r))]:=gG func196 ntmps196 (hb 11 18) (hC 21 (λ(v:Int) sl ob nx=>⟨sl,[(2,.var 41 (kM [] (mE (⟨a0.ia,v⟩:bQ))))]++ob,nx⟩)) (hz 5) (hz 6)
def kR(a0:bQ)(a1:Int):(Int×Int)->Option (cH (Int×Int) (Int))
 |(v1,v2)=>ZS (cond (ltB v2 a0.ia) (ς (ltB v2 6)) (ς η)) λ(v10:Bool)=>cond v10 (ZS (oG a0 v2) λr11=>ZS (cond r11 (cond (ltB v1 0) (ς ζ) (ZS (iz v2 a1) λr13=>ZS (iz v1 a1) λr14=>ς (ltB r14 r13))) (ς η)) λ(v12:Bool)=>ZS (cond v12 (ς v2) (ς v1)) λ(v15:Int)=>ς (.next (v15,WR (v2+1)))) (ς (.done v1))
def lr(a0:bQ)(a1:Int):Option Int:=
 ZS (iter (kR a0 a1) FU (-1,0)) λ(v9:Int)=>ς v9
instance OP{a0:bQ}{r:Int}:FC prog (lr a0 a1=ς r) 198 [.agg (pb a0),aI a1] [.c (.d (.i .i64 r))]:=gG func198 ntmps198 (hm 0 5 6) (he 0 5 6) (hb 11 14) (hb 20 32) (hi 32 5)
def lU(a0:List Int):Option (List Int):=
 ZS (rV a0) λr1=>ZS (a9 r1 6) λr2=>ZS (nj r2.2 r2.1) λr3=>ς r3.1
instance Ip{a0:List Int}{r:List Int}:FC prog (lU a0=ς r) 19 [aL (a0.map eU8)] [.c (.own 5 1 (r.map eU8) r.length)]:=⟨λH=>by
 refine fI func19 ntmps19 ?_
 refine aa H λr1 q1 H=>nA (cn (sS q1) rfl rfl trivial rfl rfl rfl) ?_
 refine aa H λr2 q2 H=>sA (cw (o:=0) (bW.h q2)) ?_
 refine aa H λr3 q3 H=>sA (cw (o:=0) (tZ.h q3)) ?_
 cases H
 exact dK⟩
end Go.AM
