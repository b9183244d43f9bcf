/- A part. -/
import Derived.Test.YtcfhabdgiieejaaGreatI4
set_option linter.unusedVariables false
open Option renaming bind->abJ
namespace Go.AM
open Go.Proofs
open Tryz
attribute [local irreducible] AWN NS AWO AWR AWC DR DZ dQ f9 iter
set_option maxRecDepth 100000
set_option maxHeartbeats 40000000
variable {a0 r a1:Int}
def iy (a0:ab):Int->Option (cr (Int) (Bool))
 |v7=>bif ltB v7 (a0.aT.length:Int) then(abJ (ix a0.aT v7) λx8=>abJ (cf x8.bm 0 (WR ((a0.aw.length:Int)-1))) λr9=>abJ (bif !r9 then(some true) else(abJ (kZ a0.ev x8.bh) λr11=>some (!r11))) λ(v10:Bool)=>bif v10 then(dn (some false)) else(some (.next (WR (v7+1))))) else(dn (bif leB 0 (a0.ev.bb.length:Int) then(abJ (cf a0.dw 0 (WR ((lX .i64 1 (a0.ev.bb.length:Int))-1))) λr12=>abJ (bif r12 then(abJ (cf a0.rr 0 100000) λr14=>bif r14 then(some (leB 0 a0.jT)) else(some false)) else(some false)) λ(v13:Bool)=>some v13) else none))
def iw (a0:ab):Int->Option (cr (Int) (Bool))
 |v5=>bif ltB v5 (a0.aw.length:Int) then(abJ (ka a0 v5) λr6=>bif !r6 then(dn (some false)) else(some (.next (WR (v5+1))))) else(dn (bif ltB 200 (a0.aT.length:Int) then(some false) else(iter (iy a0) FU 0)))
def ko (a0:ab):Option Bool:=
 abJ (tR a0.ev) λr1=>abJ (bif !r1 then(some true) else(abJ (jV a0.eC) λr3=>bif !r3 then(some true) else(some (eqB a0.eC.fP 0)))) λ(v2:Bool)=>bif v2 then(some false) else(abJ (bif ltB 4 (a0.aw.length:Int) then(some true) else(bif !eqB (a0.aA.length:Int) (a0.aw.length:Int) then(some true) else(some (!eqB (a0.bG.length:Int) (a0.aw.length:Int))))) λ(v4:Bool)=>bif v4 then(some false) else(iter (iw a0) FU 0))
instance A6 {a0:ab} {r:Bool}:FC prog (ko a0=some r) 28 [.agg (fG a0)] [.c (.d (.b r))]:=gF func28 ntmps28 (hb 10 21) (hb 26 43) (hl 0 47) (hl 2 62) (hb 74 81) (hb 92 2)
def yW (a0:ab):Int->Option (cr (Int) (Bool))
 |v2=>bif ltB v2 (a0.aw.length:Int) then(abJ (kS a0 v2) λr3=>abJ (bif !r3 then(some true) else(abJ (jm a0 v2) λr5=>bif !r5 then(some true) else(abJ (fR a0 v2) λr6=>some (!r6)))) λ(v4:Bool)=>bif v4 then(dn (some false)) else(some (.next (WR (v2+1))))) else(dn (some true))
def Cd (a0:ab):Option Bool:=
 abJ (ko a0) λr1=>bif !r1 then(some false) else(iter (yW a0) FU 0)
instance K0 {a0:ab} {r:Bool}:FC prog (Cd a0=some r) 11 [.agg (fG a0)] [.c (.d (.b r))]:=gF func11 ntmps11 (hl 0 10) (hb 17 28)
def oy (a0:ab):Option ab:=
 abJ (Bc a0.ev) λr1=>abJ (fD a0.aw) λr2=>abJ (fk a0.aA) λr3=>abJ (fj a0.bG) λr4=>abJ (fE a0.aT) λr5=>some (⟨r1,r2,r3,r4,r5,a0.dw,a0.eC,a0.rr,a0.jT⟩:ab)
instance xU {a0:ab} {r:ab}:FC prog (oy a0=some r) 37 [.agg (fG a0)] [.agg (qM [.o,.o,.o,.o,.o] (bw r))]:=gF func37 ntmps37
def kv (a1:Int) (a2:aX):(Int×ab)->Option (cr (Int×ab) (ab))
 |(v2,v13)=>bif ltB v2 (a2.dy.length:Int) then(abJ (ix a2.dy v2) λx27=>abJ (rj v13 (⟨a1,true,false,x27.bh,x27,eB⟩:bM)) λr28=>some (.next (WR (v2+1),r28))) else(some (.done v13))
def gA (a0:ab) (a1:Int) (a2:aX):Option ab:=
 abJ (ix a0.aw a1) λx1=>abJ (iter (kv a1 a2) FU (0,{a0 with aw:=(a0.aw.set (a1).toNat a2.bm)})) λ(v26:ab)=>some v26
instance lD {a0:ab} {a2:aX} {r:ab}:FCV prog (gA a0 a1 a2=some r) 128 (nI a0) [tP 200,tI a1,.v (.agg (kM [.t,.t,.t] (dm a2)))] (nI r) (.tup []) []:=⟨λH=>by
 refine fV func128 ntmps128 ?_
 refine zI (List.range 9) ?_
 refine aa H λx1 hx1 H=>zA (xwT hx1) ?_
 refine zB bC (fg rfl (soT (enc:=cF) (a':=a2.bm) hx1)) bC ?_
 refine aa H λv26 Hj H=>jB ⟨[],(nI v26),211⟩ ?_ ?_
 .refine iT Hj (λq=>⟨[(0,tP 200),(1,tI a1),(17,.v (.c (.d true (.l (a2.dy.map cU))))),(18,tI (a2.dy.length:Int)),(19,tI q.1)],(nI q.2),211⟩) ?_ (by refine am (wB 190 ((a0.aw.set (a1).toNat a2.bm).length)) ?_;exact wo)
  rintro⟨v2,v13⟩ o H
  refine ad ?_
  refine cC H ?_ ?_<;>intro H
  .refine aa H λx27 hx27 H=>nA (xdT (enc:=cU) hx27) ?_
   refine aa H λr28 q28 H=>sA (cwu m0 [] 212 (Bf.h q28)) ?_
   exact aN H
  exact aE H
 cases H
 exact nT⟩
def kt (a1:List Int):(Int×Int)->Option (cr (Int×Int) (Int))
 |(v1,v2)=>bif ltB v2 (a1.length:Int) then(abJ (ix a1 v2) λx6=>abJ (pp v1 x6) λr7=>some (.next (r7,WR (v2+1)))) else(some (.done v1))
def wh (a0:Int) (a1:List Int):Option Int:=
 abJ (iter (kt a1) FU (a0,0)) λ(v5:Int)=>some v5
instance Uh {a1:List Int} :FC prog (wh a0 a1=some r) 283 [aI a0,aL (a1.map eI)] [.c (.d (.i .i64 r))]:=gF func283 ntmps283 (hm 0 0 9) (he 0 0 9)
def qq (a0:Int) (a1:fA):Option Int:=
 abJ (wh a0 a1.Steps) λr1=>some r1
instance WD {a1:fA} :FC prog (qq a0 a1=some r) 193 [aI a0,.agg (Hp a1)] [.c (.d (.i .i64 r))]:=gF func193 ntmps193
def EL (a0:Int) (a1:Int) (a2:Int) (a3:List Int):Option bi:=
 abJ (pp a0 (WR ((WR (2*a2))+a1))) λr1=>abJ (A5 r1 a3) λr2=>abJ (nD a0 a1 a2 r2) λr3=>some (⟨a1,a2,r2,r3⟩:bi)
instance ZW {a2:Int} {a3:List Int} {r:bi}:FC prog (EL a0 a1 a2 a3=some r) 353 [aI a0,aI a1,aI a2,aL (a3.map eU8)] [.agg (qM [.o] (pm r))]:=gF func353 ntmps353
def jI (a1:Int) (a2:List aF):(Int×ab)->Option (cr (Int×ab) (ab))
 |(v1,v12)=>bif ltB v1 (a2.length:Int) then(abJ (ix a2 v1) λx26=>abJ (rj v12 {fM with bm:=a1,bh:=x26.bh,bg:=x26}) λr27=>some (.next (WR (v1+1),r27))) else(some (.done v12))
def kJ (a0:ab) (a1:Int) (a2:List aF):Option ab:=
 abJ (iter (jI a1 a2) FU (0,a0)) λ(v25:ab)=>some v25
instance xe {a0:ab} {a2:List aF} {r:ab}:FCV prog (kJ a0 a1 a2=some r) 131 (nI a0) [tP 200,tI a1,.v (.c (.d true (.l (a2.map cU))))] (nI r) (.tup []) []:=⟨λH=>by
 refine fV func131 ntmps131 ?_
 refine aa H λv25 Hj H=>jB ⟨[],(nI v25),210⟩ ?_ ?_
 .refine iT Hj (λq=>⟨[(0,tP 200),(1,tI a1),(8,.v (.c (.d true (.l (a2.map cU))))),(9,tI (a2.length:Int)),(10,tI q.1)],(nI q.2),210⟩) ?_
  rintro⟨v1,v12⟩ o H
  refine ad ?_
  refine cC H ?_ ?_<;>intro H
  .refine aa H λx26 hx26 H=>nA (xdT (enc:=cU) hx26) ?_
   refine aa H λr27 q27 H=>sA (cwu m0 [] 211 (Bf.h q27)) ?_
   exact aN H
  exact aE H
 cases H
 exact nT⟩
def lx (a0:Int) (a1:Int) (a2:Int):Option cy:=
 abJ (cf a2 0 999999) λr1=>bif !r1 then(some cp) else(abJ (mE a0 a1) λr2=>abJ (eT a0 [2,a1,a2]) λr3=>abJ (eT a0 [3,a1]) λr4=>abJ (eT a0 [4,a1,a2]) λr5=>abJ (bif eqB r5 0 then(some 1) else(some r5)) λ(v6:Int)=>some (⟨a1,Int.tmod (WR (a2+r2)) 1000000,r3,r4,v6⟩:cy))
instance Ce {a2:Int} {r:cy}:FC prog (lx a0 a1 a2=some r) 387 [aI a0,aI a1,aI a2] [.agg (qM [] (eP r))]:=⟨λH=>by
 refine fI func387 ntmps387 ?_
 refine aa H λr1 q1 H=>nA (ca (hF:=jg.h q1)) ?_
 refine cC H ?_ ?_<;>intro H
 .exact ao H
 refine aa H λr2 q2 H=>nA (ca (hF:=Di.h q2)) ?_
 refine nA (ir rfl rfl rfl (by decide)) ?_
 refine aa H λr3 q3 H=>nA (ca (hF:=jW.h q3)) ?_
 refine aa H λr4 q4 H=>nA (ca (hF:=jW.h q4)) ?_
 refine aa H λr5 q5 H=>nA (ca (hF:=jW.h q5)) ?_
 refine aa H λv6 Hj H=>jA ⟨[(6,tP 0),(7,tP 4)],[(0,.var 40 (kM [] (eP cp))),(4,.var 40 (kM [] (eP (⟨a1,Int.tmod (WR (a2+r2)) 1000000,r3,r4,v6⟩:cy))))],5⟩ ?_ ?_
 .exact az Hj
 cases H
 exact dM⟩
def qS (a0:aO) (a1:Int):Option (aO×cy):=
 abJ (fB a0) λr1=>abJ (bif !r1 then(some true) else(some (eqB a0.cW 999999))) λ(v2:Bool)=>bif v2 then(some (a0,cp)) else(abJ (lx a0.eX a1 (WR (a0.cW+1))) λr3=>some ({a0 with cW:=WR (a0.cW+1)},r3))
instance O0 {a0:aO} {r:aO×cy}:FC prog (qS a0 a1=some r) 355 [.agg (dO a0),aI a1] [.agg (qM [] (sO r.1)),.agg (qM [] (eP r.2))]:=gF func355 ntmps355 (hb 9 13) (hz 4)
def we (a0:Int) (a1:bi):Option Bool:=
 abJ (nD a0 a1.cZ a1.fQ a1.a9) λr1=>some (eqB a1.iK r1)
instance Xz {a1:bi} {r:Bool}:FC prog (we a0 a1=some r) 190 [aI a0,.agg (ee a1)] [.c (.d (.b r))]:=gF func190 ntmps190
def wj (a0:Int) (a1:bi):Option (List Int):=
 abJ (pp a0 (WR ((WR (2*a1.fQ))+a1.cZ))) λr1=>abJ (A4 r1 a1.a9) λr2=>some r2
instance xY {a1:bi} {r:List Int}:FC prog (wj a0 a1=some r) 108 [aI a0,.agg (ee a1)] [.c (.own 5 1 (r.map eU8) r.length)]:=gF func108 ntmps108
def kr (a0:Int) (a1:Int) (a2:Int):Option Int:=
 abJ (QR a2 1000000) λr1=>abJ (mE a0 a1) λr2=>abJ (QR (WR (r1-r2)) 1000000) λr3=>some r3
instance Bb {a2:Int} :FC prog (kr a0 a1 a2=some r) 196 [aI a0,aI a1,aI a2] [.c (.d (.i .i64 r))]:=gF func196 ntmps196
def mF (a0:Int) (a1:Int) (a2:cy):Option Int:=
 abJ (kr a0 a2.ew a2.f4) λr1=>abJ (eT a0 [2,a2.ew,r1]) λr2=>bif !eqB a2.iK r2 then(some 1) else(bif leB r1 a1 then(some 2) else(bif ltB (WR (a1+1000)) r1 then(some 3) else(some 0)))
instance Dk {a2:cy} :FC prog (mF a0 a1 a2=some r) 115 [aI a0,aI a1,.agg (lY a2)] [.c (.d (.i .i64 r))]:=gF func115 ntmps115
def A7 (a0:aG):Option aX:=
 bif !eqB a0.bp 0 then(abJ (cO a0 []) λr1=>some r1) else(abJ (mG {a0 with bp:=1,fo:=3}) λr2=>abJ (cO {a0 with bp:=1,fo:=3} [r2]) λr3=>some r3)
instance Nh {a0:aG} {r:aX}:FC prog (A7 a0=some r) 177 [.agg (cF a0)] [.agg (qM [.o,.o,.o] (dm r))]:=gF func177 ntmps177 (hz 5)
def jG (a0:bK) (a1:Int):(Int×Int×Int)->Option (cr (Int×Int×Int) (Int))
 |(v2,v3,v4)=>bif ltB v4 a0.fC then(abJ (qp a0 v4) λr10=>bif !r10 then(some (.next (v2,v3,WR (v4+1)))) else(abJ (kW v4 a1) λr11=>abJ (bif ltB v3 r11 then(some (v4,r11)) else(some (v2,v3))) λ((v12,v13):Int×Int)=>some (.next (v12,v13,WR (v4+1))))) else(some (.done v2))
def mD (a0:bK) (a1:Int):Option Int:=
 abJ (jV a0) λr1=>bif !r1 then(some (-1)) else(abJ (iter (jG a0 a1) FU (-1,-1,0)) λ(v9:Int)=>some v9)
instance xb {a0:bK} :FC prog (mD a0 a1=some r) 183 [.agg (iO a0),aI a1] [.c (.d (.i .i64 r))]:=gF func183 ntmps183 (hL 0 (λ(v:Int×Int×Int) sl ob nx=>⟨(5,tI v.1)::(6,tI v.2.1)::(7,tI v.2.2)::sl,ob,nx⟩)) (hB 0 (λ(v:Int) sl ob nx=>⟨(5,tI v)::(6,.any)::(7,.any)::sl,ob,nx⟩)) (hC 27 (λ(v:Int×Int) sl ob nx=>⟨(5,tI v.1)::(6,tI v.2)::sl,ob,nx⟩))
def kX (a0:ab) (r4:bK):(Int×List ah)->Option (cr (Int×List ah) (List ah))
 |(v5,v6)=>bif ltB v5 (a0.aA.length:Int) then(abJ (mD a0.eC v5) λr14=>abJ (mD r4 v5) λr15=>abJ (bif !eqB r14 r15 then(abJ (ix v6 v5) λx17=>abJ (yX x17) λr18=>abJ (ix v6 v5) λx19=>some (v6.set (v5).toNat r18)) else(some v6)) λ(v16:List ah)=>some (.next (WR (v5+1),v16))) else(some (.done v6))
def ox (a0:ab) (a1:cX):Option (Bool×ab):=
 abJ (cf a1.cB 0 (WR (a0.eC.fC-1))) λr1=>abJ (bif !r1 then(some true) else(abJ (qp a0.eC a1.cB) λr3=>some (booB r3 (eqB a1.a8 12)))) λ(v2:Bool)=>bif v2 then(some (false,a0)) else(abJ (rF a0.eC a1.cB (eqB a1.a8 12)) λr4=>bif eqB r4.fP 0 then(some (false,a0)) else(abJ (iter (kX a0 r4) FU (0,a0.aA)) λ(v13:List ah)=>some (true,{a0 with aA:=v13,eC:=r4})))
instance Cj {a0:ab} {a1:cX} {r:Bool×ab}:FCV prog (ox a0 a1=some r) 101 (nI a0) [tP 200,.v (.agg (kM [.t,.t] (dV a1)))] (nI r.2) (.v (.c (.d false (.b r.1)))) []:=⟨λH=>by
 refine fV func101 ntmps101 ?_
 refine dI ?_
 refine aa H λr1 q1 H=>dA (ca (hF:=jg.h q1)) ?_
 refine aa H λv2 Hj H=>pQ ⟨[(0,tP 200),(3,tP 210),(5,tB (eqB a1.a8 12)),(32,tB v2)],(nI a0++[(210,.var 50 (kM [.t,.t] (dV a1)))]),211⟩ ?_ ?_
 .have H:=Hj
  refine wI ?_
  refine dC H ?_ ?_<;>intro H
  .refine wI ?_
   exact ai H
  refine aa H λr3 q3 H=>dG (ca (hF:=Gx.h q3)) ?_
  refine wI ?_
  exact ai H
 refine wI ?_
 refine cC H ?_ ?_<;>intro H
 .refine wI ?_
  cases H
  exact bj
 refine wI ?_
 refine aa H λr4 q4 H=>nA (ca (hF:=ET.h q4)) ?_
 refine cC H ?_ ?_<;>intro H
 .cases H
  exact bj
 refine aa H λv13 Hj H=>jB ⟨[],(nI {a0 with aA:=v13,eC:=r4}),213⟩ ?_ ?_
 .refine iT Hj (λq=>⟨[(0,tP 200),(6,tP 211),(7,tP 212),(53,tI (a0.aA.length:Int)),(54,tI q.1)],(nI {a0 with aA:=q.2,eC:=r4}++[(211,.var 32 (kM [] (eY a0.eC))),(212,.var 32 (kM [] (eY r4)))]),213⟩) ?_
  rintro⟨v5,v6⟩ o H
  refine ad ?_
  refine cC H ?_ ?_<;>intro H
  .refine dI ?_
   refine aa H λr14 q14 H=>dA (ca (hF:=xb.h q14)) ?_
   refine aa H λr15 q15 H=>dA (ca (hF:=xb.h q15)) ?_
   refine wI ?_
   refine aa H λv16 Hj H=>jA ⟨[(0,tP 200),(6,tP 211),(7,tP 212),(53,tI (a0.aA.length:Int)),(54,tI v5)],(nI {a0 with aA:=v16,eC:=r4}++[(211,.var 32 (kM [] (eY a0.eC))),(212,.var 32 (kM [] (eY r4)))]),213⟩ ?_ ?_
   .refine cC Hj ?_ ?_<;>intro H
    .refine zI (List.range 15) ?_
     refine aa H λx17 hx17 H=>zA (xwT hx17) ?_
     refine zA (oea (he:=dF _ hx17)) ?_
     refine aa H λr18 q18 H=>zA (ca (hF:=K3.h q18)) ?_
     refine aa H λx19 hx19 H=>zA (xwT hx19) ?_
     refine zB (am (bv (o:=213)) (am (bv (o:=214)) (am (bv (o:=215)) (bH (k:=76))))) (fg rfl (soT (enc:=bS) (a':=r18) hx19)) bC ?_
     cases H
     refine am (wB 191 ((v6.set (v5).toNat r18).length)) ?_
     exact wo
    exact ai H
   exact aN H
  exact aE H
 cases H
 exact bj⟩
def IX (a0:ab) (a1:bM):Option (Bool×ab):=
 abJ (bif leB 200 (a0.aT.length:Int) then(some true) else(abJ (cf a1.bm 0 (WR ((a0.aw.length:Int)-1))) λr2=>bif !r2 then(some true) else(abJ (kZ a0.ev a1.bh) λr3=>some (!r3)))) λ(v1:Bool)=>bif v1 then(some (false,a0)) else(abJ (rj a0 a1) λr4=>some (true,r4))
instance Uk {a0:ab} {a1:bM} {r:Bool×ab}:FCV prog (IX a0 a1=some r) 102 (nI a0) [tP 200,.v (.agg (kM [.t] (jE a1)))] (nI r.2) (.v (.c (.d false (.b r.1)))) []:=⟨λH=>by
 refine fV func102 ntmps102 ?_
 refine dI ?_
 refine aa H λv1 Hj H=>pQ ⟨[(0,tP 200),(3,tP 210),(32,tB v1)],(nI a0++[(210,.var 48 (kM [.t] (jE a1)))]),211⟩ ?_ ?_
 .have H:=Hj
  refine wI ?_
  refine dC H ?_ ?_<;>intro H
  .refine wI ?_
   exact ai H
  refine aa H λr2 q2 H=>dG (ca (hF:=jg.h q2)) ?_
  refine dC H ?_ ?_<;>intro H
  .refine wI ?_
   exact ai H
  refine aa H λr3 q3 H=>dG (ca (hF:=yY.h q3)) ?_
  refine wI ?_
  exact ai H
 refine wI ?_
 refine cC H ?_ ?_<;>intro H
 .refine wI ?_
  cases H
  exact bj
 refine aa H λr4 q4 H=>sA (cwu m0 [] 211 (Bf.h q4)) ?_
 refine wI ?_
 cases H
 exact bj⟩
end Go.AM
