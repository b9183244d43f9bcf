/- A part. -/
import Derived.Test.YtcfhabdgiieejaaGreatS2
set_option linter.unusedVariables false
open Option renaming bind->abJ
open List renaming cons_ne_nil->abL,range->f5
namespace Go.AM
open Go.Proofs
open Tryz
attribute [local irreducible] AWN NS AWO AWR AWC DR DZ dQ f9 iter
set_option maxRecDepth 100000
set_option maxHeartbeats 40000000
variable {a0:Go.AM.ah}
def ut (a0:ab):(Int×List aG)->Option (cr (Int×List aG) (List aG))
 |(v2,v3)=>bif ltB v2 (a0.aw.length:Int) then(abJ (ix a0.aw v2) λx7=>abJ (kE x7) λr8=>bif da 144 (v3++[r8]).length then(some (.next (WR (v2+1),(v3++[r8])))) else none) else(some (.done v3))
def uu (a0:ab):(Int×List ah)->Option (cr (Int×List ah) (List ah))
 |(v9,v10)=>bif ltB v9 (a0.aA.length:Int) then(abJ (ix a0.aA v9) λx14=>abJ (i9 x14) λr15=>bif da 288 (v10++[r15]).length then(some (.next (WR (v9+1),(v10++[r15])))) else none) else(some (.done v10))
def uv (a0:ab):(Int×List aj)->Option (cr (Int×List aj) (List aj))
 |(v16,v17)=>bif ltB v16 (a0.bG.length:Int) then(abJ (ix a0.bG v16) λx21=>abJ (mR x21) λr22=>bif da 48 (v17++[r22]).length then(some (.next (WR (v16+1),(v17++[r22])))) else none) else(some (.done v17))
def uw (a0:ab):(Int×List bM)->Option (cr (Int×List bM) (List bM))
 |(v23,v24)=>bif ltB v23 (a0.aT.length:Int) then(abJ (ix a0.aT v23) λx28=>abJ (tm x28) λr29=>bif da 176 (v24++[r29]).length then(some (.next (WR (v23+1),(v24++[r29])))) else none) else(some (.done v24))
def yF (a0:ab):Option ab:=
 abJ (qH a0.ev) λr1=>abJ (iter (ut a0) FU (0,([]:List aG))) λ(v6:List aG)=>abJ (iter (uu a0) FU (0,([]:List ah))) λ(v13:List ah)=>abJ (iter (uv a0) FU (0,([]:List aj))) λ(v20:List aj)=>abJ (iter (uw a0) FU (0,([]:List bM))) λ(v27:List bM)=>some (⟨r1,v6,v13,v20,v27,a0.dw,a0.eC,a0.rr,a0.jT⟩:ab)
instance F9 {a0:ab} {r:ab}:FCV prog (yF a0=some r) 79 [] [.v (.agg (kM [.f,.f,.f,.f,.f] (bw a0)))] [] (.v (.agg (kM [.t,.n 210,.n 211,.n 212,.n 213] (bw r)))) [(210,n67 r.aw),(211,n93 r.aA),(212,n107 r.bG),(213,n48 r.aT)]:=⟨λH=>by
 refine fV func79 ntmps79 ?_
 refine zI (f5 14) ?_
 refine aa H λr1 q1 H=>zA (ca (hF:=NW q1)) ?_
 refine wA (spx 100476) ?_
 refine aa H λv6 Hj H=>jB ⟨[(1,tP 210),(2,tP 211),(3,tP 212)],(oM [.t,.n 213,.z,.z,.z] 212 34 (bw (⟨r1,v6,[],[],[],a0.dw,a0.eC,a0.rr,a0.jT⟩:ab))++[(210,.var 34 (kM [.f,.f,.f,.f,.f] (bw a0))),(211,.var 34 (kM [.z,.z,.z,.z,.z] (bw {ea with ev:=(⟨[]⟩:aS)})))]),214⟩ ?_ ?_
 .refine iT Hj (λq=>⟨[(1,tP 210),(2,tP 211),(3,tP 212),(4,tI q.1)],(oM [.t,.n 213,.z,.z,.z] 212 34 (bw (⟨r1,q.2,[],[],[],a0.dw,a0.eC,a0.rr,a0.jT⟩:ab))++[(210,.var 34 (kM [.f,.f,.f,.f,.f] (bw a0))),(211,.var 34 (kM [.z,.z,.z,.z,.z] (bw {ea with ev:=(⟨[]⟩:aS)})))]),214⟩) ?_ (by refine am (dE (o:=212) (j:=1) 67 14 true) ?_;refine am (wB 213 (([]:List aG).length)) ?_;exact wo)
  rintro⟨v2,v3⟩ o H
  refine ad ?_
  refine cC H ?_ ?_<;>intro H
  .refine zI (f5 12) ?_
   refine aa H λx7 hx7 H=>zA (xdT (enc:=cF) hx7) ?_
   refine aa H λr8 q8 H=>zA (ca (hF:=(F5.h q8).frzs (by repeat (first|exact trivial|refine⟨?_,?_⟩|exact lm _|rfl)))) ?_
   obtain⟨h,H⟩:=rq H
   refine zB bC (fg rfl (AJ (enc:=cF) (ys:=v3) (zs:=[r8]) h (by first|exact abL _ _|simp) rfl (λ_=>rfl) (by first|rfl|simp) (.w rfl (by first|rfl|exact lm _|simp)) rfl rfl rfl rfl rfl rfl rfl rfl rfl rfl)) bC ?_
   refine wA (spx 100460) ?_
   cases H
   refine sV ?_
   refine am (d8 213) ?_
   exact wo
  exact aE H
 refine aa H λv13 Hj H=>jB ⟨[(1,tP 210),(2,tP 211),(3,tP 212)],(oM [.t,.n 213,.n 214,.z,.z] 212 34 (bw (⟨r1,v6,v13,[],[],a0.dw,a0.eC,a0.rr,a0.jT⟩:ab))++[(210,.var 34 (kM [.f,.f,.f,.f,.f] (bw a0))),(211,.var 34 (kM [.z,.z,.z,.z,.z] (bw {ea with ev:=(⟨[]⟩:aS)})))]),215⟩ ?_ ?_
 .refine iT Hj (λq=>⟨[(1,tP 210),(2,tP 211),(3,tP 212),(5,tI q.1)],(oM [.t,.n 213,.n 214,.z,.z] 212 34 (bw (⟨r1,v6,q.2,[],[],a0.dw,a0.eC,a0.rr,a0.jT⟩:ab))++[(210,.var 34 (kM [.f,.f,.f,.f,.f] (bw a0))),(211,.var 34 (kM [.z,.z,.z,.z,.z] (bw {ea with ev:=(⟨[]⟩:aS)})))]),215⟩) ?_ (by refine am (dE (o:=212) (j:=2) 93 30 true) ?_;refine am (wB 214 (([]:List ah).length)) ?_;exact wo)
  rintro⟨v9,v10⟩ o H
  refine ad ?_
  refine cC H ?_ ?_<;>intro H
  .refine zI (f5 12) ?_
   refine aa H λx14 hx14 H=>zA (xdT (enc:=bS) hx14) ?_
   refine aa H λr15 q15 H=>zA (ca (hF:=(AB.h q15).frzs (by repeat (first|exact trivial|refine⟨?_,?_⟩|exact lm _|rfl)))) ?_
   obtain⟨h,H⟩:=rq H
   refine zB bC (fg rfl (AJ (enc:=bS) (ys:=v10) (zs:=[r15]) h (by first|exact abL _ _|simp) rfl (λ_=>rfl) (by first|rfl|simp) (.w rfl (by first|rfl|exact lm _|simp)) rfl rfl rfl rfl rfl rfl rfl rfl rfl rfl)) bC ?_
   refine wA (spx 100465) ?_
   cases H
   refine sV ?_
   refine am (d8 214) ?_
   exact wo
  exact aE H
 refine aa H λv20 Hj H=>jB ⟨[(1,tP 210),(2,tP 211),(3,tP 212)],(oM [.t,.n 213,.n 214,.n 215,.z] 212 34 (bw (⟨r1,v6,v13,v20,[],a0.dw,a0.eC,a0.rr,a0.jT⟩:ab))++[(210,.var 34 (kM [.f,.f,.f,.f,.f] (bw a0))),(211,.var 34 (kM [.z,.z,.z,.z,.z] (bw {ea with ev:=(⟨[]⟩:aS)})))]),216⟩ ?_ ?_
 .refine iT Hj (λq=>⟨[(1,tP 210),(2,tP 211),(3,tP 212),(6,tI q.1)],(oM [.t,.n 213,.n 214,.n 215,.z] 212 34 (bw (⟨r1,v6,v13,q.2,[],a0.dw,a0.eC,a0.rr,a0.jT⟩:ab))++[(210,.var 34 (kM [.f,.f,.f,.f,.f] (bw a0))),(211,.var 34 (kM [.z,.z,.z,.z,.z] (bw {ea with ev:=(⟨[]⟩:aS)})))]),216⟩) ?_ (by refine am (dE (o:=212) (j:=3) 107 4 true) ?_;refine am (wB 215 (([]:List aj).length)) ?_;exact wo)
  rintro⟨v16,v17⟩ o H
  refine ad ?_
  refine cC H ?_ ?_<;>intro H
  .refine zI (f5 12) ?_
   refine aa H λx21 hx21 H=>zA (xdT (enc:=cM) hx21) ?_
   refine aa H λr22 q22 H=>zA (ca (hF:=(F1.h q22).frzs (by repeat (first|exact trivial|refine⟨?_,?_⟩|exact lm _|rfl)))) ?_
   obtain⟨h,H⟩:=rq H
   refine zB bC (fg rfl (AJ (enc:=cM) (ys:=v17) (zs:=[r22]) h (by first|exact abL _ _|simp) rfl (λ_=>rfl) (by first|rfl|simp) (.w rfl (by first|rfl|exact lm _|simp)) rfl rfl rfl rfl rfl rfl rfl rfl rfl rfl)) bC ?_
   refine wA (spx 100470) ?_
   cases H
   refine sV ?_
   refine am (d8 215) ?_
   exact wo
  exact aE H
 refine aa H λv27 Hj H=>jB ⟨[(2,tP 211),(3,tP 212)],(oM [.t,.n 213,.n 214,.n 215,.n 216] 212 34 (bw (⟨r1,v6,v13,v20,v27,a0.dw,a0.eC,a0.rr,a0.jT⟩:ab))++[(211,.var 34 (kM [.z,.z,.z,.z,.z] (bw {ea with ev:=(⟨[]⟩:aS)})))]),217⟩ ?_ ?_
 .refine iT Hj (λq=>⟨[(1,tP 210),(2,tP 211),(3,tP 212),(7,tI q.1)],(oM [.t,.n 213,.n 214,.n 215,.n 216] 212 34 (bw (⟨r1,v6,v13,v20,q.2,a0.dw,a0.eC,a0.rr,a0.jT⟩:ab))++[(210,.var 34 (kM [.f,.f,.f,.f,.f] (bw a0))),(211,.var 34 (kM [.z,.z,.z,.z,.z] (bw {ea with ev:=(⟨[]⟩:aS)})))]),217⟩) ?_ (by refine am (dE (o:=212) (j:=4) 48 21 true) ?_;refine am (wB 216 (([]:List bM).length)) ?_;exact wo)
  rintro⟨v23,v24⟩ o H
  refine ad ?_
  refine cC H ?_ ?_<;>intro H
  .refine zI (f5 12) ?_
   refine aa H λx28 hx28 H=>zA (xdT (enc:=dB) hx28) ?_
   refine aa H λr29 q29 H=>zA (ca (hF:=(BJ.h q29).frzs (by repeat (first|exact trivial|refine⟨?_,?_⟩|exact lm _|rfl)))) ?_
   obtain⟨h,H⟩:=rq H
   refine zB bC (fg rfl (AJ (enc:=dB) (ys:=v24) (zs:=[r29]) h (by first|exact abL _ _|simp) rfl (λ_=>rfl) (by first|rfl|simp) (.w rfl (by first|rfl|exact lm _|simp)) rfl rfl rfl rfl rfl rfl rfl rfl rfl rfl)) bC ?_
   refine wA (spx 100475) ?_
   cases H
   refine sV ?_
   refine am (d8 216) ?_
   exact wo
  exact aE H
 cases H
 refine bA (wS 213 210) ?_
 refine bA (wS 214 211) ?_
 refine bA (wS 215 212) ?_
 refine bA (wS 216 213) ?_
 exact bj⟩
def oK (a0:aG):Option Bool:=
 abJ (du a0.bp 2 3) λr1=>abJ (bif r1 then(abJ (ij a0.aZ) λr3=>some (!r3)) else(some false)) λ(v2:Bool)=>bif v2 then(some false) else(abJ (oP a0.dr) λr4=>abJ (bif r4 then(abJ (du a0.bp 0 3) λr6=>bif r6 then(abJ (du a0.bh 0 5) λr7=>bif r7 then(abJ (du a0.ag 0 999999) λr8=>bif r8 then(abJ (du a0.aV 0 999999) λr9=>bif r9 then(abJ (du a0.aZ 0 2147483646) λr10=>bif r10 then(abJ (du a0.fo 0 3) λr11=>bif r11 then(abJ (jK a0.bW) λr12=>some r12) else(some false)) else(some false)) else(some false)) else(some false)) else(some false)) else(some false)) else(some false)) λ(v5:Bool)=>some v5)
instance Rz {a0:aG} {r:Bool}:FC prog (oK a0=some r) 118 [.agg (cF a0)] [.c (.d (.b r))]:=gF func118 ntmps118 (hb 6 11) (hb 15 2)
def kN (a0:ah):Int->Option (cr (Int) (Bool))
 |v5=>bif ltB v5 (a0.ax.aC.length:Int) then(abJ (ix a0.ax.aC v5) λx6=>abJ (ix a0.aH (WR (x6.cW-1))) λx7=>abJ (qB x6.a9 x7.a9) λr8=>bif !r8 then(dn (some false)) else(some (.next (WR (v5+1))))) else(dn (abJ (pJ a0.ax.aC) λr9=>abJ (kC a0.b9) λr10=>some (leB r9 r10)))
def qc (a0:ah):Int->Option (cr (Int) (Bool))
 |v1=>bif ltB v1 (a0.aH.length:Int) then(abJ (ix a0.aH v1) λx2=>bif ltB 60 (x2.a9.length:Int) then(dn (some false)) else(some (.next (WR (v1+1))))) else(dn (abJ (bif ltB 24 (a0.aH.length:Int) then(some true) else(abJ (lM a0.ax) λr4=>bif !r4 then(some true) else(some (ltB (WR ((a0.aH.length:Int)+1)) a0.ax.bE)))) λ(v3:Bool)=>bif v3 then(some false) else(iter (kN a0) FU 0)))
def wP (a0:ah):Option Bool:=
 iter (qc a0) FU 0
instance Yw {r:Bool}:FC prog (wP a0=some r) 210 [.agg (bS a0)] [.c (.d (.b r))]:=gF func210 ntmps210 (hl 0 3) (hb 25 40) (hl 2 4)
def lQ (a0:bM) (a1:bM):Option Bool:=
 abJ (bif eqB a0.bm a1.bm then(bif booB a0.eG a1.eG then(bif booB a0.dZ a1.dZ then(bif eqB a0.bh a1.bh then(bif(eqB a0.bg.a8 a1.bg.a8&&(eqB a0.bg.bh a1.bg.bh&&(eqB a0.bg.ag a1.bg.ag&&(eqB a0.bg.aV a1.bg.aV&&(eqB a0.bg.bV a1.bg.bV&&(eqB a0.bg.cd.ew a1.bg.cd.ew&&(eqB a0.bg.cd.f4 a1.bg.cd.f4&&(eqB a0.bg.cd.iK a1.bg.cd.iK&&(eqB a0.bg.cd.w8 a1.bg.cd.w8&&(eqB a0.bg.cd.eX a1.bg.cd.eX&&(eqB a0.bg.iK a1.bg.iK&&true))))))))))) then(abJ (qC a0.co a1.co) λr2=>some r2) else(some false)) else(some false)) else(some false)) else(some false)) else(some false)) λ(v1:Bool)=>some v1
instance RY {a0:bM} {a1:bM} {r:Bool}:FC prog (lQ a0 a1=some r) 33 [.agg (dB a0),.agg (dB a1)] [.c (.d (.b r))]:=gF func33 ntmps33 (hb 10 4)
def eV (a0:Int) (a1:List Int):Option Int:=
 bif da 8 ([a0]++a1).length then(bif da 8 (([a0]++a1)++[a0]).length then(abJ (PS (([a0]++a1)++[a0])) λr1=>some r1) else none) else none
instance wz {a0:Int} {a1:List Int} {r:Int}:FC prog (eV a0 a1=some r) 168 [aI a0,aL (a1.map eI)] [.c (.d (.i .i64 r))]:=⟨λH=>by
 refine fI func168 ntmps168 ?_
 obtain⟨h,H⟩:=rq H
 refine jx rfl (apT (enc:=eI) (ys:=[a0]) (zs:=a1) h) ?_
 refine aW (sB (enc:=eI) (o:=0)) ?_
 obtain⟨h,H⟩:=rq H
 refine sA (apT (enc:=eI) (ys:=([a0]++a1)) (zs:=[a0]) h) ?_
 refine aa H λr1 q1 H=>nA (ca (hF:=Yh.h q1)) ?_
 cases H
 exact dM⟩
def zl (a0:bk):Option (Int×bk):=
 abJ (i8 a0 10) λr1=>bif r1.1 then(abJ (Az r1.2 [-1,2147483647,2147483648]) λr2=>some (r2.1,r2.2)) else(abJ (i8 r1.2 4) λr3=>bif r3.1 then(abJ (Az r3.2 [0,1,2147483646]) λr4=>some (r4.1,r4.2)) else(abJ (cH r3.2 1000000) λr5=>abJ (cH r5.2 2000) λr6=>some (WR (r5.1*r6.1),r6.2)))
theorem CD {a0:bk} {r:Int×bk} (H:zl a0=some r):FnW prog 325 (.var 125 (kM [.f] (cj a0))) [tP 200] (.var 125 (kM [.f] (cj r.2))) [.c (.d (.i .i64 r.1))]:=by
 refine fW func325 ntmps325 ?_
 refine aa H λr1 q1 H=>sA (cw (o:=200) (iN q1)) ?_
 refine cC H ?_ ?_<;>intro H
 .refine aa H λr2 q2 H=>bL (bv (o:=210)) ?_
  refine bL (bH (k:=6)) ?_
  refine sA (cw (o:=200) (BF q2)) ?_
  cases H
  exact f8
 refine aa H λr3 q3 H=>sA (cw (o:=200) (iN q3)) ?_
 refine cC H ?_ ?_<;>intro H
 .refine aa H λr4 q4 H=>bL (bv (o:=210)) ?_
  refine bL (bH (k:=11)) ?_
  refine sA (cw (o:=200) (BF q4)) ?_
  cases H
  exact f8
 refine aa H λr5 q5 H=>sA (cw (o:=200) (cm q5)) ?_
 refine aa H λr6 q6 H=>sA (cw (o:=200) (cm q6)) ?_
 cases H
 exact f8
def J1 (a0:bk):Option (Int×bk):=
 abJ (i8 a0 6) λr1=>bif r1.1 then(abJ (Az r1.2 [0,999999,1000000,-1,998999]) λr2=>some (r2.1,r2.2)) else(abJ (cH r1.2 40) λr3=>some (r3.1,r3.2))
theorem VX {a0:bk} {r:Int×bk} (H:J1 a0=some r):FnW prog 364 (.var 125 (kM [.f] (cj a0))) [tP 200] (.var 125 (kM [.f] (cj r.2))) [.c (.d (.i .i64 r.1))]:=by
 refine fW func364 ntmps364 ?_
 refine aa H λr1 q1 H=>sA (cw (o:=200) (iN q1)) ?_
 refine cC H ?_ ?_<;>intro H
 .refine aa H λr2 q2 H=>bL (bv (o:=210)) ?_
  refine bL (bH (k:=6)) ?_
  refine sA (cw (o:=200) (BF q2)) ?_
  cases H
  exact f8
 refine aa H λr3 q3 H=>sA (cw (o:=200) (cm q3)) ?_
 cases H
 exact f8
def lS (a1:Int) (a2:Bool) (a3:List aF):(Int×ab)->Option (cr (Int×ab) (ab))
 |(v1,v12)=>bif ltB v1 (a3.length:Int) then(abJ (ix a3 v1) λx27=>abJ (ix a3 v1) λx28=>abJ (gS v12 (⟨a1,a2,false,x27.bh,x28,eB⟩:bM)) λr29=>some (.next (WR (v1+1),r29))) else(some (.done v12))
def lR (a0:ab) (a1:Int) (a2:Bool) (a3:List aF):Option ab:=
 abJ (iter (lS a1 a2 a3) FU (0,a0)) λ(v26:ab)=>some v26
instance uZ {a0:ab} {a1:Int} {a2:Bool} {a3:List aF} {r:ab}:FCV prog (lR a0 a1 a2 a3=some r) 259 (nS a0) [tP 200,tI a1,tB a2,.v (.c (.d true (.l (a3.map cU))))] (nS r) (.tup []) []:=⟨λH=>by
 refine fV func259 ntmps259 ?_
 refine aa H λv26 Hj H=>jB ⟨[],(nS v26),210⟩ ?_ ?_
 .refine iT Hj (λq=>⟨[(0,tP 200),(1,tI a1),(2,tB a2),(3,.v (.c (.d true (.l (a3.map cU))))),(8,tI q.1)],(nS q.2),210⟩) ?_
  rintro⟨v1,v12⟩ o H
  refine ad ?_
  refine cC H ?_ ?_<;>intro H
  .refine zI (f5 14) ?_
   refine aa H λx27 hx27 H=>zA (xdT (enc:=cU) hx27) ?_
   refine aa H λx28 hx28 H=>zA (xdT (enc:=cU) hx28) ?_
   refine aa H λr29 q29 H=>zB bC (fg rfl (cwu m0 [] 210 (tq.h q29))) bC ?_
   exact aN H
  exact aE H
 cases H
 exact nT⟩
def tl (a0:ah) (a1:aj):Option bO:=
 abJ (i9 a0) λr1=>abJ (mR a1) λr2=>some {ci with aU:=r1,eu:=r2}
instance AC {a1:aj} {r:bO}:FC prog (tl a0 a1=some r) 328 [.agg (bS a0),.agg (cM a1)] [.agg (qM [.o,.o,.o,.o,.o,.o] (bB r))]:=gF func328 ntmps328 (hz 1)
def rS (a0:aj) (a1:cP):Option (aj×cP):=
 abJ (fL a0 a1) λr1=>bif !r1 then(abJ (mR a0) λr2=>some (r2,a1)) else(abJ (JK a0 a1.aJ a1.em) λr3=>some (r3.1,(⟨a1.aJ,WR (a1.cV-a1.em),0⟩:cP)))
instance FJ {a0:aj} {a1:cP} {r:aj×cP}:FC prog (rS a0 a1=some r) 329 [.agg (cM a0),.agg (mV a1)] [.agg (qM [.o] (ct r.1)),.agg (qM [] (yT r.2))]:=gF func329 ntmps329 (hz 2) (hz 4)
def oS (a0:ah) (a1:Int):Option Int:=
 abJ (oR a0) λr1=>abJ (kC a0.b9) λr2=>abJ (FB 0 (WR ((WR (r1+a1))-r2))) λr3=>some r3
instance FH {a1:Int} {r:Int}:FC prog (oS a0 a1=some r) 368 [.agg (bS a0),aI a1] [.c (.d (.i .i64 r))]:=gF func368 ntmps368
def p9 (a0:aj) (a1:cP) (a2:Int):Option (aj×cP):=
 abJ (Bz a0 a1.aJ a2) λr1=>abJ (fL a0 a1) λr2=>abJ (bif !r2 then(some true) else(abJ (ik {a1 with cV:=WR (a1.cV+r1.2)}) λr4=>some (!r4))) λ(v3:Bool)=>bif v3 then(abJ (mR a0) λr5=>some (r5,a1)) else(some (r1.1,{a1 with cV:=WR (a1.cV+r1.2)}))
instance SA {a0:aj} {a1:cP} {a2:Int} {r:aj×cP}:FC prog (p9 a0 a1 a2=some r) 390 [.agg (cM a0),.agg (mV a1),aI a2] [.agg (qM [.o] (ct r.1)),.agg (qM [] (yT r.2))]:=gF func390 ntmps390 (hb 29 33) (hz 5) (hz 6)
def o6 (a0:ah):Option bN:=
 abJ (i9 a0) λr1=>some (⟨r1,([]:List aF)⟩:bN)
instance sl30None_c {r:bN}:FC prog (o6 a0=some r) 370 [.agg (bS a0)] [.agg (qM [.o,.o,.o,.o] (ef r))]:=gF func370 ntmps370
def wx (a0:aG):Option aG:=
 abJ (kE a0) λr1=>abJ (bif eqB a0.bp 2 then(some 3) else(some r1.bp)) λ(v2:Int)=>some {r1 with bp:=v2}
instance JL {a0:aG} {r:aG}:FC prog (wx a0=some r) 263 [.agg (cF a0)] [.agg (qM [.o,.o] (gD r))]:=⟨λH=>by
 refine fI func263 ntmps263 ?_
 refine aa H λr1 q1 H=>nA (ca (hF:=F5.h q1)) ?_
 refine aa H λv2 Hj H=>jA ⟨[(2,tP 1),(3,tP 4)],(oM [.w 2,.w 3] 4 67 (gD {r1 with bp:=v2})++[(1,.var 67 (kM [.z,.z] (gD yJ)))]),5⟩ ?_ ?_
 .exact az Hj
 cases H
 exact dM⟩
def y7 (a0:ah):Option ah:=
 abJ (i9 a0) λr1=>some {r1 with aK:=cp,bI:=0,dT:=0,ga:=et,dP:=0}
instance LW {r:ah}:FC prog (y7 a0=some r) 267 [.agg (bS a0)] [.agg (qM [.o,.o,.o] (c7 r))]:=gF func267 ntmps267
end Go.AM
