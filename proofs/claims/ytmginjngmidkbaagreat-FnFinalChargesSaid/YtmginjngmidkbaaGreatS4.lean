/- A part. -/
import Derived.Test.YtmginjngmidkbaaGreatS2
set_option linter.unusedVariables false
open Option renaming bind->abU
open List renaming cons_ne_nil->abW,range->f4
namespace Go.AM
open Go.Proofs
open Tryz
attribute [local irreducible] AWN NS AWO AWR AWC DR DZ dS gp iter
set_option maxRecDepth 100000
set_option maxHeartbeats 40000000
variable {a0:Go.AM.ah}
def uu (a0:ab):(Int×List aJ)->Option (ct (Int×List aJ) (List aJ))
 |(v2,v3)=>bif ltB v2 (a0.av.length:Int) then(abU (ix a0.av v2) λx7=>abU (kS x7) λr8=>bif da 144 (v3++[r8]).length then(some (.next (WR (v2+1),(v3++[r8])))) else none) else(some (.done v3))
def uv (a0:ab):(Int×List ah)->Option (ct (Int×List ah) (List ah))
 |(v9,v10)=>bif ltB v9 (a0.aF.length:Int) then(abU (ix a0.aF v9) λx14=>abU (jo x14) λr15=>bif da 288 (v10++[r15]).length then(some (.next (WR (v9+1),(v10++[r15])))) else none) else(some (.done v10))
def uw (a0:ab):(Int×List am)->Option (ct (Int×List am) (List am))
 |(v16,v17)=>bif ltB v16 (a0.bk.length:Int) then(abU (ix a0.bk v16) λx21=>abU (ni x21) λr22=>bif da 48 (v17++[r22]).length then(some (.next (WR (v16+1),(v17++[r22])))) else none) else(some (.done v17))
def ux (a0:ab):(Int×List bS)->Option (ct (Int×List bS) (List bS))
 |(v23,v24)=>bif ltB v23 (a0.aT.length:Int) then(abU (ix a0.aT v23) λx28=>abU (tl x28) λr29=>bif da 176 (v24++[r29]).length then(some (.next (WR (v23+1),(v24++[r29])))) else none) else(some (.done v24))
def yB (a0:ab):Option ab:=
 abU (qI a0.ei) λr1=>abU (iter (uu a0) FU (0,([]:List aJ))) λ(v6:List aJ)=>abU (iter (uv a0) FU (0,([]:List ah))) λ(v13:List ah)=>abU (iter (uw a0) FU (0,([]:List am))) λ(v20:List am)=>abU (iter (ux a0) FU (0,([]:List bS))) λ(v27:List bS)=>some (⟨r1,v6,v13,v20,v27,a0.dy,a0.ev,a0.qO,a0.ki⟩:ab)
theorem Gp {a0:ab} {r:ab} (H:yB a0=some r):FnV prog 112 [] [.v (.agg (kM [.f,.f,.f,.f,.f] (bw a0)))] [] (.v (.agg (kM [.t,.n 210,.n 211,.n 212,.n 213] (bw r)))) [(210,n93 r.av),(211,n75 r.aF),(212,n57 r.bk),(213,n49 r.aT)]:=by
 refine fV func112 ntmps112 ?_
 refine zI (f4 14) ?_
 refine aa H λr1 q1 H=>zA (ca (hF:=Oe q1)) ?_
 refine wA (spx 100306) ?_
 refine aa H λv6 Hj H=>jB ⟨[(1,tP 210),(2,tP 211),(3,tP 212)],(oM [.t,.n 213,.z,.z,.z] 212 34 (bw (⟨r1,v6,[],[],[],a0.dy,a0.ev,a0.qO,a0.ki⟩:ab))++[(210,.var 34 (kM [.f,.f,.f,.f,.f] (bw a0))),(211,.var 34 (kM [.z,.z,.z,.z,.z] (bw {dV with ei:=(⟨[]⟩:aS)})))]),214⟩ ?_ ?_
 .refine iT Hj (λq=>⟨[(1,tP 210),(2,tP 211),(3,tP 212),(4,tI q.1)],(oM [.t,.n 213,.z,.z,.z] 212 34 (bw (⟨r1,q.2,[],[],[],a0.dy,a0.ev,a0.qO,a0.ki⟩:ab))++[(210,.var 34 (kM [.f,.f,.f,.f,.f] (bw a0))),(211,.var 34 (kM [.z,.z,.z,.z,.z] (bw {dV with ei:=(⟨[]⟩:aS)})))]),214⟩) ?_ (by refine an (dH (o:=212) (j:=1) 93 14 true) ?_;refine an (wB 213 (([]:List aJ).length)) ?_;exact wo)
  rintro⟨v2,v3⟩ o H
  refine ad ?_
  refine cC H ?_ ?_<;>intro H
  .refine zI (f4 12) ?_
   refine aa H λx7 hx7 H=>zA (xdT (enc:=c9) hx7) ?_
   refine aa H λr8 q8 H=>zA (ca (hF:=(nT.h q8).frzs (by repeat (first|exact trivial|refine⟨?_,?_⟩|exact lm _|rfl)))) ?_
   obtain⟨h,H⟩:=rq H
   refine zB bK (fQ rfl (AJ (enc:=c9) (ys:=v3) (zs:=[r8]) h (by first|exact abW _ _|simp) rfl (λ_=>rfl) (by first|rfl|simp) (.w rfl (by first|rfl|exact lm _|simp)) rfl rfl rfl rfl rfl rfl rfl rfl rfl rfl)) bK ?_
   refine wA (spx 100290) ?_
   cases H
   refine tD ?_
   refine an (ec 213) ?_
   exact wo
  exact aE H
 refine aa H λv13 Hj H=>jB ⟨[(1,tP 210),(2,tP 211),(3,tP 212)],(oM [.t,.n 213,.n 214,.z,.z] 212 34 (bw (⟨r1,v6,v13,[],[],a0.dy,a0.ev,a0.qO,a0.ki⟩:ab))++[(210,.var 34 (kM [.f,.f,.f,.f,.f] (bw a0))),(211,.var 34 (kM [.z,.z,.z,.z,.z] (bw {dV with ei:=(⟨[]⟩:aS)})))]),215⟩ ?_ ?_
 .refine iT Hj (λq=>⟨[(1,tP 210),(2,tP 211),(3,tP 212),(5,tI q.1)],(oM [.t,.n 213,.n 214,.z,.z] 212 34 (bw (⟨r1,v6,q.2,[],[],a0.dy,a0.ev,a0.qO,a0.ki⟩:ab))++[(210,.var 34 (kM [.f,.f,.f,.f,.f] (bw a0))),(211,.var 34 (kM [.z,.z,.z,.z,.z] (bw {dV with ei:=(⟨[]⟩:aS)})))]),215⟩) ?_ (by refine an (dH (o:=212) (j:=2) 75 30 true) ?_;refine an (wB 214 (([]:List ah).length)) ?_;exact wo)
  rintro⟨v9,v10⟩ o H
  refine ad ?_
  refine cC H ?_ ?_<;>intro H
  .refine zI (f4 12) ?_
   refine aa H λx14 hx14 H=>zA (xdT (enc:=bZ) hx14) ?_
   refine aa H λr15 q15 H=>zA (ca (hF:=(wQ.h q15).frzs (by repeat (first|exact trivial|refine⟨?_,?_⟩|exact lm _|rfl)))) ?_
   obtain⟨h,H⟩:=rq H
   refine zB bK (fQ rfl (AJ (enc:=bZ) (ys:=v10) (zs:=[r15]) h (by first|exact abW _ _|simp) rfl (λ_=>rfl) (by first|rfl|simp) (.w rfl (by first|rfl|exact lm _|simp)) rfl rfl rfl rfl rfl rfl rfl rfl rfl rfl)) bK ?_
   refine wA (spx 100295) ?_
   cases H
   refine tD ?_
   refine an (ec 214) ?_
   exact wo
  exact aE H
 refine aa H λv20 Hj H=>jB ⟨[(1,tP 210),(2,tP 211),(3,tP 212)],(oM [.t,.n 213,.n 214,.n 215,.z] 212 34 (bw (⟨r1,v6,v13,v20,[],a0.dy,a0.ev,a0.qO,a0.ki⟩:ab))++[(210,.var 34 (kM [.f,.f,.f,.f,.f] (bw a0))),(211,.var 34 (kM [.z,.z,.z,.z,.z] (bw {dV with ei:=(⟨[]⟩:aS)})))]),216⟩ ?_ ?_
 .refine iT Hj (λq=>⟨[(1,tP 210),(2,tP 211),(3,tP 212),(6,tI q.1)],(oM [.t,.n 213,.n 214,.n 215,.z] 212 34 (bw (⟨r1,v6,v13,q.2,[],a0.dy,a0.ev,a0.qO,a0.ki⟩:ab))++[(210,.var 34 (kM [.f,.f,.f,.f,.f] (bw a0))),(211,.var 34 (kM [.z,.z,.z,.z,.z] (bw {dV with ei:=(⟨[]⟩:aS)})))]),216⟩) ?_ (by refine an (dH (o:=212) (j:=3) 57 4 true) ?_;refine an (wB 215 (([]:List am).length)) ?_;exact wo)
  rintro⟨v16,v17⟩ o H
  refine ad ?_
  refine cC H ?_ ?_<;>intro H
  .refine zI (f4 12) ?_
   refine aa H λx21 hx21 H=>zA (xdT (enc:=cT) hx21) ?_
   refine aa H λr22 q22 H=>zA (ca (hF:=(Gg.h q22).frzs (by repeat (first|exact trivial|refine⟨?_,?_⟩|exact lm _|rfl)))) ?_
   obtain⟨h,H⟩:=rq H
   refine zB bK (fQ rfl (AJ (enc:=cT) (ys:=v17) (zs:=[r22]) h (by first|exact abW _ _|simp) rfl (λ_=>rfl) (by first|rfl|simp) (.w rfl (by first|rfl|exact lm _|simp)) rfl rfl rfl rfl rfl rfl rfl rfl rfl rfl)) bK ?_
   refine wA (spx 100300) ?_
   cases H
   refine tD ?_
   refine an (ec 215) ?_
   exact wo
  exact aE H
 refine aa H λv27 Hj H=>jB ⟨[(2,tP 211),(3,tP 212)],(oM [.t,.n 213,.n 214,.n 215,.n 216] 212 34 (bw (⟨r1,v6,v13,v20,v27,a0.dy,a0.ev,a0.qO,a0.ki⟩:ab))++[(211,.var 34 (kM [.z,.z,.z,.z,.z] (bw {dV with ei:=(⟨[]⟩:aS)})))]),217⟩ ?_ ?_
 .refine iT Hj (λq=>⟨[(1,tP 210),(2,tP 211),(3,tP 212),(7,tI q.1)],(oM [.t,.n 213,.n 214,.n 215,.n 216] 212 34 (bw (⟨r1,v6,v13,v20,q.2,a0.dy,a0.ev,a0.qO,a0.ki⟩:ab))++[(210,.var 34 (kM [.f,.f,.f,.f,.f] (bw a0))),(211,.var 34 (kM [.z,.z,.z,.z,.z] (bw {dV with ei:=(⟨[]⟩:aS)})))]),217⟩) ?_ (by refine an (dH (o:=212) (j:=4) 49 21 true) ?_;refine an (wB 216 (([]:List bS).length)) ?_;exact wo)
  rintro⟨v23,v24⟩ o H
  refine ad ?_
  refine cC H ?_ ?_<;>intro H
  .refine zI (f4 12) ?_
   refine aa H λx28 hx28 H=>zA (xdT (enc:=eb) hx28) ?_
   refine aa H λr29 q29 H=>zA (ca (hF:=(BQ.h q29).frzs (by repeat (first|exact trivial|refine⟨?_,?_⟩|exact lm _|rfl)))) ?_
   obtain⟨h,H⟩:=rq H
   refine zB bK (fQ rfl (AJ (enc:=eb) (ys:=v24) (zs:=[r29]) h (by first|exact abW _ _|simp) rfl (λ_=>rfl) (by first|rfl|simp) (.w rfl (by first|rfl|exact lm _|simp)) rfl rfl rfl rfl rfl rfl rfl rfl rfl rfl)) bK ?_
   refine wA (spx 100305) ?_
   cases H
   refine tD ?_
   refine an (ec 216) ?_
   exact wo
  exact aE H
 cases H
 refine bF (wS 213 210) ?_
 refine bF (wS 214 211) ?_
 refine bF (wS 215 212) ?_
 refine bF (wS 216 213) ?_
 exact cg
def oV (a0:aJ):Option Bool:=
 abU (du a0.bi 2 3) λr1=>abU (bif r1 then(abU (iA a0.aZ) λr3=>some (!r3)) else(some false)) λ(v2:Bool)=>bif v2 then(some false) else(abU (oZ a0.dq) λr4=>abU (bif r4 then(abU (du a0.bi 0 3) λr6=>bif r6 then(abU (du a0.bg 0 5) λr7=>bif r7 then(abU (du a0.ag 0 999999) λr8=>bif r8 then(abU (du a0.aX 0 999999) λr9=>bif r9 then(abU (du a0.aZ 0 2147483646) λr10=>bif r10 then(abU (du a0.fA 0 3) λr11=>bif r11 then(abU (jY a0.bY) λr12=>some r12) else(some false)) else(some false)) else(some false)) else(some false)) else(some false)) else(some false)) else(some false)) λ(v5:Bool)=>some v5)
instance RS {a0:aJ} {r:Bool}:FC prog (oV a0=some r) 203 [.agg (c9 a0)] [.c (.d (.b r))]:=gF func203 ntmps203 (hb 6 11) (hb 15 2)
def kY (a0:ah):Int->Option (ct (Int) (Bool))
 |v5=>bif ltB v5 (a0.aw.aA.length:Int) then(abU (ix a0.aw.aA v5) λx6=>abU (ix a0.aG (WR (x6.c8-1))) λx7=>abU (qD x6.bb x7.bb) λr8=>bif !r8 then(dn (some false)) else(some (.next (WR (v5+1))))) else(dn (abU (pV a0.aw.aA) λr9=>abU (kQ a0.bU) λr10=>some (leB r9 r10)))
def qj (a0:ah):Int->Option (ct (Int) (Bool))
 |v1=>bif ltB v1 (a0.aG.length:Int) then(abU (ix a0.aG v1) λx2=>bif ltB 60 (x2.bb.length:Int) then(dn (some false)) else(some (.next (WR (v1+1))))) else(dn (abU (bif ltB 24 (a0.aG.length:Int) then(some true) else(abU (lW a0.aw) λr4=>bif !r4 then(some true) else(some (ltB (WR ((a0.aG.length:Int)+1)) a0.aw.bB)))) λ(v3:Bool)=>bif v3 then(some false) else(iter (kY a0) FU 0)))
def wT (a0:ah):Option Bool:=
 iter (qj a0) FU 0
instance Yo {r:Bool}:FC prog (wT a0=some r) 285 [.agg (bZ a0)] [.c (.d (.b r))]:=gF func285 ntmps285 (hl 0 3) (hb 25 40) (hl 2 4)
def pt (a0:bS) (a1:bS):Option Bool:=
 abU (bif eqB a0.bm a1.bm then(bif booB a0.eW a1.eW then(bif booB a0.ef a1.ef then(bif eqB a0.bg a1.bg then(bif(eqB a0.bA.bh a1.bA.bh&&(eqB a0.bA.bg a1.bA.bg&&(eqB a0.bA.ag a1.bA.ag&&(eqB a0.bA.aX a1.bA.aX&&(eqB a0.bA.bW a1.bA.bW&&(eqB a0.bA.cm.eC a1.bA.cm.eC&&(eqB a0.bA.cm.gm a1.bA.cm.gm&&(eqB a0.bA.cm.jE a1.bA.cm.jE&&(eqB a0.bA.cm.yI a1.bA.cm.yI&&(eqB a0.bA.cm.fo a1.bA.cm.fo&&(eqB a0.bA.jE a1.bA.jE&&true))))))))))) then(abU (ud a0.cA a1.cA) λr2=>some r2) else(some false)) else(some false)) else(some false)) else(some false)) else(some false)) λ(v1:Bool)=>some v1
instance Sf {a0:bS} {a1:bS} {r:Bool}:FC prog (pt a0 a1=some r) 65 [.agg (eb a0),.agg (eb a1)] [.c (.d (.b r))]:=gF func65 ntmps65 (hb 10 4)
def fk (a0:Int) (a1:List Int):Option Int:=
 bif da 8 ([a0]++a1).length then(bif da 8 (([a0]++a1)++[a0]).length then(abU (Qa (([a0]++a1)++[a0])) λr1=>some r1) else none) else none
instance wC {a0:Int} {a1:List Int} {r:Int}:FC prog (fk a0 a1=some r) 213 [aI a0,aL (a1.map eI)] [.c (.d (.i .i64 r))]:=⟨λH=>by
 refine fI func213 ntmps213 ?_
 obtain⟨h,H⟩:=rq H
 refine eZ rfl (apT (enc:=eI) (ys:=[a0]) (zs:=a1) h) ?_
 refine aW (gA (enc:=eI) (o:=0)) ?_
 obtain⟨h,H⟩:=rq H
 refine sA (apT (enc:=eI) (ys:=([a0]++a1)) (zs:=[a0]) h) ?_
 refine aa H λr1 q1 H=>nA (ca (hF:=Yd.h q1)) ?_
 cases H
 exact bX⟩
def zj (a0:bj):Option (Int×bj):=
 abU (jn a0 10) λr1=>bif r1.1 then(abU (Av r1.2 [-1,2147483647,2147483648]) λr2=>some (r2.1,r2.2)) else(abU (jn r1.2 4) λr3=>bif r3.1 then(abU (Av r3.2 [0,1,2147483646]) λr4=>some (r4.1,r4.2)) else(abU (cO r3.2 1000000) λr5=>abU (cO r5.2 2000) λr6=>some (WR (r5.1*r6.1),r6.2)))
theorem CH {a0:bj} {r:Int×bj} (H:zj a0=some r):FnW prog 318 (.var 135 (kM [.f] (co a0))) [tP 200] (.var 135 (kM [.f] (co r.2))) [.c (.d (.i .i64 r.1))]:=by
 refine fW func318 ntmps318 ?_
 refine aa H λr1 q1 H=>sA (cw (o:=200) (i8 q1)) ?_
 refine cC H ?_ ?_<;>intro H
 .refine aa H λr2 q2 H=>bG (aV (o:=210)) ?_
  refine bG (bN (k:=6)) ?_
  refine sA (cw (o:=200) (BK q2)) ?_
  cases H
  exact f9
 refine aa H λr3 q3 H=>sA (cw (o:=200) (i8 q3)) ?_
 refine cC H ?_ ?_<;>intro H
 .refine aa H λr4 q4 H=>bG (aV (o:=210)) ?_
  refine bG (bN (k:=11)) ?_
  refine sA (cw (o:=200) (BK q4)) ?_
  cases H
  exact f9
 refine aa H λr5 q5 H=>sA (cw (o:=200) (cp q5)) ?_
 refine aa H λr6 q6 H=>sA (cw (o:=200) (cp q6)) ?_
 cases H
 exact f9
def Kn (a0:bj):Option (Int×bj):=
 abU (jn a0 6) λr1=>bif r1.1 then(abU (Av r1.2 [0,999999,1000000,-1,998999]) λr2=>some (r2.1,r2.2)) else(abU (cO r1.2 40) λr3=>some (r3.1,r3.2))
theorem VT {a0:bj} {r:Int×bj} (H:Kn a0=some r):FnW prog 343 (.var 135 (kM [.f] (co a0))) [tP 200] (.var 135 (kM [.f] (co r.2))) [.c (.d (.i .i64 r.1))]:=by
 refine fW func343 ntmps343 ?_
 refine aa H λr1 q1 H=>sA (cw (o:=200) (i8 q1)) ?_
 refine cC H ?_ ?_<;>intro H
 .refine aa H λr2 q2 H=>bG (aV (o:=210)) ?_
  refine bG (bN (k:=6)) ?_
  refine sA (cw (o:=200) (BK q2)) ?_
  cases H
  exact f9
 refine aa H λr3 q3 H=>sA (cw (o:=200) (cp q3)) ?_
 cases H
 exact f9
def mb (a1:Int) (a2:Bool) (a3:List aH):(Int×ab)->Option (ct (Int×ab) (ab))
 |(v1,v12)=>bif ltB v1 (a3.length:Int) then(abU (ix a3 v1) λx27=>abU (ix a3 v1) λx28=>abU (gq v12 (⟨a1,a2,false,x27.bg,x28,eF⟩:bS)) λr29=>some (.next (WR (v1+1),r29))) else(some (.done v12))
def ma (a0:ab) (a1:Int) (a2:Bool) (a3:List aH):Option ab:=
 abU (iter (mb a1 a2 a3) FU (0,a0)) λ(v26:ab)=>some v26
theorem uV {a0:ab} {a1:Int} {a2:Bool} {a3:List aH} {r:ab} (H:ma a0 a1 a2 a3=some r):FnV prog 266 (nS a0) [tP 200,tI a1,tB a2,.v (.c (.d true (.l (a3.map cZ))))] (nS r) (.tup []) []:=by
 refine fV func266 ntmps266 ?_
 refine aa H λv26 Hj H=>jB ⟨[],(nS v26),210⟩ ?_ ?_
 .refine iT Hj (λq=>⟨[(0,tP 200),(1,tI a1),(2,tB a2),(3,.v (.c (.d true (.l (a3.map cZ))))),(8,tI q.1)],(nS q.2),210⟩) ?_
  rintro⟨v1,v12⟩ o H
  refine ad ?_
  refine cC H ?_ ?_<;>intro H
  .refine zI (f4 14) ?_
   refine aa H λx27 hx27 H=>zA (xdT (enc:=cZ) hx27) ?_
   refine aa H λx28 hx28 H=>zA (xdT (enc:=cZ) hx28) ?_
   refine aa H λr29 q29 H=>zB bK (fQ rfl (cwu m0 [] 210 (tp q29))) bK ?_
   exact aN H
  exact aE H
 cases H
 exact mO
def tk (a0:ah) (a1:am):Option bM:=
 abU (jo a0) λr1=>abU (ni a1) λr2=>some {cj with aU:=r1,d8:=r2}
instance Ay {a1:am} {r:bM}:FC prog (tk a0 a1=some r) 321 [.agg (bZ a0),.agg (cT a1)] [.agg (qM [.o,.o,.o,.o,.o,.o] (bD r))]:=gF func321 ntmps321 (hz 1)
def rQ (a0:am) (a1:cP):Option (am×cP):=
 abU (fZ a0 a1) λr1=>bif !r1 then(abU (ni a0) λr2=>some (r2,a1)) else(abU (J4 a0 a1.aC a1.er) λr3=>some (r3.1,(⟨a1.aC,WR (a1.cS-a1.er),0⟩:cP)))
instance F1 {a0:am} {a1:cP} {r:am×cP}:FC prog (rQ a0 a1=some r) 322 [.agg (cT a0),.agg (mf a1)] [.agg (qM [.o] (cq r.1)),.agg (qM [] (yQ r.2))]:=gF func322 ntmps322 (hz 2) (hz 4)
def o5 (a0:ah) (a1:Int):Option Int:=
 abU (o4 a0) λr1=>abU (kQ a0.bU) λr2=>abU (FQ 0 (WR ((WR (r1+a1))-r2))) λr3=>some r3
instance FZ {a1:Int} {r:Int}:FC prog (o5 a0 a1=some r) 349 [.agg (bZ a0),aI a1] [.c (.d (.i .i64 r))]:=gF func349 ntmps349
def qg (a0:am) (a1:cP) (a2:Int):Option (am×cP):=
 abU (BF a0 a1.aC a2) λr1=>abU (fZ a0 a1) λr2=>abU (bif !r2 then(some true) else(abU (iB {a1 with cS:=WR (a1.cS+r1.2)}) λr4=>some (!r4))) λ(v3:Bool)=>bif v3 then(abU (ni a0) λr5=>some (r5,a1)) else(some (r1.1,{a1 with cS:=WR (a1.cS+r1.2)}))
instance SN {a0:am} {a1:cP} {a2:Int} {r:am×cP}:FC prog (qg a0 a1 a2=some r) 365 [.agg (cT a0),.agg (mf a1),aI a2] [.agg (qM [.o] (cq r.1)),.agg (qM [] (yQ r.2))]:=gF func365 ntmps365 (hb 29 33) (hz 5) (hz 6)
def pk (a0:ah):Option bI:=
 abU (jo a0) λr1=>some (⟨r1,([]:List aH)⟩:bI)
instance Ax {r:bI}:FC prog (pk a0=some r) 352 [.agg (bZ a0)] [.agg (qM [.o,.o,.o,.o] (eh r))]:=gF func352 ntmps352
def wy (a0:aJ):Option aJ:=
 abU (kS a0) λr1=>abU (bif eqB a0.bi 2 then(some 3) else(some r1.bi)) λ(v2:Int)=>some {r1 with bi:=v2}
instance J5 {a0:aJ} {r:aJ}:FC prog (wy a0=some r) 270 [.agg (c9 a0)] [.agg (qM [.o,.o] (dF r))]:=⟨λH=>by
 refine fI func270 ntmps270 ?_
 refine aa H λr1 q1 H=>nA (ca (hF:=nT.h q1)) ?_
 refine aa H λv2 Hj H=>jA ⟨[(2,tP 1),(3,tP 4)],(oM [.w 2,.w 3] 4 93 (dF {r1 with bi:=v2})++[(1,.var 93 (kM [.z,.z] (dF vP)))]),5⟩ ?_ ?_
 .exact az Hj
 cases H
 exact bX⟩
def y4 (a0:ah):Option ah:=
 abU (jo a0) λr1=>some {r1 with aK:=cr,bL:=0,dX:=0,gr:=ed,dP:=0}
instance Mi {r:ah}:FC prog (y4 a0=some r) 274 [.agg (bZ a0)] [.agg (qM [.o,.o,.o] (c7 r))]:=gF func274 ntmps274
end Go.AM
