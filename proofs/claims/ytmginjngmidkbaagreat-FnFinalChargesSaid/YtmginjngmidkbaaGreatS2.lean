/- A part. -/
import Derived.Test.YtmginjngmidkbaaGreatS1
set_option linter.unusedVariables false
open Option renaming bind->abU
open List renaming range->f4
namespace Go.AM
open Go.Proofs
open Tryz
attribute [local irreducible] AWN NS AWO AWR AWC DR DZ dS gp iter
set_option maxRecDepth 100000
set_option maxHeartbeats 40000000
variable {a1:Int} {r:Bool}
def jn (a0:bj) (a1:Int):Option (Bool×bj):=
 abU (cO a0 a1) λr1=>some (eqB r1.1 0,r1.2)
theorem i8 {a0:bj} {r:Bool×bj} (H:jn a0 a1=some r):FnW prog 180 (.var 135 (kM [.f] (co a0))) [tP 200,tI a1] (.var 135 (kM [.f] (co r.2))) [.c (.d (.b r.1))]:=by
 refine fW func180 ntmps180 ?_
 refine aa H λr1 q1 H=>sA (cw (o:=200) (cp q1)) ?_
 cases H
 exact f9
def eR (a0:aO):Option Bool:=
 abU (gW a0.ID) λr1=>abU (bif r1 then(abU (iA a0.fo) λr3=>bif r3 then(abU (du a0.c8 0 999999) λr4=>some r4) else(some false)) else(some false)) λ(v2:Bool)=>some v2
instance FO {a0:aO} :FC prog (eR a0=some r) 283 [.agg (dO a0)] [.c (.d (.b r))]:=gF func283 ntmps283 (hb 6 2)
def Az (a0:bj):Option (Int×bj):=
 abU (cO a0 6) λr1=>some (WR (100+r1.1),r1.2)
theorem Mz {a0:bj} {r:Int×bj} (H:Az a0=some r):FnW prog 250 (.var 135 (kM [.f] (co a0))) [tP 200] (.var 135 (kM [.f] (co r.2))) [.c (.d (.i .i64 r.1))]:=by
 refine fW func250 ntmps250 ?_
 refine aa H λr1 q1 H=>sA (cw (o:=200) (cp q1)) ?_
 cases H
 exact f9
def jo (a0:ah):Option ah:=
 abU (vM a0.gG) λr1=>abU (tf a0.aG) λr2=>abU (nR a0.aw) λr3=>some {a0 with gG:=r1,aG:=r2,aw:=r3}
instance wQ {a0:ah} {r:ah}:FC prog (jo a0=some r) 185 [.agg (bZ a0)] [.agg (qM [.o,.o,.o] (c7 r))]:=gF func185 ntmps185
def kS (a0:aJ):Option aJ:=
 abU (yw a0.bY) λr1=>some {a0 with bY:=r1}
instance nT {a0:aJ} {r:aJ}:FC prog (kS a0=some r) 184 [.agg (c9 a0)] [.agg (qM [.o,.o] (dF r))]:=gF func184 ntmps184
def gq (a0:ab) (a1:bS):Option ab:=
 bif leB 200 (a0.aT.length:Int) then(some {a0 with ki:=WR (a0.ki+1)}) else(abU (tl a1) λr1=>bif da 176 (a0.aT++[r1]).length then(some {a0 with aT:=(a0.aT++[r1])}) else none)
theorem tp {a0:ab} {a1:bS} {r:ab} (H:gq a0 a1=some r):FnV prog 182 (nS a0) [tP 200,.v (.agg (kM [.t] (mN a1)))] (nS r) (.tup []) []:=by
 refine fV func182 ntmps182 ?_
 refine cC H ?_ ?_<;>intro H
 .cases H
  exact cg
 refine OQ 0 18 0 [1,2,3,4,5,6,7,8,9,10,11] Try.follows (by kernel_rfl) (by kernel_rfl) rfl (by kernel_rfl) rfl rfl ?_
 refine wI ?_
 refine aa H λr1 q1 H=>zA (ca (hF:=(BQ.h q1).frzs (by repeat (first|exact trivial|refine⟨?_,?_⟩|exact lm _|rfl)))) ?_
 obtain⟨h,H⟩:=rq H
 refine zB bK (fQ rfl (AJ (enc:=eb) (ys:=a0.aT) (zs:=[r1]) h (by first|exact List.cons_ne_nil _ _|simp) rfl (λ_=>rfl) (by first|rfl|simp) (.w rfl (by first|rfl|exact lm _|simp)) rfl rfl rfl rfl rfl rfl rfl rfl rfl rfl)) bK ?_
 refine wA (spx 100084) ?_
 cases H
 refine bF ((ec 193)) ?_
 exact mO
def oZ (a0:lC):Option Bool:=
 abU (gW a0.ID) λr1=>abU (bif r1 then(abU (iA a0.fo) λr3=>bif r3 then(abU (du a0.dv 0 999999) λr4=>some r4) else(some false)) else(some false)) λ(v2:Bool)=>some v2
instance VE {a0:lC} :FC prog (oZ a0=some r) 281 [.agg (EE a0)] [.c (.d (.b r))]:=gF func281 ntmps281 (hb 6 2)
def kQ (a0:cP):Option Int:=
 abU (iB a0) λr1=>bif !r1 then(some 0) else(some (WR (a0.cS-a0.er)))
instance Qf {a0:cP} {r:Int}:FC prog (kQ a0=some r) 79 [.agg (mf a0)] [.c (.d (.i .i64 r))]:=gF func79 ntmps79
def fZ (a0:am) (a1:cP):Option Bool:=
 abU (ig a0) λr1=>abU (bif r1 then(abU (iB a1) λr3=>bif r3 then(abU (pa a0 a1.aC) λr4=>some (eqB r4 a1.cS)) else(some false)) else(some false)) λ(v2:Bool)=>some v2
instance Ka {a0:am} {a1:cP} :FC prog (fZ a0 a1=some r) 206 [.agg (cT a0),.agg (mf a1)] [.c (.d (.b r))]:=gF func206 ntmps206 (hb 7 4)
def ud (a0:ax) (a1:ax):Option Bool:=
 abU (bif eqB a0.ag a1.ag then(bif eqB a0.aX a1.aX then(abU (uT a0.bC a1.bC) λr2=>some r2) else(some false)) else(some false)) λ(v1:Bool)=>some v1
instance WE {a0:ax} {a1:ax} :FC prog (ud a0 a1=some r) 123 [.agg (db a0),.agg (db a1)] [.c (.d (.b r))]:=gF func123 ntmps123 (hb 10 4)
def yn (a0:List Int):(Int×Int)->Option (ct (Int×Int) (Int))
 |(v1,v2)=>bif ltB v2 (a0.length:Int) then(abU (ix a0 v2) λx6=>abU (Hc x6 2147483647) λr7=>some (.next (Int.tmod (WR ((WR ((WR (v1*1000003))+r7))+13)) 2147483647,WR (v2+1)))) else(some (.done v1))
def Qa (a0:List Int):Option Int:=
 abU (iter (yn a0) FU (11,0)) λ(v5:Int)=>some v5
instance Yd {a0:List Int} {r:Int}:FC prog (Qa a0=some r) 294 [aL (a0.map eI)] [.c (.d (.i .i64 r))]:=gF func294 ntmps294 (hm 0 3 4) (he 0 3 4)
def Av (a0:bj) (a1:List Int):Option (Int×bj):=
 abU (cO a0 (a1.length:Int)) λr1=>abU (ix a1 r1.1) λx2=>some (x2,r1.2)
theorem BK {a0:bj} {a1:List Int} {r:Int×bj} (H:Av a0 a1=some r):FnW prog 344 (.var 135 (kM [.f] (co a0))) [tP 200,.v (.c (.d false (.l (a1.map eI))))] (.var 135 (kM [.f] (co r.2))) [.c (.d (.i .i64 r.1))]:=by
 refine fW func344 ntmps344 ?_
 refine aa H λr1 q1 H=>sA (cw (o:=200) (cp q1)) ?_
 refine aa H λx2 hx2 H=>nA (xdT (enc:=eI) hx2) ?_
 cases H
 exact f9
def J4 (a0:am) (a1:Int) (a2:Int):Option (am×Bool):=
 abU (ni a0) λr1=>abU (ig a0) λr2=>abU (bif !r2 then(some true) else(abU (pa a0 a1) λr4=>abU (du a2 0 r4) λr5=>some (!r5))) λ(v3:Bool)=>bif v3 then(some (r1,false)) else(abU (bif ltB 0 a2 then(abU (qJ a0 a1) λr9=>abU (D0 a0.aj r9 a2) λr10=>some {r1 with eg:=WR (a0.eg+a2),aj:=r10}) else(some r1)) λ(v8:am)=>some (v8,true))
instance sDebit_c {a0:am} {a2:Int} {r:am×Bool}:FC prog (J4 a0 a1 a2=some r) 345 [.agg (cT a0),aI a1,aI a2] [.agg (qM [.o] (cq r.1)),.c (.d (.b r.2))]:=⟨λH=>by
 refine fI func345 ntmps345 ?_
 refine aa H λr1 q1 H=>nA (ca (hF:=Gg.h q1)) ?_
 refine aa H λr2 q2 H=>nA (ca (hF:=BD.h q2)) ?_
 refine aa H λv3 Hj H=>jR ⟨[(1,tI a1),(2,tI a2),(3,tP 0),(6,tP 1),(8,tP 3),(21,tB v3)],(oM [.w 2] 3 57 (cq r1)++[(0,.var 57 (kM [.f] (cq a0))),(1,.var 57 (kM [.z] (cq i9)))]),4⟩ ?_ ?_
 .refine gC Hj ?_ ?_<;>intro H
  .exact ai H
  refine aa H λr4 q4 H=>nG (ca (hF:=F2.h q4)) ?_
  refine aa H λr5 q5 H=>nG (ca (hF:=nC.h q5)) ?_
  exact ai H
 refine cC H ?_ ?_<;>intro H
 .exact ao H
 refine aa H λv8 Hj H=>jA ⟨[(6,tP 1),(8,tP 3)],(oM [.w 4] 3 57 (cq v8)++[(1,.var 57 (kM [.z] (cq i9)))]),5⟩ ?_ ?_
 .refine cC Hj ?_ ?_<;>intro H
  .refine zI (f4 9) ?_
   refine aa H λr9 q9 H=>zA (ca (hF:=Oh.h q9)) ?_
   refine aa H λr10 q10 H=>zA (ca (hF:=Sb.h q10)) ?_
   refine wA (spx 100340) ?_
   exact ai H
  cases H
  refine an (uI (nx':=5) rfl) ?_
  refine an (wS 4 2) ?_
  exact wo
 cases H
 exact bX⟩
def um (a0:cN) (a1:aS):Option (cN×List Int):=
 bif ltB 0 a0.fA then(some ({a0 with fA:=WR (a0.fA-1)},([]:List Int))) else(abU (bif ltB a0.eX 4 then(some (WR (a0.eX+1))) else(some 1)) λ(v1:Int)=>abU (rP a1 a0.f6 v1) λr2=>some ((⟨a0.f6,v1,3⟩:cN),r2))
instance Hi {a0:cN} {a1:aS} {r:cN×List Int}:FC prog (um a0 a1=some r) 346 [.agg (pY a0),.agg (gu a1)] [.agg (qM [] (iw r.1)),.c (.own 3 1 (r.2.map eI) r.2.length)]:=⟨λH=>by
 refine fI func346 ntmps346 ?_
 refine cC H ?_ ?_<;>intro H
 .exact ao H
 refine aa H λv1 Hj H=>jA ⟨[(2,tP 0),(3,tP 1),(4,tP 2),(6,tP 3)],[(0,.var 67 (kM [] (iw a0))),(1,.var 26 [.d false (.l (a1.a8.map dK))]),(2,.var 67 (kM [] (iw ed))),(3,.var 67 (kM [] (iw {a0 with eX:=v1})))],4⟩ ?_ ?_
 .exact az Hj
 refine zI (f4 9) ?_
 refine aa H λr2 q2 H=>zA (ca (hF:=FW.h q2)) ?_
 refine wA (spx 100350) ?_
 cases H
 exact bX⟩
def BF (a0:am) (a1:Int) (a2:Int):Option (am×Int):=
 abU (ni a0) λr1=>abU (ig a0) λr2=>abU (bif !r2 then(some true) else(bif ltB a1 0 then(some true) else(abU (du a2 1 100000) λr4=>bif !r4 then(some true) else(bif eqB a0.bz 0 then(some true) else(bif leB 8 (a0.aj.length:Int) then(abU (qJ a0 a1) λr5=>some (ltB r5 0)) else(some false)))))) λ(v3:Bool)=>bif v3 then(some (r1,0)) else(abU (FT a2 a0.bz) λr6=>abU (DY a0.aj a1 r6) λr7=>some ({r1 with bz:=WR (a0.bz-r6),aj:=r7},r6))
instance sReserve_c {a0:am} {a2:Int} {r:am×Int}:FC prog (BF a0 a1 a2=some r) 377 [.agg (cT a0),aI a1,aI a2] [.agg (qM [.o] (cq r.1)),.c (.d (.i .i64 r.2))]:=gF func377 ntmps377 (hb 14 39)
def qH (a0:a9) (a1:List Int):Option (a9×ae×Bool):=
 abU (nR a0) λr1=>bif da 1 (([]:List Int)++a1).length then(bif da 1 (([]:List Int)++a1).length then(bif da 32 (r1.aA++[(⟨a0.bB,(([]:List Int)++a1)⟩:ae)]).length then(abU (lW (⟨WR (a0.bB+1),(r1.aA++[(⟨a0.bB,(([]:List Int)++a1)⟩:ae)])⟩:a9)) λr2=>bif !r2 then(abU (nR a0) λr3=>some (r3,bT,false)) else(some ((⟨WR (a0.bB+1),(r1.aA++[(⟨a0.bB,(([]:List Int)++a1)⟩:ae)])⟩:a9),(⟨a0.bB,(([]:List Int)++a1)⟩:ae),true))) else none) else none) else none
theorem F5 {a0:a9} {a1:List Int} {r:a9×ae×Bool} (H:qH a0 a1=some r) (hflag:r.2.2=true):Fn prog 350 [.agg (gH a0),aL (a1.map eU8)] [.agg (qM [.o] (dx r.1)),.agg (qM [.o] (dh r.2.1)),.c (.d (.b r.2.2))]:=by
 refine fI func350 ntmps350 ?_
 refine aa H λr1 q1 H=>nA (ca (hF:=pj.h q1)) ?_
 refine zI [0,1,2,3,6,4,5,7] ?_
 obtain⟨h,H⟩:=rq H
 refine wA (GI (enc:=eU8) (ys:=([]:List Int)) (zs:=a1) [5] h) ?_
 refine wA (spx 100390) ?_
 refine nn (ds:=[5]) (by kernel_rfl) (by kernel_rfl) rfl ?_
 refine wI ?_
 refine zI (f4 12) ?_
 obtain⟨h,H⟩:=rq H
 refine wA (Hs (enc:=eU8) (ys:=([]:List Int)) (zs:=a1) [8] h) ?_
 obtain⟨h,H⟩:=rq H
 refine wb (ds:=[8]) (by kernel_rfl) (by kernel_rfl) rfl (by kernel_rfl) bK (fQ rfl (apT (enc:=aM) (ys:=r1.aA) (zs:=[(⟨a0.bB,(([]:List Int)++a1)⟩:ae)]) h)) bK rfl ?_
 refine wI ?_
 refine wA (spx 100389) ?_
 refine aa H λr2 q2 H=>nA (ca (hF:=vA.h q2)) ?_
 refine cC H ?_ ?_<;>intro H
 .refine aa H λr3 q3 H=>nA (ca (hF:=pj.h q3)) ?_
  cases H
  cases hflag
 refine zI (f4 5) ?_
 refine wA (spx 100388) ?_
 refine wA (spx 100387) ?_
 exact ao H
theorem F4 {a0:a9} {a1:List Int} {r:a9×ae×Bool} (H:qH a0 a1=some r) (hflag:r.2.2=false):Fn prog 350 [.agg (gH a0),aL (a1.map eU8)] [.agg (qM [.o] (dx r.1)),.agg (qM [.z] (dh r.2.1)),.c (.d (.b r.2.2))]:=by
 refine fI func350 ntmps350 ?_
 refine aa H λr1 q1 H=>nA (ca (hF:=pj.h q1)) ?_
 refine zI [0,1,2,3,6,4,5,7] ?_
 obtain⟨h,H⟩:=rq H
 refine wA (GI (enc:=eU8) (ys:=([]:List Int)) (zs:=a1) [5] h) ?_
 refine wA (spx 100394) ?_
 refine nn (ds:=[5]) (by kernel_rfl) (by kernel_rfl) rfl ?_
 refine wI ?_
 refine zI (f4 12) ?_
 obtain⟨h,H⟩:=rq H
 refine wA (Hs (enc:=eU8) (ys:=([]:List Int)) (zs:=a1) [8] h) ?_
 obtain⟨h,H⟩:=rq H
 refine wb (ds:=[8]) (by kernel_rfl) (by kernel_rfl) rfl (by kernel_rfl) bK (fQ rfl (apT (enc:=aM) (ys:=r1.aA) (zs:=[(⟨a0.bB,(([]:List Int)++a1)⟩:ae)]) h)) bK rfl ?_
 refine wI ?_
 refine wA (spx 100393) ?_
 refine aa H λr2 q2 H=>nA (ca (hF:=vA.h q2)) ?_
 refine cC H ?_ ?_<;>intro H
 .refine aa H λr3 q3 H=>nA (ca (hF:=pj.h q3)) ?_
  exact ao H
 refine zI (f4 5) ?_
 refine wA (spx 100392) ?_
 refine wA (spx 100391) ?_
 cases H
 cases hflag
def gV (a0:a9) (a1:Int):(Int×List ae)->Option (ct (Int×List ae) (List ae))
 |(v2,v3)=>bif ltB v2 (a0.aA.length:Int) then(abU (ix a0.aA v2) λx9=>abU (bif leB a1 x9.c8 then(abU (ix a0.aA v2) λx11=>abU (ix a0.aA v2) λx12=>bif da 1 (([]:List Int)++x12.bb).length then(bif da 32 (v3++[(⟨x11.c8,(([]:List Int)++x12.bb)⟩:ae)]).length then(some (v3++[(⟨x11.c8,(([]:List Int)++x12.bb)⟩:ae)])) else none) else none) else(some v3)) λ(v10:List ae)=>some (.next (WR (v2+1),v10))) else(some (.done v3))
def lv (a0:a9) (a1:Int):Option a9:=
 abU (nR a0) λr1=>bif ltB a0.bB a1 then(some r1) else(abU (iter (gV a0 a1) FU (0,([]:List ae))) λ(v8:List ae)=>some (⟨r1.bB,v8⟩:a9))
instance M3 {a0:a9} {r:a9}:FC prog (lv a0 a1=some r) 371 [.agg (gH a0),aI a1] [.agg (qM [.o] (dx r))]:=⟨λH=>by
 refine fI func371 ntmps371 ?_
 refine aa H λr1 q1 H=>nA (ca (hF:=pj.h q1)) ?_
 refine cC H ?_ ?_<;>intro H
 .exact ao H
 refine aa H λv8 Hj H=>jB ⟨[(4,tP 1),(5,tP 3)],(oM [.w 4] 3 71 (dx (⟨r1.bB,v8⟩:a9))++[(1,.var 71 (kM [.z] (dx kA)))]),5⟩ ?_ ?_
 .refine iT Hj (λq=>⟨[(1,tI a1),(2,tP 0),(4,tP 1),(5,tP 3),(6,tI q.1)],(oM [.w 4] 3 71 (dx (⟨r1.bB,q.2⟩:a9))++[(0,.var 71 (kM [.f] (dx a0))),(1,.var 71 (kM [.z] (dx kA)))]),5⟩) ?_ (by refine an (wB 4 (([]:List ae).length)) ?_;exact wo)
  rintro⟨v2,v3⟩ o H
  refine ad ?_
  refine cC H ?_ ?_<;>intro H
  .refine aa H λx9 hx9 H=>nA (xdT (enc:=aM) hx9) ?_
   refine aa H λv10 Hj H=>jA ⟨[(1,tI a1),(2,tP 0),(4,tP 1),(5,tP 3),(6,tI v2)],(oM [.w 4] 3 71 (dx (⟨r1.bB,v10⟩:a9))++[(0,.var 71 (kM [.f] (dx a0))),(1,.var 71 (kM [.z] (dx kA)))]),5⟩ ?_ ?_
   .refine cC Hj ?_ ?_<;>intro H
    .refine zI (f4 21) ?_
     refine aa H λx11 hx11 H=>zA (xdT (enc:=aM) hx11) ?_
     refine aa H λx12 hx12 H=>zA (xdT (enc:=aM) hx12) ?_
     obtain⟨h,H⟩:=rq H
     refine wA (Hs (enc:=eU8) (ys:=([]:List Int)) (zs:=x12.bb) [5] h) ?_
     obtain⟨h,H⟩:=rq H
     refine wb (ds:=[5]) (by kernel_rfl) (by kernel_rfl) rfl (by kernel_rfl) bK (fQ rfl (apT (enc:=aM) (ys:=v3) (zs:=[(⟨x11.c8,(([]:List Int)++x12.bb)⟩:ae)]) h)) bK rfl ?_
     refine wI ?_
     refine wA (spx 100436) ?_
     exact ai H
    exact ai H
   exact aN H
  exact aE H
 cases H
 exact bX⟩
def qd (a0:cP) (a1:Int):Option (cP×Bool):=
 abU (iB a0) λr1=>abU (bif !r1 then(some true) else(abU (du a1 0 (WR (a0.cS-a0.er))) λr3=>some (!r3))) λ(v2:Bool)=>bif v2 then(some (a0,false)) else(some ({a0 with er:=WR (a0.er+a1)},true))
instance SH {a0:cP} {r:cP×Bool}:FC prog (qd a0 a1=some r) 372 [.agg (mf a0),aI a1] [.agg (qM [] (yQ r.1)),.c (.d (.b r.2))]:=gF func372 ntmps372 (hb 10 19)
def ly (a1:ae) (r1:aP):Int->Option (ct (Int) (Int))
 |v6=>abU (bif ltB v6 (r1.aK.length:Int) then(abU (ix r1.aK v6) λx11=>some (ltB x11.c8 a1.c8)) else(some false)) λ(v10:Bool)=>bif v10 then(some (.next (WR (v6+1)))) else(some (.done v6))
def uj:aP->Option (ct (aP) (aP))
 |v15=>abU (bif ltB 0 (v15.aK.length:Int) then(abU (ix v15.aK 0) λx24=>bif eqB x24.c8 v15.bB then(some (ltB (v15.be.length:Int) 24)) else(some false)) else(some false)) λ(v23:Bool)=>bif v23 then(abU (ix v15.aK 0) λx25=>bif da 24 (v15.be++[(⟨x25.bb⟩:bV)]).length then(bif eS v15.aK 1 v15.aK.length then(some (.next (⟨WR (v15.bB+1),v15.aK.drop ((1:Int)).toNat,(v15.be++[(⟨x25.bb⟩:bV)])⟩:aP))) else none) else none) else(some (.done v15))
def o7 (a0:aP) (a1:ae):Option aP:=
 abU (yw a0) λr1=>abU (jY a0) λr2=>abU (bif !r2 then(some true) else(bif ltB 60 (a1.bb.length:Int) then(some true) else(abU (du a1.c8 a0.bB (WR ((WR (a0.bB+8))-1))) λr4=>bif !r4 then(some true) else(abU (Gi a0.aK a1.c8) λr5=>bif leB 0 r5 then(some true) else(some (leB 24 (a0.be.length:Int))))))) λ(v3:Bool)=>bif v3 then(some r1) else(abU (iter (ly a1 r1) FU 0) λ(v9:Int)=>bif da 1 (([]:List Int)++a1.bb).length then(bif eS r1.aK 0 v9 then(bif eS r1.aK v9 r1.aK.length then(bif da 32 (([]:List ae)++(r1.aK.take (v9).toNat)).length then(bif da 32 ((([]:List ae)++(r1.aK.take (v9).toNat))++[(⟨a1.c8,(([]:List Int)++a1.bb)⟩:ae)]).length then(bif da 32 (((([]:List ae)++(r1.aK.take (v9).toNat))++[(⟨a1.c8,(([]:List Int)++a1.bb)⟩:ae)])++(r1.aK.drop (v9).toNat)).length then(abU (iter (uj) FU {r1 with aK:=(((([]:List ae)++(r1.aK.take (v9).toNat))++[(⟨a1.c8,(([]:List Int)++a1.bb)⟩:ae)])++(r1.aK.drop (v9).toNat))}) λ(v22:aP)=>abU (bif eqB (v22.be.length:Int) 24 then(some ([]:List ae)) else(some v22.aK)) λ(v26:List ae)=>some {v22 with aK:=v26}) else none) else none) else none) else none) else none) else none)
instance CA {a0:aP} {a1:ae} {r:aP}:FC prog (o7 a0 a1=some r) 358 [.agg (hU a0),.agg (aM a1)] [.agg (qM [.d,.o] (b9 r))]:=⟨λH=>by
 refine fI func358 ntmps358 ?_
 refine aa H λr1 q1 H=>nA (ca (hF:=Ok.h q1)) ?_
 refine aa H λr2 q2 H=>nA (ca (hF:=Ap.h q2)) ?_
 refine aa H λv3 Hj H=>jR ⟨[(3,tP 1),(4,tP 2),(5,tP 5),(44,tB v3)],(oM [.w 3,.w 4] 5 91 (b9 r1)++[(1,.var 131 (kM [.f] (dh a1))),(2,.var 91 (kM [.z,.z] (b9 de)))]),6⟩ ?_ ?_
 .refine gC Hj ?_ ?_<;>intro H
  .exact ai H
  refine gC H ?_ ?_<;>intro H
  .exact ai H
  refine aa H λr4 q4 H=>nG (ca (hF:=nC.h q4)) ?_
  refine gC H ?_ ?_<;>intro H
  .exact ai H
  refine aa H λr5 q5 H=>nG (ca (hF:=Oj.h q5)) ?_
  exact az H
 refine cC H ?_ ?_<;>intro H
 .cases H
  refine dR (aV (o:=3)) ?_
  refine dR (cz (o:=2)) ?_
  exact bX
 refine aa H λv9 Hj H=>jB ⟨[(3,tP 1),(4,tP 2),(5,tP 5),(6,tI v9)],(oM [.w 3,.w 4] 5 91 (b9 r1)++[(1,.var 131 (kM [.f] (dh a1))),(2,.var 91 (kM [.z,.z] (b9 de)))]),6⟩ ?_ ?_
 .refine iT Hj (λq=>⟨[(3,tP 1),(4,tP 2),(5,tP 5),(6,tI q)],(oM [.w 3,.w 4] 5 91 (b9 r1)++[(1,.var 131 (kM [.f] (dh a1))),(2,.var 91 (kM [.z,.z] (b9 de)))]),6⟩) ?_
  rintro v6 o H
  refine ad ?_
  refine dI ?_
  refine aa H λv10 Hj H=>yO ⟨[(3,tP 1),(4,tP 2),(5,tP 5),(6,tI v6),(61,tB v10)],(oM [.w 3,.w 4] 5 91 (b9 r1)++[(1,.var 131 (kM [.f] (dh a1))),(2,.var 91 (kM [.z,.z] (b9 de)))]),6⟩ ?_ ?_
  .have H:=Hj
   refine wI ?_
   refine dC H ?_ ?_<;>intro H
   .refine aa H λx11 hx11 H=>dG (xwT hx11) ?_
    refine dG (oe (he:=ez _ hx11)) ?_
    refine wI ?_
    exact ai H
   refine wI ?_
   exact ai H
  refine wI ?_
  refine cC H ?_ ?_<;>intro H
  .refine wI ?_
   exact aN H
  exact aE H
 refine zI [0,1,2,3,4,7,5,6,8] ?_
 obtain⟨h,H⟩:=rq H
 refine wA (GI (enc:=eU8) (ys:=([]:List Int)) (zs:=a1.bb) [6] h) ?_
 refine wA (spx 100452) ?_
 refine nn (ds:=[6]) (by kernel_rfl) (by kernel_rfl) rfl ?_
 refine wI ?_
 refine oi (aV (o:=8)) ?_
 refine oi (bN (k:=69)) ?_
 refine oi (bN (k:=70)) ?_
 refine oi (cz (o:=7)) ?_
 refine zI [0,1,2,3,4,6,7,9,10,11,12,5,8,13,14,15] ?_
 obtain⟨hs10,H⟩:=rq H
 refine zA (Zv (enc:=aM) hs10 (by first|rfl|simp) rfl rfl rfl rfl) ?_
 obtain⟨hs11,H⟩:=rq H
 refine zA (Nh (enc:=aM) hs11 (by first|rfl|simp) rfl rfl rfl rfl) ?_
 obtain⟨h,H⟩:=rq H
 refine wA (apx (enc:=aM) (ys:=([]:List ae)) (zs:=r1.aK.take (v9).toNat) [9,3] h (hs:=VU (enc:=aM) hs10 rfl)) ?_
 obtain⟨h,H⟩:=rq H
 refine wA (apx (enc:=aM) (ys:=(([]:List ae)++(r1.aK.take (v9).toNat))) (zs:=[(⟨a1.c8,(([]:List Int)++a1.bb)⟩:ae)]) [11,10] h) ?_
 obtain⟨h,H⟩:=rq H
 refine wA (apx (enc:=aM) (ys:=((([]:List ae)++(r1.aK.take (v9).toNat))++[(⟨a1.c8,(([]:List Int)++a1.bb)⟩:ae)])) (zs:=r1.aK.drop (v9).toNat) [12,3] h (hs:=MC (enc:=aM) hs11 (by first|rfl|simp) rfl)) ?_
 refine wA (spx 100451) ?_
 refine nn (ds:=[9,11,12]) (by kernel_rfl) (by kernel_rfl) rfl ?_
 refine wI ?_
 refine aa H λv22 Hj H=>jB ⟨[(4,tP 2),(5,tP 5)],(oM [.t,.w 4] 5 91 (b9 v22)++[(2,.var 91 (kM [.z,.z] (b9 de)))]),6⟩ ?_ ?_
 .refine iT Hj (λq=>⟨[(4,tP 2),(5,tP 5)],(oM [.t,.w 4] 5 91 (b9 q)++[(2,.var 91 (kM [.z,.z] (b9 de)))]),6⟩) ?_ (by refine an (aV (o:=13)) ?_;refine an (bN (k:=84)) ?_;refine an (cz (o:=5)) ?_;exact wo)
  rintro v15 o H
  refine ad ?_
  refine dI ?_
  refine aa H λv23 Hj H=>yO ⟨[(4,tP 2),(5,tP 5),(105,tB v23)],(oM [.t,.w 4] 5 91 (b9 v15)++[(2,.var 91 (kM [.z,.z] (b9 de)))]),6⟩ ?_ ?_
  .have H:=Hj
   refine wI ?_
   refine dC H ?_ ?_<;>intro H
   .refine aa H λx24 hx24 H=>dG (xdT (enc:=aM) hx24) ?_
    refine dC H ?_ ?_<;>intro H
    .refine wI ?_
     exact ai H
    refine wI ?_
    exact ai H
   refine wI ?_
   exact ai H
  refine wI ?_
  refine cC H ?_ ?_<;>intro H
  .refine zI (f4 12) ?_
   refine aa H λx25 hx25 H=>zA (xdT (enc:=aM) hx25) ?_
   obtain⟨h,H⟩:=rq H
   refine zB bK (fQ rfl (apT (enc:=ee) (ys:=v15.be) (zs:=[(⟨x25.bb⟩:bV)]) h)) bK ?_
   refine wA (spx 100450) ?_
   obtain⟨h,H⟩:=rq H
   refine nA (QM (enc:=aM) h (λ_=>rfl) rfl rfl rfl) ?_
   exact aN H
  exact aE H
 refine aa H λv26 Hj H=>jA ⟨[(4,tP 2),(5,tP 5)],(oM [.t,.w 4] 5 91 (b9 {v22 with aK:=v26})++[(2,.var 91 (kM [.z,.z] (b9 de)))]),6⟩ ?_ ?_
 .refine cC Hj ?_ ?_<;>intro H
  .cases H
   refine an (aV (o:=6)) ?_
   refine an (bN (k:=129)) ?_
   refine an (cz (o:=5)) ?_
   exact wo
  exact ai H
 cases H
 exact bX⟩
def BS (a0:ab) (a1:Int) (a2:Bool):Option (Bool×ab):=
 abU (du a1 0 (WR ((a0.ei.a8.length:Int)-1))) λr1=>abU (bif !r1 then(some true) else(abU (vz a0 a1) λr3=>some (booB r3 a2))) λ(v2:Bool)=>bif v2 then(some (false,a0)) else(bif leB 0 a1 then(some (true,{a0 with dy:=IU .i64 a0.dy (md .i64 1 a1)})) else none)
theorem Om {a0:ab} {a2:Bool} {r:Bool×ab} (H:BS a0 a1 a2=some r):FnV prog 194 (nS a0) [tP 200,tI a1,tB a2] (nS r.2) (.v (.c (.d false (.b r.1)))) []:=by
 refine fV func194 ntmps194 ?_
 refine aa H λr1 q1 H=>nA (ca (hF:=nC.h q1)) ?_
 refine aa H λv2 Hj H=>jR ⟨[(0,tP 200),(1,tI a1),(25,tB v2)],(nS a0),210⟩ ?_ ?_
 .refine gC Hj ?_ ?_<;>intro H
  .exact ai H
  refine aa H λr3 q3 H=>nG (ca (hF:=C9.h q3)) ?_
  exact ai H
 refine cC H ?_ ?_<;>intro H
 .cases H
  exact cg
 refine zI (f4 11) ?_
 obtain⟨h,H⟩:=rq H
 refine zA (Fh h rfl rfl rfl rfl) ?_
 refine wA (spx 100476) ?_
 cases H
 exact cg
def rS (a0:bH) (a1:Int) (a2:Bool):Option bH:=
 abU (mw a0) λr1=>abU (bif !r1 then(some true) else(abU (du a1 0 (WR (a0.fx-1))) λr3=>some (!r3))) λ(v2:Bool)=>bif v2 then(some a0) else(abU (bif a2 then(bif leB 0 a1 then(some (bOr .i64 a0.fB (md .i64 1 a1))) else none) else(bif leB 0 a1 then(some (vV .i64 a0.fB (md .i64 1 a1))) else none)) λ(v4:Int)=>some (⟨a0.fx,v4⟩:bH))
instance F6 {a0:bH} {a2:Bool} {r:bH}:FC prog (rS a0 a1 a2=some r) 271 [.agg (je a0),aI a1,aB a2] [.agg (qM [] (eJ r))]:=⟨λH=>by
 refine fI func271 ntmps271 ?_
 refine aa H λr1 q1 H=>nA (ca (hF:=FN.h q1)) ?_
 refine aa H λv2 Hj H=>jR ⟨[(1,tI a1),(2,tB a2),(3,tP 0),(6,tP 1),(18,tB v2)],[(0,.var 32 (kM [] (eJ a0))),(1,.var 32 (kM [] (eJ pA)))],2⟩ ?_ ?_
 .refine gC Hj ?_ ?_<;>intro H
  .exact ai H
  refine aa H λr3 q3 H=>nG (ca (hF:=nC.h q3)) ?_
  exact ai H
 refine cC H ?_ ?_<;>intro H
 .exact ao H
 refine aa H λv4 Hj H=>jA ⟨[(6,tP 1),(7,tP 2)],[(1,.var 32 (kM [] (eJ pA))),(2,.var 32 (kM [] (eJ (⟨a0.fx,v4⟩:bH))))],3⟩ ?_ ?_
 .refine cC Hj ?_ ?_<;>intro H
  .refine zI (f4 7) ?_
   obtain⟨h,H⟩:=rq H
   refine zA (Fh h rfl rfl rfl rfl) ?_
   refine wA (spx 100483) ?_
   exact ai H
  refine zI (f4 7) ?_
  obtain⟨h,H⟩:=rq H
  refine zA (Fh h rfl rfl rfl rfl) ?_
  refine wA (spx 100484) ?_
  exact ai H
 cases H
 exact bX⟩
def qE (a0:bH) (a1:Int):Option Bool:=
 abU (mw a0) λr1=>abU (bif r1 then(abU (du a1 0 (WR (a0.fx-1))) λr3=>bif r3 then(bif leB 0 a1 then(some (eqB (zY .i64 (En .i64 a0.fB a1) 1) 1)) else none) else(some false)) else(some false)) λ(v2:Bool)=>some v2
instance G9 {a0:bH} :FC prog (qE a0 a1=some r) 272 [.agg (je a0),aI a1] [.c (.d (.b r))]:=gF func272 ntmps272 (hb 7 4)
end Go.AM
