/- A part. -/
import Derived.Test.YtcfhabdgiieejaaGreatS3
import Derived.Test.YtcfhabdgiieejaaGreatS4
set_option linter.unusedVariables false
open Option renaming bind->abJ
open Int renaming tmod->abK
open List renaming range->f5,cons_ne_nil->abL
namespace Go.AM
open Go.Proofs
open Tryz
attribute [local irreducible] AWN NS AWO AWR AWC DR DZ dQ f9 iter
set_option maxRecDepth 100000
set_option maxHeartbeats 40000000
variable {a0 a1 r:Int}
def oQ (a0:aS) (a1:List aO) (a2:bR) (a3:Int):(Int×List aj×List ah×List aG)->Option (cr (Int×List aj×List ah×List aG) (List aj×List ah×List aG))
 |(v6,v7,v8,v9)=>bif ltB v6 (a1.length:Int) then(abJ (ix a1 v6) λx17=>bif !eqB (a0.bb.length:Int) 0 then(abJ (Au (⟨x17.ID,x17.eX,x17.cW⟩:lp) (abK v6 (a0.bb.length:Int))) λr18=>bif da 144 (v9++[{r18 with bW:={c8 with bE:=r18.bW.bE}}]).length then(abJ (uh x17 a2 v6) λr19=>bif da 288 (v8++[{r19 with aH:=[],ax:=(⟨r19.ax.bE,[]⟩:aY)}]).length then(abJ (uf a3) λr20=>bif da 48 (v7++[{r20 with an:=[]}]).length then(some (.next (WR (v6+1),(v7++[{r20 with an:=[]}]),(v8++[{r19 with aH:=[],ax:=(⟨r19.ax.bE,[]⟩:aY)}]),(v9++[{r18 with bW:={c8 with bE:=r18.bW.bE}}])))) else none) else none) else none) else none) else(some (.done (v7,v8,v9)))
def ug (a0:aS) (a1:List aO) (a2:bR) (a3:Int):Option ab:=
 abJ (qE a0) λr1=>abJ (bif !r1 then(some true) else(abJ (gQ a2) λr3=>bif !r3 then(some true) else(abJ (ux a1) λr4=>some (!r4)))) λ(v2:Bool)=>bif v2 then(some {ea with ev:=(⟨[]⟩:aS)}) else(abJ (qH a0) λr5=>abJ (iter (oQ a0 a1 a2 a3) FU (0,([]:List aj),([]:List ah),([]:List aG))) λ((v14,v15,v16):List aj×List ah×List aG)=>some (⟨r5,v16,v15,v14,[],0,(⟨2,3⟩:bK),0,0⟩:ab))
instance zT {a0:aS} {a1:List aO} {a2:bR} {a3:Int} {r:ab}:FCV prog (ug a0 a1 a2 a3=some r) 141 [] [.v (.agg [.d false (.l (a0.bb.map eO))]),.v (.c (.d false (.l (a1.map dO)))),.v (.agg (kM [.f] (eH a2))),tI a3] [] (.v (.agg (kM [.n 210,.n 211,.n 212,.n 213,.z] (bw {r with aT:=[]})))) [(210,Q4 r.ev.bb),(211,n67 r.aw),(212,n93 r.aA),(213,n107 r.bG)]:=⟨λH=>by
 refine fV func141 ntmps141 ?_
 refine aa H λr1 q1 H=>nA (ca (hF:=G1.h q1)) ?_
 refine aa H λv2 Hj H=>jR ⟨[(1,.v (.c (.d false (.l (a1.map dO))))),(3,tI a3),(4,tP 210),(6,tP 211),(8,tP 212),(24,tB v2)],[(210,.var 26 [.d false (.l (a0.bb.map eO))]),(211,.var 85 (kM [.f] (eH a2))),(212,.var 34 (kM [.z,.z,.z,.z,.z] (bw {ea with ev:=(⟨[]⟩:aS)})))],213⟩ ?_ ?_
 .refine gC Hj ?_ ?_<;>intro H
  .exact ai H
  refine aa H λr3 q3 H=>nG (ca (hF:=wy.h q3)) ?_
  refine gC H ?_ ?_<;>intro H
  .exact ai H
  refine aa H λr4 q4 H=>nG (ca (hF:=G9.h q4)) ?_
  exact ai H
 refine cC H ?_ ?_<;>intro H
 .cases H
  refine bA ((dE (o:=212) (j:=0) 155 2 true)) ?_
  refine bA ((dE (o:=212) (j:=1) 67 14 true)) ?_
  refine bA ((dE (o:=212) (j:=2) 93 30 true)) ?_
  refine bA ((dE (o:=212) (j:=3) 107 4 true)) ?_
  refine bA (wS 213 210) ?_
  refine bA (wS 214 211) ?_
  refine bA (wS 215 212) ?_
  refine bA (wS 216 213) ?_
  refine bA ((wB 210 (([]:List fc).length))) ?_
  refine bA ((wB 211 (([]:List aG).length))) ?_
  refine bA ((wB 212 (([]:List ah).length))) ?_
  refine bA ((wB 213 (([]:List aj).length))) ?_
  exact bj
 refine aa H λr5 q5 H=>sA (cwv [] [(210,213)] 214 (NV.h q5)) ?_
 obtain⟨⟨v14,v15,v16⟩,Hj,H⟩:=ob H
 refine jB ⟨[(8,tP 212),(9,tP 214)],(oM [.n 213,.n 215,.n 216,.n 217,.z] 214 34 (bw (⟨r5,v16,v15,v14,[],0,(⟨2,3⟩:bK),0,0⟩:ab))++[(212,.var 34 (kM [.z,.z,.z,.z,.z] (bw {ea with ev:=(⟨[]⟩:aS)})))]),218⟩ ?_ ?_
 .refine iT Hj (λq=>⟨[(1,.v (.c (.d false (.l (a1.map dO))))),(3,tI a3),(4,tP 210),(6,tP 211),(8,tP 212),(9,tP 214),(10,tI q.1)],(oM [.n 213,.n 215,.n 216,.n 217,.z] 214 34 (bw (⟨r5,q.2.2.2,q.2.2.1,q.2.1,[],0,(⟨2,3⟩:bK),0,0⟩:ab))++[(210,.var 26 [.d false (.l (a0.bb.map eO))]),(211,.var 85 (kM [.f] (eH a2))),(212,.var 34 (kM [.z,.z,.z,.z,.z] (bw {ea with ev:=(⟨[]⟩:aS)})))]),218⟩) ?_ (by refine am (dE (o:=214) (j:=1) 67 14 true) ?_;refine am (dE (o:=214) (j:=2) 93 30 true) ?_;refine am (dE (o:=214) (j:=3) 107 4 true) ?_;refine am (wB 215 (([]:List aG).length)) ?_;refine am (wB 216 (([]:List ah).length)) ?_;refine am (wB 217 (([]:List aj).length)) ?_;exact wo)
  rintro⟨v6,v7,v8,v9⟩ o H
  refine ad ?_
  refine cC H ?_ ?_<;>intro H
  .refine aa H λx17 hx17 H=>nA (xdT (enc:=dO) hx17) ?_
   refine zI (f5 19) ?_
   obtain⟨h,H⟩:=rq H
   refine zA (ir rfl rfl rfl (ne0 h)) ?_
   refine aa H λr18 q18 H=>zA (ca (hF:=JP.h q18)) ?_
   obtain⟨h,H⟩:=rq H
   refine zB bC (fg rfl (AJ (enc:=cF) (ys:=v9) (zs:=[{r18 with bW:={c8 with bE:=r18.bW.bE}}]) h (by first|exact abL _ _|simp) rfl (λ_=>rfl) (by first|rfl|simp) (.w rfl (by first|rfl|exact lm _|simp)) rfl rfl rfl rfl rfl rfl rfl rfl rfl rfl)) bC ?_
   refine wA (spx 100242) ?_
   refine zI (f5 10) ?_
   refine aa H λr19 q19 H=>zA (ca (hF:=(G6.h q19).frzs (by repeat (first|exact trivial|refine⟨?_,?_⟩|exact lm _|rfl)))) ?_
   obtain⟨h,H⟩:=rq H
   refine zB bC (fg rfl (AJ (enc:=bS) (ys:=v8) (zs:=[{r19 with aH:=[],ax:=(⟨r19.ax.bE,[]⟩:aY)}]) h (by first|exact abL _ _|simp) rfl (λ_=>rfl) (by first|rfl|simp) (.w rfl (by first|rfl|exact lm _|simp)) rfl rfl rfl rfl rfl rfl rfl rfl rfl rfl)) bC ?_
   refine wA (spx 100241) ?_
   refine zI (f5 8) ?_
   refine aa H λr20 q20 H=>zA (ca (hF:=G5.h q20)) ?_
   obtain⟨h,H⟩:=rq H
   refine zB bC (fg rfl (AJ (enc:=cM) (ys:=v7) (zs:=[{r20 with an:=[]}]) h (by first|exact abL _ _|simp) rfl (λ_=>rfl) (by first|rfl|simp) (.w rfl (by first|rfl|exact lm _|simp)) rfl rfl rfl rfl rfl rfl rfl rfl rfl rfl)) bC ?_
   refine wA (spx 100240) ?_
   cases H
   refine sV ?_
   refine am (d8 215) ?_
   refine am (d8 216) ?_
   refine am (d8 217) ?_
   exact wo
  exact aE H
 cases H
 refine bA (wS 213 210) ?_
 refine bA (wS 215 211) ?_
 refine bA (wS 216 212) ?_
 refine bA (wS 217 213) ?_
 exact bj⟩
def yw (a0:aG):Option aX:=
 bif !eqB a0.bp 0 then(abJ (tj a0) λr1=>some r1) else(abJ (kE a0) λr2=>abJ (ti a0) λr3=>abJ (mS {r2 with bp:=1} r3) λr4=>some r4)
instance FF {a0:aG} {r:aX}:FC prog (yw a0=some r) 147 [.agg (cF a0)] [.agg (qM [.d,.d,.o] (dm r))]:=gF func147 ntmps147 (hz 5)
def kB (a0:ah):Option Bool:=
 abJ (bif eqB a0.bp 1 then(abJ (ij a0.aZ) λr2=>bif !r2 then(some true) else(bif ltB 0 a0.bI then(abJ (ij a0.aK.eX) λr3=>bif !r3 then(some true) else(abJ (du a0.bp 0 1) λr4=>some (!r4))) else(abJ (du a0.bp 0 1) λr5=>some (!r5)))) else(bif ltB 0 a0.bI then(abJ (ij a0.aK.eX) λr6=>bif !r6 then(some true) else(abJ (du a0.bp 0 1) λr7=>some (!r7))) else(abJ (du a0.bp 0 1) λr8=>some (!r8)))) λ(v1:Bool)=>bif v1 then(some false) else(abJ (eM a0.bF) λr9=>abJ (bif !r9 then(some true) else(abJ (gQ a0.gT) λr11=>bif !r11 then(some true) else(abJ (oO a0.ga) λr12=>bif !r12 then(some true) else(abJ (ik a0.b9) λr13=>bif !r13 then(some true) else(abJ (wP a0) λr14=>some (!r14)))))) λ(v10:Bool)=>bif v10 then(some false) else(abJ (du a0.bI 0 999999) λr15=>abJ (bif !r15 then(some true) else(abJ (du a0.ag 0 999999) λr17=>bif !r17 then(some true) else(abJ (du a0.aV 0 999999) λr18=>bif !r18 then(some true) else(abJ (du a0.aZ 0 2147483646) λr19=>some (!r19))))) λ(v16:Bool)=>bif v16 then(some false) else(abJ (du a0.bh 0 5) λr20=>abJ (bif r20 then(abJ (du a0.dT 0 5) λr22=>bif r22 then(abJ (du a0.dP 0 3) λr23=>some r23) else(some false)) else(some false)) λ(v21:Bool)=>some v21)))
instance PW {a0:ah} {r:Bool}:FC prog (kB a0=some r) 119 [.agg (bS a0)] [.c (.d (.b r))]:=gF func119 ntmps119 (hb 6 29) (hb 34 56) (hb 61 78) (hb 82 2)
def CE (a0:Int) (a1:bi):Option Int:=
 abJ (rO a1.a9) λr1=>bif da 8 ([a1.cZ,a1.fQ]++r1).length then(abJ (eV a0 ([a1.cZ,a1.fQ]++r1)) λr2=>some r2) else none
instance sl8Mac_c {a1:bi} :FC prog (CE a0 a1=some r) 163 [aI a0,.agg (ee a1)] [.c (.d (.i .i64 r))]:=⟨λH=>by
 refine fI func163 ntmps163 ?_
 refine zI (f5 12) ?_
 refine aa H λr1 q1 H=>zA (ca (hF:=Fy.h q1)) ?_
 obtain⟨h,H⟩:=rq H
 refine wA (Gt (enc:=eI) (ys:=[a1.cZ,a1.fQ]) (zs:=r1) [1,2] h) ?_
 refine aa H λr2 q2 H=>zA (ca (hF:=wz.h q2)) ?_
 refine mU (ds:=[1]) (by kernel_rfl) (by kernel_rfl) rfl ?_
 refine wI ?_
 cases H
 exact dM⟩
def pG (a0:Int) (a1:Int):Option Int:=
 abJ (eV a0 [9,a1]) λr1=>abJ (FB 1 r1) λr2=>some r2
instance Yg:FC prog (pG a0 a1=some r) 270 [aI a0,aI a1] [.c (.d (.i .i64 r))]:=gF func270 ntmps270
def mN (a0:Int) (a1:Int):Option Int:=
 abJ (eV a0 [1,a1]) λr1=>abJ (G3 r1 1000000) λr2=>some r2
instance SB:FC prog (mN a0 a1=some r) 273 [aI a0,aI a1] [.c (.d (.i .i64 r))]:=gF func273 ntmps273
def yt (a0:Int) (a1:List Int):(Int×List Int)->Option (cr (Int×List Int) (List Int))
 |(v1,v2)=>bif ltB v1 (a1.length:Int) then(abJ (ix a1 v1) λx6=>abJ (eV a0 [v1]) λr7=>bif da 1 (v2++[IntKind.u8.wrap (abK (WR ((WR (x6))+(abK r7 256))) 256)]).length then(some (.next (WR (v1+1),(v2++[IntKind.u8.wrap (abK (WR ((WR (x6))+(abK r7 256))) 256)])))) else none) else(some (.done v2))
def Bx (a0:Int) (a1:List Int):Option (List Int):=
 abJ (iter (yt a0 a1) FU (0,([]:List Int))) λ(v5:List Int)=>some v5
instance sEncrypt_c {a1:List Int} {r:List Int}:FC prog (Bx a0 a1=some r) 363 [aI a0,aL (a1.map eU8)] [.c (.own 5 1 (r.map eU8) r.length)]:=⟨λH=>by
 refine fI func363 ntmps363 ?_
 refine aa H λv5 Hj H=>jB ⟨[(5,.v (.c (.w 0 v5.length)))],[(0,w5 v5)],1⟩ ?_ ?_
 .refine iT Hj (λq=>⟨[(0,tI a0),(1,.v (.c (.d false (.l (a1.map eU8))))),(5,.v (.c (.w 0 q.2.length))),(6,tI q.1)],[(0,w5 q.2)],1⟩) ?_
  rintro⟨v1,v2⟩ o H
  refine ad ?_
  refine cC H ?_ ?_<;>intro H
  .refine qR [0,1,2,3,4,5,6,7,8,9,10,11,12,13,14,15,16] (h:=?_)
   refine wkb ?_
   refine aa H λx6 hx6 H=>jD rfl (xdT (enc:=eU8) hx6) ?_
   refine wkb ?_
   refine B9 rfl (bsx (bs rfl rfl rfl rfl rfl rfl rfl rfl) rfl) ?_
   refine wkb ?_
   refine aa H λr7 q7 H=>jD rfl (ca (hF:=wz.h q7)) ?_
   refine wkb ?_
   refine jD rfl (ir rfl rfl rfl (by decide)) ?_
   refine wkb ?_
   refine jD rfl (ir rfl rfl rfl (by decide)) ?_
   refine wkb ?_
   refine jD rfl (bs rfl rfl rfl rfl rfl rfl rfl rfl) ?_
   refine wkb ?_
   obtain⟨h,H⟩:=rq H
   refine B9 rfl (Gt (enc:=eU8) (ys:=v2) (zs:=[IntKind.u8.wrap (abK (WR ((WR (x6))+(abK r7 256))) 256)]) [0,2] h) ?_
   refine wkb ?_
   refine mU (ds:=[0]) (by kernel_rfl) (by kernel_rfl) rfl ?_
   refine wI ?_
   cases H
   refine sV ?_
   refine am (wS 0 3) ?_
   exact wo
  exact aE H
 cases H
 exact dM⟩
def lK (a0:dv) (a1:Int):Option Int:=
 abJ (eV 29 [a0.eb,a0.bV,a1]) λr1=>some r1
instance Cv {a0:dv} :FC prog (lK a0 a1=some r) 322 [.agg (nR a0),aI a1] [.c (.d (.i .i64 r))]:=gF func322 ntmps322
def jk (a0:ab) (a1:Int) (a2:aX):Option ab:=
 abJ (ix a0.aw a1) λx1=>abJ (lR {a0 with aw:=(a0.aw.set (a1).toNat a2.bm)} a1 true a2.dy) λr2=>some r2
instance o9 {a0:ab} {a2:aX} {r:ab}:FCV prog (jk a0 a1 a2=some r) 256 (nS a0) [tP 200,tI a1,.v (.agg (kM [.t,.t,.t] (dm a2)))] (nS r) (.tup []) []:=⟨λH=>by
 refine fV func256 ntmps256 ?_
 refine zI (f5 9) ?_
 refine aa H λx1 hx1 H=>zA (qL hx1) ?_
 refine zB (lU 190 (hne:=ya (enc:=cF) hx1)) (fg rfl (soT (enc:=cF) (a':=a2.bm) hx1)) bC ?_
 refine aa H λr2 q2 H=>bL (d8 190) ?_
 refine bL (wB 190 ((a0.aw.set (a1).toNat a2.bm).length)) ?_
 refine sA (cwu m0 [] 211 (uZ.h q2)) ?_
 cases H
 exact nT⟩
def Da (r5:cG×List Int):(Int×List aF)->Option (cr (Int×List aF) (List aF))
 |(v6,v7)=>bif ltB v6 (r5.2.length:Int) then(abJ (ix r5.2 v6) λx10=>bif da 88 (v7++[{d9 with a8:=7,bh:=x10}]).length then(some (.next (WR (v6+1),(v7++[{d9 with a8:=7,bh:=x10}])))) else none) else(some (.done v7))
def yD (a0:ah) (a1:aj) (a2:aS):Option bO:=
 abJ (tl a0 a1) λr1=>abJ (du a0.bh 0 (WR ((a2.bb.length:Int)-1))) λr2=>abJ (bif r2 then(abJ (ix a2.bb a0.bh) λx4=>some x4.fZ) else(some 0)) λ(v3:Int)=>abJ (ul {a0.ga with fZ:=v3} a2) λr5=>abJ (iter (Da r5) FU (0,r1.ju)) λ(v9:List aF)=>some {r1 with aU:={r1.aU with ga:=r5.1},ju:=v9}
instance F7 {a0:ah} {a1:aj} {a2:aS} {r:bO}:FC prog (yD a0 a1 a2=some r) 330 [.agg (bS a0),.agg (cM a1),.agg (ge a2)] [.agg (qM [.o,.o,.o,.o,.o,.o] (bB r))]:=⟨λH=>by
 refine fI func330 ntmps330 ?_
 refine aa H λr1 q1 H=>nA (ca (hF:=AC.h q1)) ?_
 refine aa H λr2 q2 H=>nA (ca (hF:=rZ.h q2)) ?_
 refine aa H λv3 Hj H=>jA ⟨[(5,tP 2),(6,tP 3),(7,tP 10),(8,tP 11)],(oM [.w 4,.w 5,.w 6,.w 7,.w 8,.w 9] 10 174 (bB r1)++[(2,.var 26 [.d false (.l (a2.bb.map eO))]),(3,.var 174 (kM [.z,.z,.z,.z,.z,.z] (bB ci))),(11,.var 87 (kM [] (mB {a0.ga with fZ:=v3})))]),12⟩ ?_ ?_
 .refine cC Hj ?_ ?_<;>intro H
  .refine aa H λx4 hx4 H=>nA (xdT (enc:=eO) hx4) ?_
   exact ai H
  exact ai H
 refine aa H λr5 q5 H=>nA (ca (hF:=G8.h q5)) ?_
 refine aa H λv9 Hj H=>jB ⟨[(6,tP 3),(7,tP 10)],(oM [.w 4,.w 5,.w 6,.w 7,.w 8,.w 9] 10 174 (bB {r1 with aU:={r1.aU with ga:=r5.1},ju:=v9})++[(3,.var 174 (kM [.z,.z,.z,.z,.z,.z] (bB ci)))]),14⟩ ?_ ?_
 .refine iT Hj (λq=>⟨[(6,tP 3),(7,tP 10),(10,.v (.c (.w 12 r5.2.length))),(11,tI q.1)],(oM [.w 4,.w 5,.w 6,.w 7,.w 8,.w 9] 10 174 (bB {r1 with aU:={r1.aU with ga:=r5.1},ju:=q.2})++[(3,.var 174 (kM [.z,.z,.z,.z,.z,.z] (bB ci))),(12,w3 r5.2)]),14⟩) ?_
  rintro⟨v6,v7⟩ o H
  refine ad ?_
  refine cC H ?_ ?_<;>intro H
  .refine zI (f5 11) ?_
   refine aa H λx10 hx10 H=>zA (xwT hx10) ?_
   refine zA (oe (he:=dF _ hx10)) ?_
   obtain⟨h,H⟩:=rq H
   refine zB bC (fg rfl (apT (enc:=cU) (ys:=v7) (zs:=[{d9 with a8:=7,bh:=x10}]) h)) bC ?_
   refine wA (spx 100528) ?_
   exact aN H
  exact aE H
 cases H
 exact dM⟩
def rQ (a0:ah) (a1:aj) (a2:Int):Option (ah×aj):=
 abJ (i9 a0) λr1=>abJ (oS a0 a2) λr2=>bif leB r2 0 then(abJ (mR a1) λr3=>some (r1,r3)) else(abJ (FB r2 a0.gT.eD) λr4=>abJ (p9 a1 a0.b9 r4) λr5=>some ({r1 with b9:=r5.2},r5.1))
instance Fz {a0:ah} {a1:aj} {a2:Int} {r:ah×aj}:FC prog (rQ a0 a1 a2=some r) 367 [.agg (bS a0),.agg (cM a1),aI a2] [.agg (qM [.o,.o,.o] (c7 r.1)),.agg (qM [.o] (ct r.2))]:=gF func367 ntmps367 (hz 4) (hz 7) (hz 5)
def yr (a0:Int) (a1:List Int):(Int×List Int)->Option (cr (Int×List Int) (List Int))
 |(v1,v2)=>bif ltB v1 (a1.length:Int) then(abJ (ix a1 v1) λx7=>abJ (eV a0 [v1]) λr8=>abJ (G3 (WR ((WR (x7))-(abK r8 256))) 256) λr9=>bif da 1 (v2++[IntKind.u8.wrap (r9)]).length then(some (.next (WR (v1+1),(v2++[IntKind.u8.wrap (r9)])))) else none) else(some (.done v2))
def Bw (a0:Int) (a1:List Int):Option (List Int):=
 abJ (iter (yr a0 a1) FU (0,([]:List Int))) λ(v6:List Int)=>some v6
instance sDecrypt_c {a1:List Int} {r:List Int}:FC prog (Bw a0 a1=some r) 398 [aI a0,aL (a1.map eU8)] [.c (.own 5 1 (r.map eU8) r.length)]:=⟨λH=>by
 refine fI func398 ntmps398 ?_
 refine aa H λv6 Hj H=>jB ⟨[(5,.v (.c (.w 0 v6.length)))],[(0,w5 v6)],1⟩ ?_ ?_
 .refine iT Hj (λq=>⟨[(0,tI a0),(1,.v (.c (.d false (.l (a1.map eU8))))),(5,.v (.c (.w 0 q.2.length))),(6,tI q.1)],[(0,w5 q.2)],1⟩) ?_
  rintro⟨v1,v2⟩ o H
  refine ad ?_
  refine cC H ?_ ?_<;>intro H
  .refine qR [0,1,2,3,4,5,6,7,8,9,10,11,12,13,14,15,16] (h:=?_)
   refine wkb ?_
   refine aa H λx7 hx7 H=>jD rfl (xdT (enc:=eU8) hx7) ?_
   refine wkb ?_
   refine B9 rfl (bsx (bs rfl rfl rfl rfl rfl rfl rfl rfl) rfl) ?_
   refine wkb ?_
   refine aa H λr8 q8 H=>jD rfl (ca (hF:=wz.h q8)) ?_
   refine wkb ?_
   refine jD rfl (ir rfl rfl rfl (by decide)) ?_
   refine wkb ?_
   refine aa H λr9 q9 H=>jD rfl (ca (hF:=sMod_c.h q9)) ?_
   refine wkb ?_
   refine jD rfl (bs rfl rfl rfl rfl rfl rfl rfl rfl) ?_
   refine wkb ?_
   obtain⟨h,H⟩:=rq H
   refine B9 rfl (Gt (enc:=eU8) (ys:=v2) (zs:=[IntKind.u8.wrap (r9)]) [0,2] h) ?_
   refine wkb ?_
   refine mU (ds:=[0]) (by kernel_rfl) (by kernel_rfl) rfl ?_
   refine wI ?_
   cases H
   refine sV ?_
   refine am (wS 0 3) ?_
   exact wo
  exact aE H
 cases H
 exact dM⟩
def rT (a0:Int) (a1:Int) (a2:Int):Option Int:=
 abJ (du a2 0 999999) λr1=>bif !r1 then(some (-1)) else(abJ (eV a0 [5,a1,a2]) λr2=>abJ (G3 r2 1000) λr3=>some (WR ((WR (1000000*r3))+a2)))
instance VI {a2:Int} :FC prog (rT a0 a1 a2=some r) 399 [aI a0,aI a1,aI a2] [.c (.d (.i .i64 r))]:=gF func399 ntmps399
def i6 (a0:Int) (a1:Int):Option Int:=
 abJ (eV 17 [a0,a1]) λr1=>some (abK (WR (r1*r1)) 2147483647)
instance MI:FC prog (i6 a0 a1=some r) 337 [aI a0,aI a1] [.c (.d (.i .i64 r))]:=gF func337 ntmps337
end Go.AM
