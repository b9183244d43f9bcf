/- A part. -/
import Derived.Test.YtfbpfflnhfcmaaaGreatI5
set_option linter.unusedVariables false
open Option renaming some->ς,none->ξ
open Bool renaming true->ζ,false->η
open True renaming intro->θ
open Option renaming bind->afW
namespace Go.AM
open Go.Proofs
open Tryz
attribute [local irreducible] AWN NS AWO AWR AWC DR DZ dm gK iter
set_option maxRecDepth 100000
set_option maxHeartbeats 40000000
variable{a0:Int}{a1:Go.AM.aG}
def uT(a0:Int)(a1:aG):Option Int:=
 afW (pU) λr1=>afW (sN a0 r1) λr2=>afW (fw r2 [23,a1.bb,a1.aS,a1.ae,a1.aK,a1.bP]) λr3=>ς r3
instance acQ{r:Int}:FC prog (uT a0 a1=ς r) 337 [aI a0,.agg (dE a1)] [.c (.d (.i .i64 r))]:=gG func337 ntmps337
def pb(a0:Int)(a1:aG):Option aG:=
 afW (uT a0 a1) λr1=>ς {a1 with kr:=r1}
instance Je{r:aG}:FC prog (pb a0 a1=ς r) 283 [aI a0,.agg (dE a1)] [.agg (qM [] (ij r))]:=gG func283 ntmps283
def sR(a0:aA):Option aG:=
 afW (pb a0.aZ (⟨5,a0.aS,a0.ae,a0.aK,0,cO,0⟩:aG)) λr1=>ς r1
instance abF{a0:aA}{r:aG}:FC prog (sR a0=ς r) 205 [.agg (dR a0)] [.agg (qM [] (ij r))]:=gG func205 ntmps205
def uk(a0:Int)(a1:Int):Option Int:=
 afW (oc a1) λr1=>afW (sN a0 r1) λr2=>ς r2
instance Fi{a1:Int}{r:Int}:FC prog (uk a0 a1=ς r) 103 [aI a0,aI a1] [.c (.d (.i .i64 r))]:=gG func103 ntmps103
def uS(a0:Int)(a1:Int)(a2:Int)(a3:ah):Option aF:=
 afW (uk a0 a2) λr1=>afW (Hn r1 1 a3.cH a3.bh) λr2=>ς (⟨a1,a2,r2⟩:aF)
instance LG{a1:Int}{a2:Int}{a3:ah}{r:aF}:FC prog (uS a0 a1 a2 a3=ς r) 287 [aI a0,aI a1,aI a2,.agg (bC a3)] [.agg (qM [.o] (kf r))]:=gG func287 ntmps287 (hz 1)
def mG(a0:ag)(r1:Int):(Int×List aF)->Option (cj (Int×List aF) (List aF))
 |(v2,v3)=>cond (ltB v2 (((a0.ax.aJ.take (r1).toNat).length:Nat):Int)) (afW (ix (a0.ax.aJ.take (r1).toNat) v2) λx7=>afW (uS a0.aZ a0.ae a0.aK x7) λr8=>cond (da 64 (v3++[r8]).length) (ς (.next (WR (v2+1),(v3++[r8])))) ξ) (ς (.done v3))
def sO(a0:ag):Option (List aF):=
 cond (!eqB a0.aX 1) (ς ([]:List aF)) (afW (Qr 2 (a0.ax.aJ.length:Int)) λr1=>cond (eQ a0.ax.aJ 0 r1) (afW (iter (mG a0 r1) FU (0,([]:List aF))) λ(v6:List aF)=>ς v6) ξ)
instance Jd{a0:ag}{r:List aF}:FC prog (sO a0=ς r) 208 [.agg (cr a0)] [.c (.own 46 6 (r.map df) r.length)]:=gG func208 ntmps208 (hL 0 (λ(v:Int×List aF) sl ob nx=>⟨(3,.v (.c (.w 1 v.2.length)))::(21,tI v.1)::xS [1] sl,[(1,w46 v.2)]++ob,nx⟩)) (hB 0 (λ(v:List aF) sl ob nx=>⟨(3,.v (.c (.w 1 v.length)))::(21,.any)::xS [1] sl,[(1,w46 v)]++ob,nx⟩))
def vY:(Int×List aF×ag×av)->Option (cj (Int×List aF×ag×av) (List aF×ag×av))
 |(v5,v36,v41,v42)=>cond (ltB v5 2) (afW (cond (ltB (v41.aC.length:Int) v41.ax.bw) (ς ζ) (ς (leB 8 (v41.ax.aJ.length:Int)))) λ(v86:Bool)=>cond v86 (ς (.done (v36,v41,v42))) (afW (ix v41.aC (WR (v41.ax.bw-1))) λx87=>afW (tH v41 v42 (x87.bh.length:Int)) λr88=>afW (pN r88.1 (x87.bh.length:Int)) λr89=>cond (ltB 0 r89) (ς (.done (v36,r88.1,r88.2))) (afW (sP r88.1.ax x87.bh) λr90=>cond r90.2.2 (afW (uS r88.1.aZ r88.1.ae r88.1.aK r90.2.1) λr91=>cond (da 64 (v36++[r91]).length) (ς (.next (WR (v5+1),(v36++[r91]),{r88.1 with ax:=r90.1},r88.2))) ξ) (ς (.done (v36,r88.1,r88.2)))))) (ς (.done (v36,v41,v42)))
def Dl(a0:ag)(a1:av):Option bM:=
 afW (ia a0) λr1=>afW (fD a1) λr2=>afW (jF a0) λr3=>afW (cond (!r3) (ς ζ) (ς (!eqB a0.aX 1))) λ(v4:Bool)=>cond v4 (ς {cz with aM:=r1,cT:=r2}) (afW (iter (vY) FU (0,([]:List aF),r1,r2)) λ((v79,v84,v85):List aF×ag×av)=>ς (⟨v84,v85,[],v79⟩:bM))
instance Qu{a0:ag}{a1:av}{r:bM}:FCV prog (Dl a0 a1=ς r) 209 [] [.v (.agg (kM [.f,.f,.f] (dO a0))),.v (.agg (kM [.f] (dB a1)))] [] (.v (.agg (kM [.w 210,.w 211,.w 212,.w 213,.z,.n 214] (cd {r with fj:=[]})))) [(210,w3 r.aM.gI.bU),(211,w151 r.aM.aC),(212,Ps r.aM.ax.aJ),(213,w165 r.cT.aD),(214,n46 r.bV)]:=⟨λH=>by
 refine fV func209 ntmps209 ?_
 refine zI (List.range 7) ?_
 refine aa H λr1 q1 H=>zA (ca (hF:=Ak.h q1)) ?_
 refine aa H λr2 q2 H=>zA (ca (hF:=Ag.h q2)) ?_
 refine wA (spx 100570) ?_
 refine aa H λr3 q3 H=>nA (ca (hF:=vV.h q3)) ?_
 refine aa H λv4 Hj H=>jR ⟨[(4,tP 212),(5,tP 217),(24,tB v4)],(oM [.w 213,.w 214,.w 215,.w 216,.z,.z] 217 173 (cd {cz with aM:=r1,cT:=r2})++[(212,.var 173 (kM [.z,.z,.z,.z,.z,.z] (cd cz)))]),218⟩ ?_ ?_
 .exact az Hj
 refine cC H ?_ ?_<;>intro H
 .cases H
  refine dD ((qS (o:=212) (j:=35) 46 6 ζ)) ?_
  refine dD (wS 213 210) ?_
  refine dD (wS 214 211) ?_
  refine dD (wS 215 212) ?_
  refine dD (wS 216 213) ?_
  refine dD (wS 218 214) ?_
  refine dD ((wB 214 (([]:List aF).length))) ?_
  exact mC
 obtain⟨⟨v79,v84,v85⟩,Hj,H⟩:=ob H
 refine jB ⟨[(4,tP 212),(5,tP 217)],(oM [.w 213,.w 214,.w 215,.w 216,.z,.n 218] 217 173 (cd (⟨v84,v85,[],v79⟩:bM))++[(212,.var 173 (kM [.z,.z,.z,.z,.z,.z] (cd cz)))]),219⟩ ?_ ?_
 .refine iT Hj (λq=>⟨[(4,tP 212),(5,tP 217),(6,tI q.1)],(oM [.w 213,.w 214,.w 215,.w 216,.z,.n 218] 217 173 (cd (⟨q.2.2.1,q.2.2.2,[],q.2.1⟩:bM))++[(212,.var 173 (kM [.z,.z,.z,.z,.z,.z] (cd cz)))]),219⟩) ?_ (by refine bz (qS (o:=217) (j:=35) 46 6 ζ) ?_;refine bz (wB 218 (([]:List aF).length)) ?_;exact wo)
  rintro⟨v5,v36,v41,v42⟩ o H
  refine ad ?_
  refine cC H ?_ ?_<;>intro H
  .refine aa H λv86 Hj H=>jR ⟨[(4,tP 212),(5,tP 217),(6,tI v5),(7,tI v41.ax.bw),(47,tB v86)],(oM [.w 213,.w 214,.w 215,.w 216,.z,.n 218] 217 173 (cd (⟨v41,v42,[],v36⟩:bM))++[(212,.var 173 (kM [.z,.z,.z,.z,.z,.z] (cd cz)))]),219⟩ ?_ ?_
   .exact az Hj
   refine cC H ?_ ?_<;>intro H
   .exact aE H
   refine aa H λx87 hx87 H=>nA (xwT hx87) ?_
   refine nA (oe (he:=qi _ hx87)) ?_
   refine aa H λr88 q88 H=>nA (ca (hF:=Hi.h q88)) ?_
   refine aa H λr89 q89 H=>nA (ca (hF:=Ho.h q89)) ?_
   refine cC H ?_ ?_<;>intro H
   .cases H
    refine Hv (λhq=>?_)
    cases hq
    refine wI ?_
    refine bz (wS 213 219) ?_
    refine bz (wS 214 220) ?_
    refine bz (wS 215 221) ?_
    refine bz (wS 216 222) ?_
    exact wo
   obtain⟨r90,q90,H⟩:=ob H
   rcases hb:r90.2.2 with _|_
   .have H:=bf hb H
    refine sI rfl (ca (hF:=Hq q90 hb)) ?_
    simp only[hb]
    refine wI ?_
    cases H
    refine Hv (λhq=>?_)
    cases hq
    refine wI ?_
    refine bz (wS 213 219) ?_
    refine bz (wS 214 220) ?_
    refine bz (wS 215 221) ?_
    refine bz (wS 216 222) ?_
    exact wo
   have H:=bt hb H
   refine sI rfl (ca (hF:=Hr q90 hb)) ?_
   simp only[hb]
   refine wI ?_
   refine zI (List.range 17) ?_
   refine aa H λr91 q91 H=>zA (ca (hF:=(LG.h q91).frzs (by repeat (first|exact θ|refine⟨?_,?_⟩|exact lm _|rfl)))) ?_
   obtain⟨h,H⟩:=rq H
   refine zB dV (vG rfl (Ux (enc:=df) (ys:=v36) (zs:=[r91]) h (by first|exact List.cons_ne_nil _ _|simp) rfl (λ_=>rfl) (by first|rfl|simp) (.w rfl (by first|rfl|exact lm _|simp)) rfl rfl rfl rfl rfl rfl rfl rfl rfl rfl)) dV ?_
   refine wA (spx 100569) ?_
   cases H
   refine Ey ?_
   refine bz (qT 218) ?_
   refine bz (wS 213 219) ?_
   refine bz (wS 214 220) ?_
   refine bz (wS 215 223) ?_
   refine bz (wS 216 222) ?_
   exact wo
  exact aE H
 cases H
 refine dD (wS 213 210) ?_
 refine dD (wS 214 211) ?_
 refine dD (wS 215 212) ?_
 refine dD (wS 216 213) ?_
 refine dD (wS 218 214) ?_
 exact mC⟩
def pO(a0:ag)(a1:aG):Option bJ:=
 afW (pG a0.bD.ID (WR (a0.bD.cH+1))) λr1=>afW (tj a0.bD r1) λr2=>bif(eqB r2.1.ID.eF a0.bD.ID.eF&&(eqB r2.1.ID.bP a0.bD.ID.bP&&(eqB r2.1.eV a0.bD.eV&&(eqB r2.1.cH a0.bD.cH&&ζ)))) then(afW (dL a0 []) λr3=>ς r3) else(afW (dL {a0 with bD:=r2.1,aV:=r2.2,bA:=r2.1.cH} [(⟨2,a1.aS,r2.1.cH,0,0,r2.2,0⟩:aG)]) λr4=>ς r4)
instance U1{a0:ag}{r:bJ}:FC prog (pO a0 a1=ς r) 292 [.agg (cr a0),.agg (dE a1)] [.agg (qM [.o,.o,.o,.o] (ev r))]:=gG func292 ntmps292 (hz 1)
def ki(a0:Int)(a1:aG):Option Bool:=
 afW (uT a0 a1) λr1=>ς (eqB a1.kr r1)
instance WH{r:Bool}:FC prog (ki a0 a1=ς r) 299 [aI a0,.agg (dE a1)] [.c (.d (.b r))]:=gG func299 ntmps299
def tO(a0:Int)(a1:aF):Option Bool:=
 afW (oJ a1.bO) λr1=>afW (cond r1 (cond (eqB a1.bO.di 1) (afW (uk a0 a1.aK) λr3=>afW (yF r3 a1.bO) λr4=>ς r4) (ς η)) (ς η)) λ(v2:Bool)=>ς v2
instance Af{a1:aF}{r:Bool}:FC prog (tO a0 a1=ς r) 101 [aI a0,.agg (df a1)] [.c (.d (.b r))]:=gG func101 ntmps101 (hb 8 4)
def nP(a0:mw)(a1:ct):Option (mw×gU):=
 afW (pM a0) λr1=>cond (!r1) (ς (a0,{jy with Code:=1})) (afW (sb a0.eV a0.dh a1) λr2=>afW (cond (eqB r2 0) (afW (lC a0.eV a1.eJ a1.gD) λr8=>afW (fw a0.eV [3,a1.eJ]) λr9=>afW (mF a0.eV a1.eJ r8) λr10=>ς (r8,(⟨r2,r9,r10.eV,0⟩:gU))) (afW (cond (eqB r2 2) (ς (eqB r2 2)) (ς (eqB r2 3))) λ(v11:Bool)=>afW (cond v11 (afW (tL a0.eV a1.eJ a0.dh) λr13=>ς r13) (ς 0)) λ(v12:Int)=>ς (a0.dh,{jy with Code:=r2,Xj:=v12}))) λ((v6,v7):Int×gU)=>ς ({a0 with dh:=v6},v7))
instance MU{a0:mw}{a1:ct}{r:mw×gU}:FC prog (nP a0 a1=ς r) 349 [.agg (GZ a0),.agg (ni a1)] [.agg (qM [] (Qj r.1)),.agg (qM [] (uO r.2))]:=gG func349 ntmps349 (hC 23 (λ(v:Int×gU) sl ob nx=>⟨sl,[(0,.var 61 (kM [] (Qj {a0 with dh:=v.1}))),(4,.var 299 (kM [] (uO v.2)))]++fO [1] ob,nx⟩)) (hc 49 49) (hC 49 (λ(v:Int) sl ob nx=>⟨sl,uC 4 3 [.d η (.i .i64 v)] ob,nx⟩)) (hz 14)
def ny(a0:aA)(a1:aG):Option bi:=
 afW (nP a0.dq a1.bZ) λr1=>cond (!eqB r1.2.Code 0) (afW (cV a0 []) λr2=>ς r2) (afW (cV {a0 with dq:=r1.1,ae:=a1.ae,aZ:=r1.2.yg} [(⟨3,a0.aS,a1.ae,0,r1.2.vB,cO,0⟩:aG)]) λr3=>ς r3)
instance Qv{a0:aA}{r:bi}:FC prog (ny a0 a1=ς r) 298 [.agg (dR a0),.agg (dE a1)] [.agg (qM [.o,.o,.o] (dr r))]:=gG func298 ntmps298
def nm(a0:ab)(a1:cU):Option (ab×Bool):=
 afW (jP a0) λr1=>afW (iL a0) λr2=>afW (cond (!r2) (ς (ζ,r1)) (afW (rx r1 {a1 with bb:=10}) λr15=>ς (!r15.1,r15.2))) λ((v3,v14):Bool×ab)=>cond v3 (afW (jP a0) λr16=>ς (r16,η)) (ς (v14,ζ))
instance Qp{a0:ab}{a1:cU}{r:ab×Bool}:FCV prog (nm a0 a1=ς r) 9 [] [.v (.agg (kM [.t,.t,.t,.t,.t] (b9 a0))),.v (.agg (kM [.t,.t] (nj {a1 with bb:=10})))] [] (.tup [.agg (kM [.t,.w 210,.w 211,.w 212,.w 213] (b9 r.1)),.c (.d η (.b r.2))]) [(210,w67 r.1.aj),(211,w93 r.1.an),(212,w107 r.1.aT),(213,w48 r.1.aH)]:=gV func9 ntmps9 (hJ 12 (λ(v:Bool×ab) sl ob nx=>⟨(12,.any)::(16,tB v.1)::xS [217,216,215,214,213] sl,oM [.t,.w 214,.w 215,.w 216,.w 217] 218 34 (b9 v.2)++fO [213] ob,nx⟩))
def Bi(a0:ab):Int->Option (cj (Int) (Bool))
 |v2=>cond (ltB v2 (a0.aj.length:Int)) (afW (ma a0 v2) λr3=>afW (cond (!r3) (ς ζ) (afW (kt a0 v2) λr5=>cond (!r5) (ς ζ) (afW (gq a0 v2) λr6=>ς (!r6)))) λ(v4:Bool)=>cond v4 (dn (ς η)) (ς (.next (WR (v2+1))))) (dn (ς ζ))
def Cr(a0:ab):Option Bool:=
 afW (iL a0) λr1=>cond (!r1) (ς η) (iter (Bi a0) FU 0)
instance iAudit_c{a0:ab}{r:Bool}:FC prog (Cr a0=ς r) 10 [.agg (eb a0)] [.c (.d (.b r))]:=gG func10 ntmps10 (hl 0 10) (hb 17 28)
end Go.AM
