/- A part. -/
import Derived.Test.YtfbpfflnhfcmaaaGreatI3
set_option linter.unusedVariables false
open Option renaming some->ς,none->ξ
open Bool renaming true->ζ,false->η
open True renaming intro->θ
open Option renaming bind->afW
namespace Go.AM
open Go.Proofs
open Tryz
attribute [local irreducible] AWN NS AWO AWR AWC DR DZ dm gK iter
set_option maxRecDepth 100000
set_option maxHeartbeats 40000000
variable{a0 a1 r:Int}
def lg(a0:ab)(a1:Int):Option Bool:=
 afW (ix a0.aj a1) λx1=>afW (ix a0.an a1) λx2=>afW (pI x1) λr3=>afW (cond r3 (afW (jF x2) λr5=>cond r5 (afW (ix a0.aT a1) λx6=>afW (iK x6) λr7=>cond r7 (bif(eqB x1.dq.ID.eF x2.bD.ID.eF&&(eqB x1.dq.ID.bP x2.bD.ID.bP&&ζ)) then(cond (eqB x1.dq.eV x2.bD.eV) (afW (mh a0.cp x1.aS) λr8=>cond r8 (afW (mh a0.cp x2.aS) λr9=>cond r9 (cond (eqB x2.bG.aO a1) (afW (ix a0.aT a1) λx10=>afW (ga x10 x2.bG) λr11=>ς r11) (ς η)) (ς η)) (ς η)) (ς η)) else(ς η)) (ς η)) (ς η)) (ς η)) λ(v4:Bool)=>ς v4
instance NO{a0:ab}{r:Bool}:FC prog (lg a0 a1=ς r) 70 [.agg (eb a0),aI a1] [.c (.d (.b r))]:=gG func70 ntmps70 (hb 19 4)
def iC(a0:List aA):(Int×List aA)->Option (cj (Int×List aA) (List aA))
 |(v1,v2)=>cond (ltB v1 (a0.length:Int)) (afW (ix a0 v1) λx7=>afW (mH x7) λr8=>afW (ix v2 v1) λx9=>ς (.next (WR (v1+1),(v2.set (v1).toNat r8)))) (ς (.done v2))
def f6(a0:List aA):Option (List aA):=
 cond (rF 144 (a0.length:Int) (a0.length:Int)) (afW (iter (iC a0) FU (0,(List.replicate ((a0.length:Int)).toNat IV))) λ(v6:List aA)=>ς v6) ξ
instance BN{a0:List aA}{r:List aA}:FCV prog (f6 a0=ς r) 84 [] [.v (.c (.d η (.l (a0.map dR)))),.v (.c (.fn 85))] [] (.v (.c (.w 210 r.length))) [(210,w67 r)]:=gV func84 ntmps84 (hL 0 (λ(v:Int×List aA) sl ob nx=>⟨(5,.v (.c (.w 210 v.2.length)))::(13,tI v.1)::xS [210] sl,[(210,w67 v.2)]++ob,nx⟩)) (hB 0 (λ(v:List aA) sl ob nx=>⟨(5,.v (.c (.w 210 v.length)))::(13,.any)::xS [210] sl,[(210,w67 v)]++ob,nx⟩))
def gT(a0:List ag):(Int×List ag)->Option (cj (Int×List ag) (List ag))
 |(v1,v2)=>cond (ltB v1 (a0.length:Int)) (afW (ix a0 v1) λx7=>afW (ia x7) λr8=>afW (ix v2 v1) λx9=>ς (.next (WR (v1+1),(v2.set (v1).toNat r8)))) (ς (.done v2))
def fK(a0:List ag):Option (List ag):=
 cond (rF 288 (a0.length:Int) (a0.length:Int)) (afW (iter (gT a0) FU (0,(List.replicate ((a0.length:Int)).toNat BM))) λ(v6:List ag)=>ς v6) ξ
instance Ai{a0:List ag}{r:List ag}:FCV prog (fK a0=ς r) 86 [] [.v (.c (.d η (.l (a0.map cr)))),.v (.c (.fn 87))] [] (.v (.c (.w 210 r.length))) [(210,w93 r)]:=gV func86 ntmps86 (hL 0 (λ(v:Int×List ag) sl ob nx=>⟨(5,.v (.c (.w 210 v.2.length)))::(13,tI v.1)::xS [210] sl,[(210,w93 v.2)]++ob,nx⟩)) (hB 0 (λ(v:List ag) sl ob nx=>⟨(5,.v (.c (.w 210 v.length)))::(13,.any)::xS [210] sl,[(210,w93 v)]++ob,nx⟩))
def iF(a0:List bg):(Int×List bg)->Option (cj (Int×List bg) (List bg))
 |(v1,v2)=>cond (ltB v1 (a0.length:Int)) (afW (ix a0 v1) λx7=>afW (sQ x7) λr8=>afW (ix v2 v1) λx9=>ς (.next (WR (v1+1),(v2.set (v1).toNat r8)))) (ς (.done v2))
def f7(a0:List bg):Option (List bg):=
 cond (rF 176 (a0.length:Int) (a0.length:Int)) (afW (iter (iF a0) FU (0,(List.replicate ((a0.length:Int)).toNat fT))) λ(v6:List bg)=>ς v6) ξ
instance BP{a0:List bg}{r:List bg}:FCV prog (f7 a0=ς r) 90 [] [.v (.c (.d η (.l (a0.map fG)))),.v (.c (.fn 91))] [] (.v (.c (.w 210 r.length))) [(210,w48 r)]:=gV func90 ntmps90 (hL 0 (λ(v:Int×List bg) sl ob nx=>⟨(5,.v (.c (.w 210 v.2.length)))::(13,tI v.1)::xS [210] sl,[(210,w48 v.2)]++ob,nx⟩)) (hB 0 (λ(v:List bg) sl ob nx=>⟨(5,.v (.c (.w 210 v.length)))::(13,.any)::xS [210] sl,[(210,w48 v)]++ob,nx⟩))
def we(a0:ab)(a1:bg):Option ab:=
 cond (leB 200 (a0.aH.length:Int)) (ς {a0 with Lost:=WR (a0.Lost+1)}) (afW (sQ a1) λr1=>cond (da 176 (a0.aH++[r1]).length) (ς {a0 with aH:=(a0.aH++[r1])}) ξ)
instance isend_c{a0:ab}{a1:bg}{r:ab}:FCV prog (we a0 a1=ς r) 123 (nI a0) [tP 200,.v (.agg (kM [.t] (pD a1)))] (nI r) (.tup []) []:=⟨λH=>by
 refine fV func123 ntmps123 ?_
 refine cC H ?_ ?_<;>intro H
 .cases H
  exact mC
 refine Sb 0 17 0 [1,2,3,4,5,6,7,8,9,10,11] Try.follows (by kernel_rfl) (by kernel_rfl) rfl (by kernel_rfl) rfl rfl ?_
 refine wI ?_
 refine aa H λr1 q1 H=>zA (ca (hF:=(Jg.h q1).frzs (by repeat (first|exact θ|refine⟨?_,?_⟩|exact lm _|rfl)))) ?_
 obtain⟨h,H⟩:=rq H
 refine zB dV (vG rfl (apT (enc:=fG) (ys:=a0.aH) (zs:=[r1]) h)) dV ?_
 refine wA (spx 100496) ?_
 cases H
 exact G9⟩
def cV(a0:aA)(a1:List aG):Option bi:=
 afW (mH a0) λr1=>afW (gr a1) λr2=>ς (⟨r1,r2⟩:bi)
instance tq{a0:aA}{a1:List aG}{r:bi}:FC prog (cV a0 a1=ς r) 203 [.agg (dR a0),aL (a1.map dE)] [.agg (qM [.o,.o,.o] (dr r))]:=gG func203 ntmps203
def rm(a0:Int)(a1:Int):Option Int:=
 afW (fw a0 [9,a1]) λr1=>cond (eqB r1 0) (ς 1) (ς r1)
instance acL:FC prog (rm a0 a1=ς r) 183 [aI a0,aI a1] [.c (.d (.i .i64 r))]:=gG func183 ntmps183
def pj(a0:Int)(a1:Int)(a2:Int)(a3:List Int):Option Int:=
 afW (tG a3) λr1=>cond (da 8 ([a1,a2]++r1).length) (afW (fw a0 ([a1,a2]++r1)) λr2=>ς r2) ξ
instance abG{a2:Int}{a3:List Int} :FC prog (pj a0 a1 a2 a3=ς r) 269 [aI a0,aI a1,aI a2,aL (a3.map eU8)] [.c (.d (.i .i64 r))]:=gG func269 ntmps269
def Ac(a0:Int)(r1:List Int):(Int×List Int)->Option (cj (Int×List Int) (List Int))
 |(v2,v3)=>cond (ltB v2 (r1.length:Int)) (afW (ix v3 v2) λx8=>afW (fw a0 [v2]) λr9=>afW (ix v3 v2) λx10=>ς (.next (WR (v2+1),(v3.set (v2).toNat (IntKind.u8.wrap (x8+(IntKind.u8.wrap (Int.tmod r9 256)))))))) (ς (.done v3))
def Di(a0:Int)(a1:List Int):Option (List Int):=
 afW (fy a1) λr1=>afW (iter (Ac a0 r1) FU (0,r1)) λ(v7:List Int)=>ς v7
instance iEncrypt_c{a1:List Int}{r:List Int}:FC prog (Di a0 a1=ς r) 374 [aI a0,aL (a1.map eU8)] [.c (.own 5 1 (r.map eU8) r.length)]:=gG func374 ntmps374 (hL 0 (λ(v:Int×List Int) sl ob nx=>⟨(5,.v (.c (.w 0 v.2.length)))::(11,tI v.1)::xS [0] sl,[(0,w5 v.2)]++ob,nx⟩)) (hB 0 (λ(v:List Int) sl ob nx=>⟨(5,.v (.c (.w 0 v.length)))::(11,.any)::xS [0] sl,[(0,w5 v)]++ob,nx⟩)) (hz 5)
def tH(a0:ag)(a1:av)(a2:Int):Option (ag×av):=
 afW (ia a0) λr1=>afW (pN r1 a2) λr2=>cond (leB r2 0) (afW (fD a1) λr3=>ς (r1,r3)) (afW (YF r2 r1.gI.d4) λr4=>afW (rZ a1 r1.bG r4) λr5=>ς ({r1 with bG:=r5.2},r5.1))
instance Hi{a0:ag}{a1:av}{a2:Int}{r:ag×av}:FC prog (tH a0 a1 a2=ς r) 288 [.agg (cr a0),.agg (dw a1),aI a2] [.agg (qM [.o,.o,.o] (dO r.1)),.agg (qM [.o] (dB r.2))]:=gG func288 ntmps288 (hz 4) (hz 7) (hz 5)
def dL(a0:ag)(a1:List aG):Option bJ:=
 afW (ia a0) λr1=>afW (gr a1) λr2=>ς (⟨r1,r2⟩:bJ)
instance Vc{a0:ag}{a1:List aG}{r:bJ}:FC prog (dL a0 a1=ς r) 296 [.agg (cr a0),aL (a1.map dE)] [.agg (qM [.o,.o,.o,.o] (ev r))]:=gG func296 ntmps296
def oh(a0:Int)(a1:Int):Option Int:=
 afW (fw a0 [1,a1]) λr1=>ς (Int.tmod r1 1000000)
instance WF:FC prog (oh a0 a1=ς r) 388 [aI a0,aI a1] [.c (.d (.i .i64 r))]:=gG func388 ntmps388
def pG(a0:dH)(a1:Int):Option Int:=
 afW (fw 29 [a0.eF,a0.bP,a1]) λr1=>ς r1
instance UV{a0:dH} :FC prog (pG a0 a1=ς r) 343 [.agg (pC a0),aI a1] [.c (.d (.i .i64 r))]:=gG func343 ntmps343
def Ab(a0:Int)(r1:List Int):(Int×List Int)->Option (cj (Int×List Int) (List Int))
 |(v2,v3)=>cond (ltB v2 (r1.length:Int)) (afW (ix v3 v2) λx8=>afW (fw a0 [v2]) λr9=>afW (ix v3 v2) λx10=>ς (.next (WR (v2+1),(v3.set (v2).toNat (IntKind.u8.wrap (x8-(IntKind.u8.wrap (Int.tmod r9 256)))))))) (ς (.done v3))
def Dh(a0:Int)(a1:List Int):Option (List Int):=
 afW (fy a1) λr1=>afW (iter (Ab a0 r1) FU (0,r1)) λ(v7:List Int)=>ς v7
instance iDecrypt_c{a1:List Int}{r:List Int}:FC prog (Dh a0 a1=ς r) 182 [aI a0,aL (a1.map eU8)] [.c (.own 5 1 (r.map eU8) r.length)]:=gG func182 ntmps182 (hL 0 (λ(v:Int×List Int) sl ob nx=>⟨(5,.v (.c (.w 0 v.2.length)))::(11,tI v.1)::xS [0] sl,[(0,w5 v.2)]++ob,nx⟩)) (hB 0 (λ(v:List Int) sl ob nx=>⟨(5,.v (.c (.w 0 v.length)))::(11,.any)::xS [0] sl,[(0,w5 v)]++ob,nx⟩)) (hz 5)
def tL(a0:Int)(a1:Int)(a2:Int):Option Int:=
 afW (bW a2 0 999999) λr1=>cond (!r1) (ς (-1)) (afW (fw a0 [5,a1,a2]) λr2=>ς (WR ((WR (1000000*(Int.tmod r2 1000)))+a2)))
instance YI{a2:Int} :FC prog (tL a0 a1 a2=ς r) 379 [aI a0,aI a1,aI a2] [.c (.d (.i .i64 r))]:=gG func379 ntmps379
def yB(a0:aA):Option aA:=
 afW (cond (eqB a0.aX 2) (ς 3) (ς a0.aX)) λ(v1:Int)=>afW (mH {a0 with aX:=v1}) λr2=>ς r2
instance acN{a0:aA}{r:aA}:FC prog (yB a0=ς r) 170 [.agg (dR a0)] [.agg (qM [.o,.o] (mB r))]:=gG func170 ntmps170 (hC 5 (λ(v:Int) sl ob nx=>⟨sl,[(0,.var 67 (kM [.f,.f] (mB {a0 with aX:=v})))]++ob,nx⟩))
def sa(a0:ag)(a1:List Int):Option (ag×Bool):=
 afW (ia a0) λr1=>afW (cond (leB 24 (a0.aC.length:Int)) (ς ζ) (ς (ltB 60 (a1.length:Int)))) λ(v2:Bool)=>cond v2 (ς (r1,η)) (afW (fy a1) λr3=>cond (da 24 (r1.aC++[(⟨r3⟩:bI)]).length) (ς ({r1 with aC:=(r1.aC++[(⟨r3⟩:bI)])},ζ)) ξ)
instance WG{a0:ag}{a1:List Int}{r:ag×Bool}:FC prog (sa a0 a1=ς r) 171 [.agg (cr a0),aL (a1.map eU8)] [.agg (qM [.o,.o,.o] (dO r.1)),.c (.d (.b r.2))]:=gG func171 ntmps171 (hb 13 17) (hx 22) (hz 4)
def me(a0:Int)(a1:Int):Option Int:=
 afW (fw 17 [a0,a1]) λr1=>ς (Int.tmod (WR (r1*r1)) 2147483647)
instance PC:FC prog (me a0 a1=ς r) 266 [aI a0,aI a1] [.c (.d (.i .i64 r))]:=gG func266 ntmps266
def Bj(a0:ag):Option ag:=
 afW (ia a0) λr1=>ς {r1 with aV:=cO,bA:=0,cP:=0,et:=eE,cF:=0}
instance aew{a0:ag}{r:ag}:FC prog (Bj a0=ς r) 175 [.agg (cr a0)] [.agg (qM [.o,.o,.o] (dO r))]:=gG func175 ntmps175
def rx(a0:ab)(a1:cU):Option (Bool×ab):=
 afW (pZ a0 {a1 with bb:=10}) λr1=>ς (r1.1,r1.2)
instance Qw{a0:ab}{a1:cU}{r:Bool×ab}:FCV prog (rx a0 a1=ς r) 36 (nI a0) [tP 200,.v (.agg (kM [.t,.t] (nj {a1 with bb:=10})))] (nI r.2) (.v (.c (.d η (.b r.1)))) []:=gV func36 ntmps36
end Go.AM
