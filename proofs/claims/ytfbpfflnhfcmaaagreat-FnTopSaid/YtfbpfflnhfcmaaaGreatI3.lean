/- A part. -/
import Derived.Test.YtfbpfflnhfcmaaaGreatI2
set_option linter.unusedVariables false
open Option renaming some->ς,none->ξ
open Bool renaming true->ζ,false->η
open True renaming intro->θ
open Option renaming bind->afW
namespace Go.AM
open Go.Proofs
open Tryz
attribute [local irreducible] AWN NS AWO AWR AWC DR DZ dm gK iter
set_option maxRecDepth 100000
set_option maxHeartbeats 40000000
variable{r:Bool}
def pK(a0:be)(v2:Int)(x3:fo):Int->Option (cj (Int) (cj (Int) (Bool)))
 |v7=>cond (ltB v7 (x3.cY.length:Int)) (afW (ix x3.cY v7) λx8=>afW (cond (eqB x8 v2) (ς ζ) (afW (mh a0 x8) λr10=>cond (!r10) (ς ζ) (afW (xc a0 x8 v2) λr11=>ς (!r11)))) λ(v9:Bool)=>cond v9 (dn (dn (ς η))) (ς (.next (WR (v7+1))))) (dn (ς (.next (WR (v2+1)))))
def pJ(a0:be):Int->Option (cj (Int) (Bool))
 |v2=>cond (ltB v2 (a0.bp.length:Int)) (afW (ix a0.bp v2) λx3=>afW (bW x3.fF 0 2) λr4=>afW (cond (!r4) (ς ζ) (afW (qf x3.cY) λr6=>ς (!r6))) λ(v5:Bool)=>cond v5 (dn (ς η)) (iter (pK a0 v2 x3) FU 0)) (dn (ς ζ))
def vU(a0:be):Option Bool:=
 afW (bW (a0.bp.length:Int) 1 6) λr1=>cond (!r1) (ς η) (iter (pJ a0) FU 0)
instance abw{a0:be} :FC prog (vU a0=ς r) 68 [.agg (gM a0)] [.c (.d (.b r))]:=gG func68 ntmps68 (hl 0 15) (hb 24 29) (hl 2 33) (hb 40 52)
def pI(a0:aA):Option Bool:=
 afW (pM a0.dq) λr1=>afW (cond (!r1) (ς ζ) (afW (bW a0.aX 0 3) λr3=>cond (!r3) (ς ζ) (afW (bW a0.aS 0 5) λr4=>ς (!r4)))) λ(v2:Bool)=>cond v2 (ς η) (afW (bW a0.ae 0 999999) λr5=>afW (cond (!r5) (ς ζ) (afW (bW a0.aK 0 999999) λr7=>cond (!r7) (ς ζ) (afW (bW a0.aZ 0 2147483646) λr8=>ς (!r8)))) λ(v6:Bool)=>cond v6 (ς η) (afW (cond (eqB a0.aX 2) (afW (ip a0.aZ) λr10=>ς (!r10)) (cond (eqB a0.aX 3) (afW (ip a0.aZ) λr11=>ς (!r11)) (ς η))) λ(v9:Bool)=>cond v9 (ς η) (afW (bW a0.dy 0 3) λr12=>afW (cond r12 (afW (kB a0.bm) λr14=>ς r14) (ς η)) λ(v13:Bool)=>ς v13)))
instance UW{a0:aA} :FC prog (pI a0=ς r) 127 [.agg (dR a0)] [.c (.d (.b r))]:=gG func127 ntmps127 (hb 7 18) (hb 23 34) (hb 38 48) (hb 52 2)
def gN(a0:ag):Int->Option (cj (Int) (Bool))
 |v23=>cond (ltB v23 (a0.ax.aJ.length:Int)) (afW (ix a0.ax.aJ v23) λx24=>afW (ix a0.aC (WR (x24.cH-1))) λx25=>afW (vS x24.bh x25.bh) λr26=>cond (!r26) (dn (ς η)) (ς (.next (WR (v23+1))))) (dn (afW (jO a0) λr27=>afW (jG a0.bG) λr28=>ς (leB r27 r28)))
def jF(a0:ag):Option Bool:=
 afW (fP a0.bD) λr1=>afW (cond (!r1) (ς ζ) (afW (jN a0.gI) λr3=>cond (!r3) (ς ζ) (afW (pL a0.et) λr4=>cond (!r4) (ς ζ) (afW (mD a0.ax) λr5=>cond (!r5) (ς ζ) (afW (kh a0.bG) λr6=>ς (!r6)))))) λ(v2:Bool)=>cond v2 (ς η) (afW (cond (!eqB a0.aX 0) (ς (!eqB a0.aX 1)) (ς η)) λ(v7:Bool)=>cond v7 (ς η) (afW (cond (eqB a0.aX 1) (afW (ip a0.aZ) λr9=>cond (!r9) (ς ζ) (cond (ltB 0 a0.bA) (afW (ip a0.aV.eV) λr10=>ς (!r10)) (ς η))) (cond (ltB 0 a0.bA) (afW (ip a0.aV.eV) λr11=>ς (!r11)) (ς η))) λ(v8:Bool)=>cond v8 (ς η) (afW (bW a0.bA 0 999999) λr12=>afW (cond (!r12) (ς ζ) (afW (bW a0.ae 0 999999) λr14=>cond (!r14) (ς ζ) (afW (bW a0.aK 0 999999) λr15=>cond (!r15) (ς ζ) (afW (bW a0.aZ 0 2147483646) λr16=>ς (!r16))))) λ(v13:Bool)=>cond v13 (ς η) (afW (bW a0.aS 0 5) λr17=>afW (cond (!r17) (ς ζ) (afW (bW a0.cP 0 5) λr19=>cond (!r19) (ς ζ) (afW (bW a0.cF 0 3) λr20=>ς (!r20)))) λ(v18:Bool)=>cond v18 (ς η) (afW (cond (ltB 24 (a0.aC.length:Int)) (ς ζ) (afW (wc a0.aC) λr22=>cond (!r22) (ς ζ) (ς (ltB (WR ((a0.aC.length:Int)+1)) a0.ax.bw)))) λ(v21:Bool)=>cond v21 (ς η) (iter (gN a0) FU 0))))))
instance vV{a0:ag} :FC prog (jF a0=ς r) 128 [.agg (cr a0)] [.c (.d (.b r))]:=gG func128 ntmps128 (hb 9 32) (hb 36 40) (hb 44 61) (hb 66 83) (hb 88 99) (hb 104 119) (hl 0 124)
def mH(a0:aA):Option aA:=
 afW (om a0.bm) λr1=>ς {a0 with bm:=r1}
instance abC{a0:aA}{r:aA}:FC prog (mH a0=ς r) 85 [.agg (dR a0)] [.agg (qM [.o,.o] (mB r))]:=gG func85 ntmps85
def ia(a0:ag):Option ag:=
 afW (mg a0.gI) λr1=>afW (ol a0.aC) λr2=>afW (mI a0.ax) λr3=>ς {a0 with gI:=r1,aC:=r2,ax:=r3}
instance Ak{a0:ag}{r:ag}:FC prog (ia a0=ς r) 87 [.agg (cr a0)] [.agg (qM [.o,.o,.o] (dO r))]:=gG func87 ntmps87
def sQ(a0:bg):Option bg:=
 afW (yG a0.bV) λr1=>ς {a0 with bV:=r1}
instance Jg{a0:bg}{r:bg}:FC prog (sQ a0=ς r) 91 [.agg (fG a0)] [.agg (qM [.o] (pD r))]:=gG func91 ntmps91
def n9(a1:List Int):(Int×Int)->Option (cj (Int×Int) (Int))
 |(v2,v3)=>cond (ltB v3 (a1.length:Int)) (afW (ix a1 v3) λx7=>afW (ph v2 x7) λr8=>ς (.next (r8,WR (v3+1)))) (ς (.done v2))
def fw(a0:Int)(a1:List Int):Option Int:=
 afW (ph 11 a0) λr1=>afW (iter (n9 a1) FU (r1,0)) λ(v6:Int)=>afW (ph v6 a0) λr9=>ς r9
instance acP{a0:Int}{a1:List Int}{r:Int}:FC prog (fw a0 a1=ς r) 270 [aI a0,aL (a1.map eI)] [.c (.d (.i .i64 r))]:=gG func270 ntmps270 (hm 0 5 12) (he 0 5 12)
def pS(a0:av)(a1:cW):Option (av×cW):=
 afW (ga a0 a1) λr1=>cond (!r1) (afW (fD a0) λr2=>ς (r2,a1)) (afW (LB a0 a1.aO a1.d6) λr3=>cond (!r3.2) (afW (fD a0) λr4=>ς (r4,a1)) (ς (r3.1,(⟨a1.aO,WR (a1.cG-a1.d6),0⟩:cW))))
instance Hp{a0:av}{a1:cW}{r:av×cW}:FC prog (pS a0 a1=ς r) 206 [.agg (dw a0),.agg (oH a1)] [.agg (qM [.o] (dB r.1)),.agg (qM [] (Bf r.2))]:=gG func206 ntmps206 (hz 2) (hz 5) (hz 8)
def Ar(r4:cm×List Int):(Int×List aG)->Option (cj (Int×List aG) (List aG))
 |(v5,v6)=>cond (ltB v5 (r4.2.length:Int)) (afW (ix r4.2 v5) λx9=>cond (da 88 (v6++[{fH with bb:=7,aS:=x9}]).length) (ς (.next (WR (v5+1),(v6++[{fH with bb:=7,aS:=x9}])))) ξ) (ς (.done v6))
def wd(a0:ag)(a1:av)(a2:be):Option bM:=
 afW (mh a2 a0.aS) λr1=>afW (cond r1 (afW (F5 a2 a0.aS) λr3=>ς r3) (ς 0)) λ(v2:Int)=>afW (wa {a0.et with fF:=v2} a2) λr4=>afW (iter (Ar r4) FU (0,([]:List aG))) λ(v8:List aG)=>ς (⟨{a0 with et:=r4.1},a1,v8,[]⟩:bM)
instance Jj{a0:ag}{a1:av}{a2:be}{r:bM}:FCV prog (wd a0 a1 a2=ς r) 207 [] [.v (.agg (kM [.t,.t,.t] (dO a0))),.v (.agg (kM [.t] (dB a1))),.v (.agg [.d η (.l (a2.bp.map gp))])] [] (.v (.agg (kM [.t,.t,.t,.t,.n 210,.z] (cd {r with bV:=[]})))) [(210,n42 r.fj)]:=gV func207 ntmps207 (hC 17 (λ(v:Int) sl ob nx=>⟨sl,[(210,.var 93 (kM [.t,.t,.t] (dO {a0 with et:={a0.et with fF:=v}})))]++ob,nx⟩)) (hL 0 (λ(v:Int×List aG) sl ob nx=>⟨(38,tI v.1)::xS [217] sl,[(217,n42 v.2)]++(uC 216 34 [.wn 217 v.2.length] ob),218⟩)) (hB 0 (λ(v:List aG) sl ob nx=>⟨(38,.any)::xS [217] sl,[(217,n42 v)]++(uC 216 34 [.wn 217 v.length] ob),218⟩))
def rZ(a0:av)(a1:cW)(a2:Int):Option (av×cW):=
 afW (ga a0 a1) λr1=>cond (!r1) (afW (fD a0) λr2=>ς (r2,a1)) (afW (Dk a0 a1.aO a2) λr3=>cond (ltB 100000 (WR (a1.cG+r3.2))) (afW (fD a0) λr4=>ς (r4,a1)) (ς (r3.1,{a1 with cG:=WR (a1.cG+r3.2)})))
instance WD{a0:av}{a1:cW}{a2:Int}{r:av×cW}:FC prog (rZ a0 a1 a2=ς r) 341 [.agg (dw a0),.agg (oH a1),aI a2] [.agg (qM [.o] (dB r.1)),.agg (qM [] (Bf r.2))]:=gG func341 ntmps341 (hz 2) (hz 5) (hz 7)
def sP(a0:bk)(a1:List Int):Option (bk×ah×Bool):=
 afW (mI a0) λr1=>afW (fy a1) λr2=>cond (da 32 (r1.aJ++[(⟨a0.bw,r2⟩:ah)]).length) (afW (mD (⟨WR (r1.bw+1),(r1.aJ++[(⟨a0.bw,r2⟩:ah)])⟩:bk)) λr3=>cond (!r3) (afW (mI a0) λr4=>ς (r4,b7,η)) (afW (fy a1) λr5=>ς ((⟨WR (r1.bw+1),(r1.aJ++[(⟨a0.bw,r2⟩:ah)])⟩:bk),(⟨a0.bw,r5⟩:ah),ζ))) ξ
theorem Hr{a0:bk}{a1:List Int}{r:bk×ah×Bool}(H:sP a0 a1=ς r)(hflag:r.2.2=ζ):Fn prog 290 [.agg (gY a0),aL (a1.map eU8)] [.agg (qM [.o] (eL r.1)),.agg (qM [.o] (ec r.2.1)),.c (.d (.b r.2.2))]:=by
 refine fI func290 ntmps290 ?_
 refine aa H λr1 q1 H=>nA (ca (hF:=sh.h q1)) ?_
 refine zI (List.range 11) ?_
 refine aa H λr2 q2 H=>zA (ca (hF:=(tQ.h q2).frzs (by repeat (first|exact θ|refine⟨?_,?_⟩|exact lm _|rfl)))) ?_
 obtain⟨h,H⟩:=rq H
 refine zB dV (vG rfl (apT (enc:=bC) (ys:=r1.aJ) (zs:=[(⟨a0.bw,r2⟩:ah)]) h)) dV ?_
 refine wA (spx 100549) ?_
 refine aa H λr3 q3 H=>nA (ca (hF:=xC.h q3)) ?_
 refine cC H ?_ ?_<;>intro H
 .refine aa H λr4 q4 H=>nA (ca (hF:=sh.h q4)) ?_
  cases H
  cases hflag
 refine zI (List.range 9) ?_
 refine aa H λr5 q5 H=>zA (ca (hF:=tQ.h q5)) ?_
 refine wA (spx 100548) ?_
 refine wA (spx 100547) ?_
 exact ao H
theorem Hq{a0:bk}{a1:List Int}{r:bk×ah×Bool}(H:sP a0 a1=ς r)(hflag:r.2.2=η):Fn prog 290 [.agg (gY a0),aL (a1.map eU8)] [.agg (qM [.o] (eL r.1)),.agg (qM [.z] (ec r.2.1)),.c (.d (.b r.2.2))]:=by
 refine fI func290 ntmps290 ?_
 refine aa H λr1 q1 H=>nA (ca (hF:=sh.h q1)) ?_
 refine zI (List.range 11) ?_
 refine aa H λr2 q2 H=>zA (ca (hF:=(tQ.h q2).frzs (by repeat (first|exact θ|refine⟨?_,?_⟩|exact lm _|rfl)))) ?_
 obtain⟨h,H⟩:=rq H
 refine zB dV (vG rfl (apT (enc:=bC) (ys:=r1.aJ) (zs:=[(⟨a0.bw,r2⟩:ah)]) h)) dV ?_
 refine wA (spx 100552) ?_
 refine aa H λr3 q3 H=>nA (ca (hF:=xC.h q3)) ?_
 refine cC H ?_ ?_<;>intro H
 .refine aa H λr4 q4 H=>nA (ca (hF:=sh.h q4)) ?_
  exact ao H
 refine zI (List.range 9) ?_
 refine aa H λr5 q5 H=>zA (ca (hF:=tQ.h q5)) ?_
 refine wA (spx 100551) ?_
 refine wA (spx 100550) ?_
 cases H
 cases hflag
def im(a0:bk)(a1:Int):(Int×List ah)->Option (cj (Int×List ah) (List ah))
 |(v2,v3)=>cond (ltB v2 (a0.aJ.length:Int)) (afW (ix a0.aJ v2) λx7=>afW (cond (leB a1 x7.cH) (cond (da 32 (v3++[x7]).length) (ς (v3++[x7])) ξ) (ς v3)) λ(v8:List ah)=>ς (.next (WR (v2+1),v8))) (ς (.done v3))
def lZ(a0:bk)(a1:Int):Option bk:=
 cond (ltB a0.bw a1) (afW (mI a0) λr1=>ς r1) (afW (iter (im a0 a1) FU (0,([]:List ah))) λ(v6:List ah)=>afW (lQ v6) λr9=>ς (⟨a0.bw,r9⟩:bk))
instance Pz{a0:bk}{a1:Int}{r:bk}:FC prog (lZ a0 a1=ς r) 347 [.agg (gY a0),aI a1] [.agg (qM [.o] (eL r))]:=gG func347 ntmps347 (hL 0 (λ(v:Int×List ah) sl ob nx=>⟨(5,.v (.c (.w 2 v.2.length)))::(18,tI v.1)::xS [2] sl,[(2,Ps v.2 η ζ)]++ob,nx⟩)) (hB 0 (λ(v:List ah) sl ob nx=>⟨(5,.v (.c (.w 2 v.length)))::(18,.any)::xS [2] sl,[(2,Ps v η ζ)]++ob,nx⟩)) (hC 25 (λ(v:List ah) sl ob nx=>⟨(5,.v (.c (.w 2 v.length)))::xS [2] sl,[(2,Ps v η ζ)]++ob,nx⟩)) (hz 10)
def mc(a1:ah)(r1:a9):Int->Option (cj (Int) (Int))
 |v6=>afW (cond (ltB v6 (r1.aV.length:Int)) (afW (ix r1.aV v6) λx11=>ς (ltB x11.cH a1.cH)) (ς η)) λ(v10:Bool)=>cond v10 (ς (.next (WR (v6+1)))) (ς (.done v6))
def md:a9->Option (cj (a9) (a9))
 |v17=>afW (cond (ltB 0 (v17.aV.length:Int)) (afW (ix v17.aV 0) λx26=>cond (eqB x26.cH v17.bw) (ς (ltB (v17.bv.length:Int) 24)) (ς η)) (ς η)) λ(v25:Bool)=>cond v25 (afW (ix v17.aV 0) λx27=>cond (da 24 (v17.bv++[(⟨x27.bh⟩:bI)]).length) (cond (eQ v17.aV 1 v17.aV.length) (ς (.next (⟨WR (v17.bw+1),v17.aV.drop ((1:Int)).toNat,(v17.bv++[(⟨x27.bh⟩:bI)])⟩:a9))) ξ) ξ) (ς (.done v17))
def pP(a0:a9)(a1:ah):Option a9:=
 afW (om a0) λr1=>afW (kB a0) λr2=>afW (cond (!r2) (ς ζ) (cond (ltB 60 (a1.bh.length:Int)) (ς ζ) (afW (bW a1.cH a0.bw (WR ((WR (a0.bw+8))-1))) λr4=>cond (!r4) (ς ζ) (afW (Cu a0 a1.cH) λr5=>cond r5 (ς ζ) (ς (leB 24 (a0.bv.length:Int))))))) λ(v3:Bool)=>cond v3 (ς r1) (afW (iter (mc a1 r1) FU 0) λ(v9:Int)=>cond (da 32 (r1.aV++[b7]).length) (cond (eQ (r1.aV++[b7]) (WR (v9+1)) (r1.aV++[b7]).length) (cond (eQ (r1.aV++[b7]) v9 (r1.aV++[b7]).length) (afW (fy a1.bh) λr12=>afW (ix (cpD (r1.aV++[b7]) (WR (v9+1)).toNat ((r1.aV++[b7]).drop (v9).toNat)) v9) λx13=>afW (iter (md) FU {r1 with aV:=((cpD (r1.aV++[b7]) (WR (v9+1)).toNat ((r1.aV++[b7]).drop (v9).toNat)).set (v9).toNat (⟨a1.cH,r12⟩:ah))}) λ(v24:a9)=>cond (leB 24 (v24.bv.length:Int)) (ς {v24 with aV:=[]}) (ς v24)) ξ) ξ) ξ)
instance Ew{a0:a9}{a1:ah}{r:a9}:FC prog (pP a0 a1=ς r) 297 [.agg (iJ a0),.agg (bC a1)] [.agg (qM [.d,.o] (c7 r))]:=gG func297 ntmps297 (hb 12 41) (hl 0 6) (he 0 6 6) (hb 48 58) (hL 2 (λ(v:a9) sl ob nx=>⟨(65,.any)::(68,.any)::(73,.any)::(78,.any)::xS [4,3] sl,oM [.t,.w 4] 5 65 (c7 v)++fO [3] ob,nx⟩)) (hB 2 (λ(v:a9) sl ob nx=>⟨(65,.any)::(68,.any)::(73,.any)::(78,.any)::xS [4,3] sl,oM [.t,.w 4] 5 65 (c7 v)++fO [3] ob,nx⟩)) (hb 91 106) (hz 11) (hz 9) (hz 8)
def pZ(a0:ab)(a1:cU):Option (Bool×ab):=
 afW (mh a0.cp a1.cq) λr1=>afW (cond (!r1) (ς ζ) (afW (uj a0 a1.cq) λr3=>ς (booB r3 (eqB a1.bb 10)))) λ(v2:Bool)=>cond v2 (ς (η,a0)) (cond (leB 0 a1.cq) (ς (ζ,{a0 with bH:=Jb .i64 a0.bH (nO .i64 1 a1.cq)})) ξ)
instance YL{a0:ab}{a1:cU}{r:Bool×ab}:FCV prog (pZ a0 a1=ς r) 94 (nI a0) [tP 200,.v (.agg (kM [.t,.t] (nj a1)))] (nI r.2) (.v (.c (.d η (.b r.1)))) []:=gV func94 ntmps94 (hb 13 24) (hz 3)
def kt(a0:ab)(a1:Int):Option Bool:=
 afW (pf a0 a1) λr1=>cond (!r1) (ς η) (afW (ix a0.an a1) λx2=>afW (nZ a0 a1) λr3=>afW (f9 x2) λr4=>afW (rV x2 r4) λr5=>ς (eqB r3 r5))
instance MT{a0:ab}{a1:Int} :FC prog (kt a0 a1=ς r) 38 [.agg (eb a0),aI a1] [.c (.d (.b r))]:=gG func38 ntmps38
def Am(a0:List kc)(a1:aF):Option Bool:=
 afW (oc a1.aK) λr1=>afW (Hl a0 a1.ae r1) λr2=>ς r2
instance Ji{a0:List kc}{a1:aF} :FC prog (Am a0 a1=ς r) 41 [aL (a0.map z6),.agg (df a1)] [.c (.d (.b r))]:=gG func41 ntmps41
def tJ(a0:ab)(a1:Int):Option Bool:=
 afW (bW a1 0 (WR ((a0.aj.length:Int)-1))) λr1=>afW (cond r1 (afW (ix a0.aj a1) λx3=>cond (!eqB x3.aX 0) (afW (ix a0.aj a1) λx4=>afW (uj a0 x4.aS) λr5=>ς r5) (ς η)) (ς η)) λ(v2:Bool)=>ς v2
instance YC{a0:ab}{a1:Int} :FC prog (tJ a0 a1=ς r) 17 [.agg (eb a0),aI a1] [.c (.d (.b r))]:=gG func17 ntmps17 (hb 11 4)
def yy(a0:ab)(a1:Int):Option Bool:=
 afW (pf a0 a1) λr1=>cond (!r1) (ς η) (afW (ix a0.an a1) λx2=>afW (lR x2.aC) λr3=>afW (nZ a0 a1) λr4=>afW (ix a0.aT a1) λx5=>afW (jG x2.bG) λr6=>ς (leB (WR (r3-r4)) (WR (x5.bL+r6))))
instance acK{a0:ab}{a1:Int} :FC prog (yy a0 a1=ς r) 19 [.agg (eb a0),aI a1] [.c (.d (.b r))]:=gG func19 ntmps19
end Go.AM
