/- A part. -/
import Derived.Test.YtfbpfflnhfcmaaaGreatS4
import Derived.Test.YtfbpfflnhfcmaaaGreatS5
set_option linter.unusedVariables false
open Option renaming some->ς,none->ξ
open Bool renaming true->ζ,false->η
open True renaming intro->θ
open Option renaming bind->afW
open Int renaming tmod->afX
namespace Go.AM
open Go.Proofs
open Tryz
attribute [local irreducible] AWN NS AWO AWR AWC DR DZ dm gK iter
set_option maxRecDepth 100000
set_option maxHeartbeats 40000000
variable{a0 a1 r:Int}
def qx(a0:be)(a1:List a8)(a2:bR)(a3:Int):(Int×List av×List ag×List aA)->Option (cj (Int×List av×List ag×List aA) (List av×List ag×List aA))
 |(v6,v7,v8,v9)=>cond (ltB v6 (a1.length:Int)) (afW (ix a1 v6) λx17=>cond (!eqB (a0.bp.length:Int) 0) (afW (CI (⟨x17.ID,x17.eV,x17.cH⟩:mw) (afX v6 (a0.bp.length:Int))) λr18=>cond (da 144 (v9++[{r18 with bm:={ey with bw:=r18.bm.bw}}]).length) (afW (wx x17 a2 v6) λr19=>cond (da 288 (v8++[{r19 with aC:=[],ax:=(⟨r19.ax.bw,[]⟩:bk)}]).length) (afW (wu a3) λr20=>cond (da 48 (v7++[{r20 with aD:=[]}]).length) (ς (.next (WR (v6+1),(v7++[{r20 with aD:=[]}]),(v8++[{r19 with aC:=[],ax:=(⟨r19.ax.bw,[]⟩:bk)}]),(v9++[{r18 with bm:={ey with bw:=r18.bm.bw}}])))) ξ) ξ) ξ) ξ) (ς (.done (v7,v8,v9)))
def wv(a0:be)(a1:List a8)(a2:bR)(a3:Int):Option ab:=
 afW (sZ a0) λr1=>afW (cond (!r1) (ς ζ) (afW (iy a2) λr3=>cond (!r3) (ς ζ) (afW (wO a1) λr4=>ς (!r4)))) λ(v2:Bool)=>cond v2 (ς {gQ with cp:=(⟨[]⟩:be)}) (afW (s8 a0) λr5=>afW (iter (qx a0 a1 a2 a3) FU (0,([]:List av),([]:List ag),([]:List aA))) λ((v14,v15,v16):List av×List ag×List aA)=>ς (⟨r5,v16,v15,v14,[],0,(⟨2,3⟩:bQ),0,0⟩:ab))
instance B5{a0:be}{a1:List a8}{a2:bR}{a3:Int}{r:ab}:FCV prog (wv a0 a1 a2 a3=ς r) 132 [] [.v (.agg [.d η (.l (a0.bp.map gp))]),.v (.c (.d η (.l (a1.map eB)))),.v (.agg (kM [.f] (pF a2))),tI a3] [] (.v (.agg (kM [.n 210,.n 211,.n 212,.n 213,.z] (b9 {r with aH:=[]})))) [(210,Vj r.cp.bp),(211,n67 r.aj),(212,n93 r.an),(213,QG r.aT)]:=gV func132 ntmps132 (hb 15 24) (hL 0 (λ(v:Int×List av×List ag×List aA) sl ob nx=>⟨(10,tI v.1)::xS [217,216,215,213] sl,[(215,n67 v.2.2.2),(216,n93 v.2.2.1),(217,QG v.2.1)]++(uC 214 1 [.wn 215 v.2.2.2.length,.wn 216 v.2.2.1.length,.wn 217 v.2.1.length] ob),218⟩)) (hB 0 (λ(v:List av×List ag×List aA) sl ob nx=>⟨(10,.any)::xS [217,216,215,213] sl,[(215,n67 v.2.2),(216,n93 v.2.1),(217,QG v.1)]++(uC 214 1 [.wn 215 v.2.2.length,.wn 216 v.2.1.length,.wn 217 v.1.length] ob),218⟩)) (hz 10) (hx 63) (hz 9) (hz 8)
def AK(a0:aA):Option bi:=
 cond (!eqB a0.aX 0) (afW (vm a0) λr1=>ς r1) (afW (lO a0) λr2=>afW (vl a0) λr3=>afW (oF {r2 with aX:=1} r3) λr4=>ς r4)
instance Rc{a0:aA}{r:bi}:FC prog (AK a0=ς r) 138 [.agg (dR a0)] [.agg (qM [.d,.d,.o] (dr r))]:=gG func138 ntmps138 (hz 5)
def lL(a0:ag):Option Bool:=
 afW (cond (eqB a0.aX 1) (afW (jg a0.aZ) λr2=>cond (!r2) (ς ζ) (cond (ltB 0 a0.bA) (afW (jg a0.aV.eV) λr3=>cond (!r3) (ς ζ) (afW (dt a0.aX 0 1) λr4=>ς (!r4))) (afW (dt a0.aX 0 1) λr5=>ς (!r5)))) (cond (ltB 0 a0.bA) (afW (jg a0.aV.eV) λr6=>cond (!r6) (ς ζ) (afW (dt a0.aX 0 1) λr7=>ς (!r7))) (afW (dt a0.aX 0 1) λr8=>ς (!r8)))) λ(v1:Bool)=>cond v1 (ς η) (afW (fc a0.bD) λr9=>afW (cond (!r9) (ς ζ) (afW (iy a0.gI) λr11=>cond (!r11) (ς ζ) (afW (qv a0.et) λr12=>cond (!r12) (ς ζ) (afW (jh a0.bG) λr13=>cond (!r13) (ς ζ) (afW (zf a0) λr14=>ς (!r14)))))) λ(v10:Bool)=>cond v10 (ς η) (afW (dt a0.bA 0 999999) λr15=>afW (cond (!r15) (ς ζ) (afW (dt a0.ae 0 999999) λr17=>cond (!r17) (ς ζ) (afW (dt a0.aK 0 999999) λr18=>cond (!r18) (ς ζ) (afW (dt a0.aZ 0 2147483646) λr19=>ς (!r19))))) λ(v16:Bool)=>cond v16 (ς η) (afW (dt a0.aS 0 5) λr20=>afW (cond r20 (afW (dt a0.cP 0 5) λr22=>cond r22 (afW (dt a0.cF 0 3) λr23=>ς r23) (ς η)) (ς η)) λ(v21:Bool)=>ς v21)))
instance TX{a0:ag}{r:Bool}:FC prog (lL a0=ς r) 110 [.agg (cr a0)] [.c (.d (.b r))]:=gG func110 ntmps110 (hb 6 29) (hb 34 56) (hb 61 78) (hb 82 2)
def EW(a0:Int)(a1:bF):Option Int:=
 afW (tX a1.bh) λr1=>cond (da 8 ([a1.di,a1.gR]++r1).length) (afW (fA a0 ([a1.di,a1.gR]++r1)) λr2=>ς r2) ξ
instance sl8Mac_c{a1:bF} :FC prog (EW a0 a1=ς r) 154 [aI a0,.agg (eZ a1)] [.c (.d (.i .i64 r))]:=⟨λH=>by
 refine fI func154 ntmps154 ?_
 refine zI (List.range 12) ?_
 refine aa H λr1 q1 H=>zA (ca (hF:=H8.h q1)) ?_
 obtain⟨h,H⟩:=rq H
 refine wA (M8 (enc:=eI) (ys:=[a1.di,a1.gR]) (zs:=r1) [1,2] h) ?_
 refine aa H λr2 q2 H=>zA (ca (hF:=Mq.h q2)) ?_
 refine tD (ds:=[1]) (by kernel_rfl) (by kernel_rfl) rfl ?_
 refine wI ?_
 cases H
 exact jL⟩
def rL(a0:Int)(a1:Int):Option Int:=
 afW (fA a0 [9,a1]) λr1=>afW (Ic 1 r1) λr2=>ς r2
instance adB:FC prog (rL a0 a1=ς r) 257 [aI a0,aI a1] [.c (.d (.i .i64 r))]:=gG func257 ntmps257
def oB(a0:Int)(a1:Int):Option Int:=
 afW (fA a0 [1,a1]) λr1=>afW (Jv r1 1000000) λr2=>ς r2
instance W4:FC prog (oB a0 a1=ς r) 260 [aI a0,aI a1] [.c (.d (.i .i64 r))]:=gG func260 ntmps260
def AH(a0:Int)(a1:List Int):(Int×List Int)->Option (cj (Int×List Int) (List Int))
 |(v1,v2)=>cond (ltB v1 (a1.length:Int)) (afW (ix a1 v1) λx6=>afW (fA a0 [v1]) λr7=>cond (da 1 (v2++[IntKind.u8.wrap (afX (WR ((WR (x6))+(afX r7 256))) 256)]).length) (ς (.next (WR (v1+1),(v2++[IntKind.u8.wrap (afX (WR ((WR (x6))+(afX r7 256))) 256)])))) ξ) (ς (.done v2))
def DM(a0:Int)(a1:List Int):Option (List Int):=
 afW (iter (AH a0 a1) FU (0,([]:List Int))) λ(v5:List Int)=>ς v5
instance sEncrypt_c{a1:List Int}{r:List Int}:FC prog (DM a0 a1=ς r) 350 [aI a0,aL (a1.map eU8)] [.c (.own 5 1 (r.map eU8) r.length)]:=gG func350 ntmps350 (hL 0 (λ(v:Int×List Int) sl ob nx=>⟨(5,.v (.c (.w 0 v.2.length)))::(6,tI v.1)::xS [0] sl,[(0,w5 v.2)]++ob,nx⟩)) (hB 0 (λ(v:List Int) sl ob nx=>⟨(5,.v (.c (.w 0 v.length)))::(6,.any)::xS [0] sl,[(0,w5 v)]++ob,nx⟩)) (hz 5)
def mO(a0:dH)(a1:Int):Option Int:=
 afW (fA 29 [a0.eF,a0.bP,a1]) λr1=>ς r1
instance VW{a0:dH} :FC prog (mO a0 a1=ς r) 307 [.agg (pC a0),aI a1] [.c (.d (.i .i64 r))]:=gG func307 ntmps307
def kn(a0:ab)(a1:Int)(a2:bi):Option ab:=
 afW (ix a0.aj a1) λx1=>afW (mV {a0 with aj:=(a0.aj.set (a1).toNat a2.aY)} a1 ζ a2.bY) λr2=>ς r2
instance adY{a0:ab}{a2:bi}{r:ab}:FCV prog (kn a0 a1 a2=ς r) 243 (nS a0) [tP 200,tI a1,.v (.agg (kM [.t,.t,.t] (dr a2)))] (nS r) (.tup []) []:=gV func243 ntmps243 (hz 1)
def FA(r5:cm×List Int):(Int×List aG)->Option (cj (Int×List aG) (List aG))
 |(v6,v7)=>cond (ltB v6 (r5.2.length:Int)) (afW (ix r5.2 v6) λx10=>cond (da 88 (v7++[{fH with bb:=7,aS:=x10}]).length) (ς (.next (WR (v6+1),(v7++[{fH with bb:=7,aS:=x10}])))) ξ) (ς (.done v7))
def AX(a0:ag)(a1:av)(a2:be):Option bM:=
 afW (vq a0 a1) λr1=>afW (dt a0.aS 0 (WR ((a2.bp.length:Int)-1))) λr2=>afW (cond r2 (afW (ix a2.bp a0.aS) λx4=>ς x4.fF) (ς 0)) λ(v3:Int)=>afW (wD {a0.et with fF:=v3} a2) λr5=>afW (iter (FA r5) FU (0,r1.fj)) λ(v9:List aG)=>ς {r1 with aM:={r1.aM with et:=r5.1},fj:=v9}
instance IB{a0:ag}{a1:av}{a2:be}{r:bM}:FC prog (AX a0 a1 a2=ς r) 315 [.agg (cr a0),.agg (dw a1),.agg (gM a2)] [.agg (qM [.o,.o,.o,.o,.o,.o] (cd r))]:=gG func315 ntmps315 (hC 24 (λ(v:Int) sl ob nx=>⟨sl,[(11,.var 87 (kM [] (nY {a0.et with fF:=v})))]++ob,nx⟩)) (hL 0 (λ(v:Int×List aG) sl ob nx=>⟨(11,tI v.1)::xS [8,4,5,6,7,9] sl,[(8,w42 v.2)]++(uC 10 34 [.w 8 v.2.length] ob),nx⟩)) (hB 0 (λ(v:List aG) sl ob nx=>⟨(11,.any)::xS [8,4,5,6,7,9] sl,[(8,w42 v)]++(uC 10 34 [.w 8 v.length] ob),nx⟩)) (hz 11)
def t9(a0:ag)(a1:av)(a2:Int):Option (ag×av):=
 afW (jZ a0) λr1=>afW (qz a0 a2) λr2=>cond (leB r2 0) (afW (oE a1) λr3=>ς (r1,r3)) (afW (Ic r2 a0.gI.d4) λr4=>afW (sC a1 a0.bG r4) λr5=>ς ({r1 with bG:=r5.2},r5.1))
instance H9{a0:ag}{a1:av}{a2:Int}{r:ag×av}:FC prog (t9 a0 a1 a2=ς r) 354 [.agg (cr a0),.agg (dw a1),aI a2] [.agg (qM [.o,.o,.o] (dO r.1)),.agg (qM [.o] (dB r.2))]:=gG func354 ntmps354 (hz 4) (hz 7) (hz 5)
def AG(a0:Int)(a1:List Int):(Int×List Int)->Option (cj (Int×List Int) (List Int))
 |(v1,v2)=>cond (ltB v1 (a1.length:Int)) (afW (ix a1 v1) λx7=>afW (fA a0 [v1]) λr8=>afW (Jv (WR ((WR (x7))-(afX r8 256))) 256) λr9=>cond (da 1 (v2++[IntKind.u8.wrap (r9)]).length) (ς (.next (WR (v1+1),(v2++[IntKind.u8.wrap (r9)])))) ξ) (ς (.done v2))
def DL(a0:Int)(a1:List Int):Option (List Int):=
 afW (iter (AG a0 a1) FU (0,([]:List Int))) λ(v6:List Int)=>ς v6
instance sDecrypt_c{a1:List Int}{r:List Int}:FC prog (DL a0 a1=ς r) 390 [aI a0,aL (a1.map eU8)] [.c (.own 5 1 (r.map eU8) r.length)]:=gG func390 ntmps390 (hL 0 (λ(v:Int×List Int) sl ob nx=>⟨(5,.v (.c (.w 0 v.2.length)))::(6,tI v.1)::xS [0] sl,[(0,w5 v.2)]++ob,nx⟩)) (hB 0 (λ(v:List Int) sl ob nx=>⟨(5,.v (.c (.w 0 v.length)))::(6,.any)::xS [0] sl,[(0,w5 v)]++ob,nx⟩)) (hz 5)
def uc(a0:Int)(a1:Int)(a2:Int):Option Int:=
 afW (dt a2 0 999999) λr1=>cond (!r1) (ς (-1)) (afW (fA a0 [5,a1,a2]) λr2=>afW (Jv r2 1000) λr3=>ς (WR ((WR (1000000*r3))+a2)))
instance aat{a2:Int} :FC prog (uc a0 a1 a2=ς r) 391 [aI a0,aI a1,aI a2] [.c (.d (.i .i64 r))]:=gG func391 ntmps391
def jW(a0:Int)(a1:Int):Option Int:=
 afW (fA 17 [a0,a1]) λr1=>ς (afX (WR (r1*r1)) 2147483647)
instance PJ:FC prog (jW a0 a1=ς r) 322 [aI a0,aI a1] [.c (.d (.i .i64 r))]:=gG func322 ntmps322
end Go.AM
