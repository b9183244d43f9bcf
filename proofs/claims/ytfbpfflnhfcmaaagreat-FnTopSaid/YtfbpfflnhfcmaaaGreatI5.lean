/- A part. -/
import Derived.Test.YtfbpfflnhfcmaaaGreatI4
set_option linter.unusedVariables false
open Option renaming some->ς,none->ξ
open Bool renaming true->ζ,false->η
open True renaming intro->θ
open Option renaming bind->afW
namespace Go.AM
open Go.Proofs
open Tryz
attribute [local irreducible] AWN NS AWO AWR AWC DR DZ dm gK iter
set_option maxRecDepth 100000
set_option maxHeartbeats 40000000
variable{a0 r a1:Int}
def jo(a0:ab):Int->Option (cj (Int) (Bool))
 |v7=>cond (ltB v7 (a0.aH.length:Int)) (afW (ix a0.aH v7) λx8=>afW (bW x8.aY 0 (WR ((a0.aj.length:Int)-1))) λr9=>afW (cond (!r9) (ς ζ) (afW (mh a0.cp x8.aS) λr11=>ς (!r11))) λ(v10:Bool)=>cond v10 (dn (ς η)) (ς (.next (WR (v7+1))))) (dn (cond (leB 0 (a0.cp.bp.length:Int)) (afW (bW a0.bH 0 (WR ((nO .i64 1 (a0.cp.bp.length:Int))-1))) λr12=>afW (cond r12 (afW (bW a0.iS 0 100000) λr14=>cond r14 (ς (leB 0 a0.Lost)) (ς η)) (ς η)) λ(v13:Bool)=>ς v13) ξ))
def jn(a0:ab):Int->Option (cj (Int) (Bool))
 |v5=>cond (ltB v5 (a0.aj.length:Int)) (afW (lg a0 v5) λr6=>cond (!r6) (dn (ς η)) (ς (.next (WR (v5+1))))) (dn (cond (ltB 200 (a0.aH.length:Int)) (ς η) (iter (jo a0) FU 0)))
def iL(a0:ab):Option Bool:=
 afW (vU a0.cp) λr1=>afW (cond (!r1) (ς ζ) (afW (kY a0.fg) λr3=>cond (!r3) (ς ζ) (ς (eqB a0.fg.fZ 0)))) λ(v2:Bool)=>cond v2 (ς η) (afW (cond (ltB 4 (a0.aj.length:Int)) (ς ζ) (cond (!eqB (a0.an.length:Int) (a0.aj.length:Int)) (ς ζ) (ς (!eqB (a0.aT.length:Int) (a0.aj.length:Int))))) λ(v4:Bool)=>cond v4 (ς η) (iter (jn a0) FU 0))
instance SJ{a0:ab}{r:Bool}:FC prog (iL a0=ς r) 26 [.agg (eb a0)] [.c (.d (.b r))]:=gG func26 ntmps26 (hb 10 21) (hb 26 43) (hl 0 47) (hl 2 62) (hb 74 81) (hb 92 2)
def jP(a0:ab):Option ab:=
 afW (Dn a0.cp) λr1=>afW (f6 a0.aj) λr2=>afW (fK a0.an) λr3=>afW (fJ a0.aT) λr4=>afW (f7 a0.aH) λr5=>ς (⟨r1,r2,r3,r4,r5,a0.bH,a0.fg,a0.iS,a0.Lost⟩:ab)
instance YM{a0:ab}{r:ab}:FC prog (jP a0=ς r) 35 [.agg (eb a0)] [.agg (qM [.o,.o,.o,.o,.o] (b9 r))]:=gG func35 ntmps35
def oL(a1:Int)(a2:bi):(Int×ab)->Option (cj (Int×ab) (ab))
 |(v2,v13)=>cond (ltB v2 (a2.bY.length:Int)) (afW (ix a2.bY v2) λx27=>afW (we v13 (⟨a1,ζ,η,x27.aS,x27,gm⟩:bg)) λr28=>ς (.next (WR (v2+1),r28))) (ς (.done v13))
def ic(a0:ab)(a1:Int)(a2:bi):Option ab:=
 afW (ix a0.aj a1) λx1=>afW (iter (oL a1 a2) FU (0,{a0 with aj:=(a0.aj.set (a1).toNat a2.aY)})) λ(v26:ab)=>ς v26
instance YY{a0:ab}{a2:bi}{r:ab}:FCV prog (ic a0 a1 a2=ς r) 119 (nI a0) [tP 200,tI a1,.v (.agg (kM [.t,.t,.t] (dr a2)))] (nI r) (.tup []) []:=gV func119 ntmps119 (hL 0 (λ(v:Int×ab) sl ob nx=>⟨(19,tI v.1)::xS [193,192,191,190] sl,nI v.2++ob,nx⟩)) (hB 0 (λ(v:ab) sl ob nx=>⟨(19,.any)::xS [193,192,191,190] sl,nI v++ob,nx⟩)) (hz 1)
def lD(a1:List Int):(Int×Int)->Option (cj (Int×Int) (Int))
 |(v1,v2)=>cond (ltB v2 (a1.length:Int)) (afW (ix a1 v2) λx6=>afW (rm v1 x6) λr7=>ς (.next (r7,WR (v2+1)))) (ς (.done v1))
def yH(a0:Int)(a1:List Int):Option Int:=
 afW (iter (lD a1) FU (a0,0)) λ(v5:Int)=>ς v5
instance YO{a1:List Int} :FC prog (yH a0 a1=ς r) 271 [aI a0,aL (a1.map eI)] [.c (.d (.i .i64 r))]:=gG func271 ntmps271 (hm 0 0 9) (he 0 0 9)
def sN(a0:Int)(a1:eG):Option Int:=
 afW (yH a0 a1.Steps) λr1=>ς r1
instance abx{a1:eG} :FC prog (sN a0 a1=ς r) 184 [aI a0,.agg (xy a1)] [.c (.d (.i .i64 r))]:=gG func184 ntmps184
def Hn(a0:Int)(a1:Int)(a2:Int)(a3:List Int):Option bF:=
 afW (rm a0 (WR ((WR (2*a2))+a1))) λr1=>afW (Di r1 a3) λr2=>afW (pj a0 a1 a2 r2) λr3=>ς (⟨a1,a2,r2,r3⟩:bF)
instance iProtect_c{a2:Int}{a3:List Int}{r:bF}:FC prog (Hn a0 a1 a2 a3=ς r) 340 [aI a0,aI a1,aI a2,aL (a3.map eU8)] [.agg (qM [.o] (rj r))]:=gG func340 ntmps340
def kE(a1:Int)(a2:List aG):(Int×ab)->Option (cj (Int×ab) (ab))
 |(v1,v12)=>cond (ltB v1 (a2.length:Int)) (afW (ix a2 v1) λx26=>afW (we v12 {fT with aY:=a1,aS:=x26.aS,aP:=x26}) λr27=>ς (.next (WR (v1+1),r27))) (ς (.done v12))
def lS(a0:ab)(a1:Int)(a2:List aG):Option ab:=
 afW (iter (kE a1 a2) FU (0,a0)) λ(v25:ab)=>ς v25
instance WQ{a0:ab}{a2:List aG}{r:ab}:FCV prog (lS a0 a1 a2=ς r) 122 (nI a0) [tP 200,tI a1,.v (.c (.d ζ (.l (a2.map dE))))] (nI r) (.tup []) []:=gV func122 ntmps122 (hL 0 (λ(v:Int×ab) sl ob nx=>⟨(10,tI v.1)::xS [193,192,191,190] sl,nI v.2++ob,nx⟩)) (hB 0 (λ(v:ab) sl ob nx=>⟨(10,.any)::xS [193,192,191,190] sl,nI v++ob,nx⟩))
def mF(a0:Int)(a1:Int)(a2:Int):Option ct:=
 afW (bW a2 0 999999) λr1=>cond (!r1) (ς cO) (afW (oh a0 a1) λr2=>afW (fw a0 [2,a1,a2]) λr3=>afW (fw a0 [3,a1]) λr4=>afW (fw a0 [4,a1,a2]) λr5=>afW (cond (eqB r5 0) (ς 1) (ς r5)) λ(v6:Int)=>ς (⟨a1,Int.tmod (WR (a2+r2)) 1000000,r3,r4,v6⟩:ct))
instance U0{a2:Int}{r:ct}:FC prog (mF a0 a1 a2=ς r) 376 [aI a0,aI a1,aI a2] [.agg (qM [] (kV r))]:=gG func376 ntmps376 (hC 36 (λ(v:Int) sl ob nx=>⟨sl,uC 4 4 [.d η (.i .i64 v)] ob,nx⟩))
def tj(a0:a8)(a1:Int):Option (a8×ct):=
 afW (fP a0) λr1=>afW (cond (!r1) (ς ζ) (ς (eqB a0.cH 999999))) λ(v2:Bool)=>cond v2 (ς (a0,cO)) (afW (mF a0.eV a1 (WR (a0.cH+1))) λr3=>ς ({a0 with cH:=WR (a0.cH+1)},r3))
instance SN{a0:a8}{r:a8×ct}:FC prog (tj a0 a1=ς r) 342 [.agg (eB a0),aI a1] [.agg (qM [] (uP r.1)),.agg (qM [] (kV r.2))]:=gG func342 ntmps342 (hb 9 13) (hz 4)
def yF(a0:Int)(a1:bF):Option Bool:=
 afW (pj a0 a1.di a1.gR a1.bh) λr1=>ς (eqB a1.kr r1)
instance acR{a1:bF}{r:Bool}:FC prog (yF a0 a1=ς r) 181 [aI a0,.agg (eZ a1)] [.c (.d (.b r))]:=gG func181 ntmps181
def yJ(a0:Int)(a1:bF):Option (List Int):=
 afW (rm a0 (WR ((WR (2*a1.gR))+a1.di))) λr1=>afW (Dh r1 a1.bh) λr2=>ς r2
instance Aq{a1:bF}{r:List Int}:FC prog (yJ a0 a1=ς r) 102 [aI a0,.agg (eZ a1)] [.c (.own 5 1 (r.map eU8) r.length)]:=gG func102 ntmps102
def lC(a0:Int)(a1:Int)(a2:Int):Option Int:=
 afW (UZ a2 1000000) λr1=>afW (oh a0 a1) λr2=>afW (UZ (WR (r1-r2)) 1000000) λr3=>ς r3
instance SR{a2:Int} :FC prog (lC a0 a1 a2=ς r) 378 [aI a0,aI a1,aI a2] [.c (.d (.i .i64 r))]:=gG func378 ntmps378
def sb(a0:Int)(a1:Int)(a2:ct):Option Int:=
 afW (lC a0 a2.eJ a2.gD) λr1=>afW (fw a0 [2,a2.eJ,r1]) λr2=>cond (!eqB a2.kr r2) (ς 1) (cond (leB r1 a1) (ς 2) (cond (ltB (WR (a1+1000)) r1) (ς 3) (ς 0)))
instance WI{a2:ct} :FC prog (sb a0 a1 a2=ς r) 377 [aI a0,aI a1,.agg (ni a2)] [.c (.d (.i .i64 r))]:=gG func377 ntmps377
def Dj(a0:aA):Option bi:=
 cond (!eqB a0.aX 0) (afW (cV a0 []) λr1=>ς r1) (afW (oi {a0 with aX:=1,dy:=3}) λr2=>afW (cV {a0 with aX:=1,dy:=3} [r2]) λr3=>ς r3)
instance iPowerOn_c{a0:aA}{r:bi}:FC prog (Dj a0=ς r) 168 [.agg (dR a0)] [.agg (qM [.o,.o,.o] (dr r))]:=gG func168 ntmps168 (hz 5)
def kC(a0:bQ)(a1:Int):(Int×Int×Int)->Option (cj (Int×Int×Int) (Int))
 |(v2,v3,v4)=>cond (ltB v4 a0.fU) (afW (sM a0 v4) λr10=>cond (!r10) (ς (.next (v2,v3,WR (v4+1)))) (afW (me v4 a1) λr11=>afW (cond (ltB v3 r11) (ς (v4,r11)) (ς (v2,v3))) λ((v12,v13):Int×Int)=>ς (.next (v12,v13,WR (v4+1))))) (ς (.done v2))
def og(a0:bQ)(a1:Int):Option Int:=
 afW (kY a0) λr1=>cond (!r1) (ς (-1)) (afW (iter (kC a0 a1) FU (-1,-1,0)) λ(v9:Int)=>ς v9)
instance WE{a0:bQ} :FC prog (og a0 a1=ς r) 174 [.agg (jK a0),aI a1] [.c (.d (.i .i64 r))]:=gG func174 ntmps174 (hL 0 (λ(v:Int×Int×Int) sl ob nx=>⟨(5,tI v.1)::(6,tI v.2.1)::(7,tI v.2.2)::sl,ob,nx⟩)) (hB 0 (λ(v:Int) sl ob nx=>⟨(5,tI v)::(6,.any)::(7,.any)::sl,ob,nx⟩)) (hC 27 (λ(v:Int×Int) sl ob nx=>⟨(5,tI v.1)::(6,tI v.2)::sl,ob,nx⟩))
def mf(a0:ab)(r4:bQ):(Int×List ag)->Option (cj (Int×List ag) (List ag))
 |(v5,v6)=>cond (ltB v5 (a0.an.length:Int)) (afW (og a0.fg v5) λr14=>afW (og r4 v5) λr15=>afW (cond (!eqB r14 r15) (afW (ix v6 v5) λx17=>afW (Bj x17) λr18=>afW (ix v6 v5) λx19=>ς (v6.set (v5).toNat r18)) (ς v6)) λ(v16:List ag)=>ς (.next (WR (v5+1),v16))) (ς (.done v6))
def qc(a0:ab)(a1:cU):Option (Bool×ab):=
 afW (bW a1.cq 0 (WR (a0.fg.fU-1))) λr1=>afW (cond (!r1) (ς ζ) (afW (sM a0.fg a1.cq) λr3=>ς (booB r3 (eqB a1.bb 12)))) λ(v2:Bool)=>cond v2 (ς (η,a0)) (afW (tM a0.fg a1.cq (eqB a1.bb 12)) λr4=>cond (eqB r4.fZ 0) (ς (η,a0)) (afW (iter (mf a0 r4) FU (0,a0.an)) λ(v13:List ag)=>ς (ζ,{a0 with an:=v13,fg:=r4})))
instance U6{a0:ab}{a1:cU}{r:Bool×ab}:FCV prog (qc a0 a1=ς r) 95 (nI a0) [tP 200,.v (.agg (kM [.t,.t] (nj a1)))] (nI r.2) (.v (.c (.d η (.b r.1)))) []:=gV func95 ntmps95 (hb 22 32) (hL 0 (λ(v:Int×List ag) sl ob nx=>⟨(54,tI v.1)::xS [191,190,192,193] sl,[(191,w93 v.2)]++(uC 200 2 [.w 191 v.2.length] ob),nx⟩)) (hB 0 (λ(v:List ag) sl ob nx=>⟨(54,.any)::xS [191,190,192,193] sl,[(191,w93 v)]++(uC 200 2 [.w 191 v.length] ob),nx⟩)) (hC 63 (λ(v:List ag) sl ob nx=>⟨xS [191,190,192,193] sl,[(191,w93 v)]++(uC 200 2 [.w 191 v.length] ob),nx⟩)) (hz 13)
def LJ(a0:ab)(a1:bg):Option (Bool×ab):=
 afW (cond (leB 200 (a0.aH.length:Int)) (ς ζ) (afW (bW a1.aY 0 (WR ((a0.aj.length:Int)-1))) λr2=>cond (!r2) (ς ζ) (afW (mh a0.cp a1.aS) λr3=>ς (!r3)))) λ(v1:Bool)=>cond v1 (ς (η,a0)) (afW (we a0 a1) λr4=>ς (ζ,r4))
instance iforge_c{a0:ab}{a1:bg}{r:Bool×ab}:FCV prog (LJ a0 a1=ς r) 96 (nI a0) [tP 200,.v (.agg (kM [.t] (pD a1)))] (nI r.2) (.v (.c (.d η (.b r.1)))) []:=gV func96 ntmps96 (hb 11 32)
end Go.AM
