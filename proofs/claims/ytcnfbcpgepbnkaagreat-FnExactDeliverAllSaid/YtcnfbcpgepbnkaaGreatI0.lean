/- A part. -/
import Derived.Test.YtcnfbcpgepbnkaaGreatG
set_option linter.unusedVariables false
open Option renaming some->ς,none->ξ
open Bool renaming true->ζ,false->η
open True renaming intro->θ
open Option renaming bind->abX
open List renaming replicate->aae
namespace Go.AM
open Go.Proofs
open Tryz
attribute [local irreducible] AWN NS AWO AWR AWC DR DZ cp ec iter
set_option maxRecDepth 100000
set_option maxHeartbeats 40000000
def fC(a0:List Int):Option (List Int):=
 cond (iG 1 (a0.length:Int) (a0.length:Int)) (ς (cpL (aae ((a0.length:Int)).toNat (0:Int)) a0)) ξ
instance ur{a0:List Int}{r:List Int}:FC prog (fC a0=ς r) 230 [aL (a0.map eU8)] [.c (.own 5 1 (r.map eU8) r.length)]:=gG func230 ntmps230
def oJ(a0:List aC):(Int×List aC)->Option (bN (Int×List aC) (List aC))
 |(v1,v2)=>cond (ltB v1 (a0.length:Int)) (abX (ix a0 v1) λx7=>abX (fC x7.bk) λr8=>abX (ix v2 v1) λx9=>ς (.next (WR (v1+1),(v2.set (v1).toNat (⟨r8⟩:aC))))) (ς (.done v2))
def jC(a0:List aC):Option (List aC):=
 cond (iG 24 (a0.length:Int) (a0.length:Int)) (abX (iter (oJ a0) FU (0,(aae ((a0.length:Int)).toNat (⟨[]⟩:aC)))) λ(v6:List aC)=>ς v6) ξ
instance RZ{a0:List aC}{r:List aC}:FC prog (jC a0=ς r) 153 [aL (a0.map bQ)] [.c (.own 251 1 (r.map bQ) r.length)]:=gG func153 ntmps153 (hL 0 (λ(v:Int×List aC) sl ob nx=>⟨(3,.v (.c (.w 0 v.2.length)))::(11,tI v.1)::xS [0] sl,[(0,RI v.2)]++ob,nx⟩)) (hB 0 (λ(v:List aC) sl ob nx=>⟨(3,.v (.c (.w 0 v.length)))::(11,.any)::xS [0] sl,[(0,RI v)]++ob,nx⟩))
def oI(a0:List ab):(Int×List ab)->Option (bN (Int×List ab) (List ab))
 |(v1,v2)=>cond (ltB v1 (a0.length:Int)) (abX (ix a0 v1) λx7=>abX (fC x7.bk) λr8=>abX (ix v2 v1) λx9=>ς (.next (WR (v1+1),(v2.set (v1).toNat (⟨x7.cP,r8⟩:ab))))) (ς (.done v2))
def gR(a0:List ab):Option (List ab):=
 cond (iG 32 (a0.length:Int) (a0.length:Int)) (abX (iter (oI a0) FU (0,(aae ((a0.length:Int)).toNat bg))) λ(v6:List ab)=>ς v6) ξ
instance RY{a0:List ab}{r:List ab}:FC prog (gR a0=ς r) 229 [aL (a0.map ah)] [.c (.own 249 2 (r.map ah) r.length)]:=gG func229 ntmps229 (hL 0 (λ(v:Int×List ab) sl ob nx=>⟨(3,.v (.c (.w 0 v.2.length)))::(11,tI v.1)::xS [0] sl,[(0,Jd v.2)]++ob,nx⟩)) (hB 0 (λ(v:List ab) sl ob nx=>⟨(3,.v (.c (.w 0 v.length)))::(11,.any)::xS [0] sl,[(0,Jd v)]++ob,nx⟩)) (hz 5)
def jD(a0:aj):Option aj:=
 abX (gR a0.am) λr1=>abX (jC a0.aD) λr2=>ς (⟨a0.bK,r1,r2⟩:aj)
instance R3{a0:aj}{r:aj}:FC prog (jD a0=ς r) 151 [.agg (dw a0)] [.agg (qM [.o,.o] (bX r))]:=gG func151 ntmps151 (hz 1)
def mz(a0:av):Option av:=
 abX (jD a0.bY) λr1=>ς {a0 with bY:=r1}
instance Ww{a0:av}{r:av}:FC prog (mz a0=ς r) 78 [.agg (aZ a0)] [.agg (qM [.o,.o] (gv r))]:=gG func78 ntmps78
def mB(a0:aF):Option aF:=
 abX (gR a0.aJ) λr1=>ς (⟨a0.bK,r1⟩:aF)
instance Wx{a0:aF}{r:aF}:FC prog (mB a0=ς r) 154 [.agg (eA a0)] [.agg (qM [.o] (dW r))]:=gG func154 ntmps154 (hz 1)
def na(a0:aS):Option aS:=
 abX (fC a0.bk) λr1=>ς {a0 with bk:=r1}
instance TW{a0:aS}{r:aS}:FC prog (na a0=ς r) 231 [.agg (cZ a0)] [.agg (qM [.o] (oG r))]:=gG func231 ntmps231
def qX(a0:aT):Option aT:=
 abX (na a0.a9) λr1=>ς {a0 with a9:=r1}
instance Xv{a0:aT}{r:aT}:FC prog (qX a0=ς r) 156 [.agg (db a0)] [.agg (qM [.o] (jy r))]:=gG func156 ntmps156
def mA(a0:aH):Option aH:=
 abX (qX a0.cY) λr1=>ς {a0 with cY:=r1}
instance FB{a0:aH}{r:aH}:FC prog (mA a0=ς r) 84 [.agg (aW a0)] [.agg (qM [.o] (jh r))]:=gG func84 ntmps84
def fm(a0:List av):(Int×List av)->Option (bN (Int×List av) (List av))
 |(v1,v2)=>cond (ltB v1 (a0.length:Int)) (abX (ix a0 v1) λx7=>abX (mz x7) λr8=>abX (ix v2 v1) λx9=>ς (.next (WR (v1+1),(v2.set (v1).toNat r8)))) (ς (.done v2))
def dL(a0:List av):Option (List av):=
 cond (iG 144 (a0.length:Int) (a0.length:Int)) (abX (iter (fm a0) FU (0,(aae ((a0.length:Int)).toNat xj))) λ(v6:List av)=>ς v6) ξ
instance xY{a0:List av}{r:List av}:FCV prog (dL a0=ς r) 77 [] [.v (.c (.d η (.l (a0.map aZ)))),.v (.c (.fn 78))] [] (.v (.c (.w 210 r.length))) [(210,Wa r)]:=gV func77 ntmps77 (hL 0 (λ(v:Int×List av) sl ob nx=>⟨(5,.v (.c (.w 210 v.2.length)))::(13,tI v.1)::xS [210] sl,[(210,Wa v.2)]++ob,nx⟩)) (hB 0 (λ(v:List av) sl ob nx=>⟨(5,.v (.c (.w 210 v.length)))::(13,.any)::xS [210] sl,[(210,Wa v)]++ob,nx⟩))
def fo(a0:List aH):(Int×List aH)->Option (bN (Int×List aH) (List aH))
 |(v1,v2)=>cond (ltB v1 (a0.length:Int)) (abX (ix a0 v1) λx7=>abX (mA x7) λr8=>abX (ix v2 v1) λx9=>ς (.next (WR (v1+1),(v2.set (v1).toNat r8)))) (ς (.done v2))
def dM(a0:List aH):Option (List aH):=
 cond (iG 176 (a0.length:Int) (a0.length:Int)) (abX (iter (fo a0) FU (0,(aae ((a0.length:Int)).toNat iF))) λ(v6:List aH)=>ς v6) ξ
instance xZ{a0:List aH}{r:List aH}:FCV prog (dM a0=ς r) 83 [] [.v (.c (.d η (.l (a0.map aW)))),.v (.c (.fn 84))] [] (.v (.c (.w 210 r.length))) [(210,Wd r)]:=gV func83 ntmps83 (hL 0 (λ(v:Int×List aH) sl ob nx=>⟨(5,.v (.c (.w 210 v.2.length)))::(13,tI v.1)::xS [210] sl,[(210,Wd v.2)]++ob,nx⟩)) (hB 0 (λ(v:List aH) sl ob nx=>⟨(5,.v (.c (.w 210 v.length)))::(13,.any)::xS [210] sl,[(210,Wd v)]++ob,nx⟩))
def yy(a0:ae)(a1:aH):Option ae:=
 cond (leB 200 (a0.ax.length:Int)) (ς {a0 with lb:=WR (a0.lb+1)}) (abX (mA a1) λr1=>cond (dH 176 (a0.ax++[r1]).length) (ς {a0 with ax:=(a0.ax++[r1])}) ξ)
instance isend_c{a0:ae}{a1:aH}{r:ae}:FCV prog (yy a0 a1=ς r) 112 (nI a0) [tP 200,.v (.agg (kM [.t] (jh a1)))] (nI r) (.tup []) []:=⟨λH=>by
 refine fV func112 ntmps112 ?_
 refine cC H ?_ ?_<;>intro H
 .cases H
  exact ea
 refine Hn 0 17 0 [1,2,3,4,5,6,7,8,9,10,11] Try.follows (by kernel_rfl) (by kernel_rfl) rfl (by kernel_rfl) rfl rfl ?_
 refine wI ?_
 refine aa H λr1 q1 H=>zA (ca (hF:=(FB.h q1).frzs (by repeat (first|exact θ|refine⟨?_,?_⟩|exact lm _|rfl)))) ?_
 obtain⟨h,H⟩:=rq H
 refine zB eG (yL rfl (apT (enc:=aW) (ys:=a0.ax) (zs:=[r1]) h)) eG ?_
 refine wA (spx 100168) ?_
 cases H
 exact qT⟩
def lQ(a1:Int)(a2:aK):(Int×ae)->Option (bN (Int×ae) (ae))
 |(v2,v13)=>cond (ltB v2 (a2.dQ.length:Int)) (abX (ix a2.dQ v2) λx27=>abX (yy v13 (⟨a1,ζ,η,x27.bJ,x27,jH⟩:aH)) λr28=>ς (.next (WR (v2+1),r28))) (ς (.done v13))
def gE(a0:ae)(a1:Int)(a2:aK):Option ae:=
 abX (ix a0.aO a1) λx1=>abX (iter (lQ a1 a2) FU (0,{a0 with aO:=(a0.aO.set (a1).toNat a2.bC)})) λ(v26:ae)=>ς v26
instance Ua{a0:ae}{a1:Int}{a2:aK}{r:ae}:FCV prog (gE a0 a1 a2=ς r) 108 (nI a0) [tP 200,tI a1,.v (.agg (kM [.t,.t,.t] (cd a2)))] (nI r) (.tup []) []:=gV func108 ntmps108 (hL 0 (λ(v:Int×ae) sl ob nx=>⟨(19,tI v.1)::xS [193,192,191,190] sl,nI v.2++ob,nx⟩)) (hB 0 (λ(v:ae) sl ob nx=>⟨(19,.any)::xS [193,192,191,190] sl,nI v++ob,nx⟩)) (hz 1)
def iz(a1:Int)(a2:List ar):(Int×ae)->Option (bN (Int×ae) (ae))
 |(v1,v12)=>cond (ltB v1 (a2.length:Int)) (abX (ix a2 v1) λx26=>abX (yy v12 {iF with bC:=a1,bJ:=x26.bJ,bS:=x26}) λr27=>ς (.next (WR (v1+1),r27))) (ς (.done v12))
def jE(a0:ae)(a1:Int)(a2:List ar):Option ae:=
 abX (iter (iz a1 a2) FU (0,a0)) λ(v25:ae)=>ς v25
instance R5{a0:ae}{a1:Int}{a2:List ar}{r:ae}:FCV prog (jE a0 a1 a2=ς r) 111 (nI a0) [tP 200,tI a1,.v (.c (.d ζ (.l (a2.map cb))))] (nI r) (.tup []) []:=gV func111 ntmps111 (hL 0 (λ(v:Int×ae) sl ob nx=>⟨(10,tI v.1)::xS [193,192,191,190] sl,nI v.2++ob,nx⟩)) (hB 0 (λ(v:ae) sl ob nx=>⟨(10,.any)::xS [193,192,191,190] sl,nI v++ob,nx⟩))
def eX(a0:aF)(a1:Int):(Int×List ab)->Option (bN (Int×List ab) (List ab))
 |(v2,v3)=>cond (ltB v2 (a0.aJ.length:Int)) (abX (ix a0.aJ v2) λx7=>abX (cond (leB a1 x7.cP) (cond (dH 32 (v3++[x7]).length) (ς (v3++[x7])) ξ) (ς v3)) λ(v8:List ab)=>ς (.next (WR (v2+1),v8))) (ς (.done v3))
def jL(a0:aF)(a1:Int):Option aF:=
 cond (ltB a0.bK a1) (abX (mB a0) λr1=>ς r1) (abX (iter (eX a0 a1) FU (0,([]:List ab))) λ(v6:List ab)=>abX (gR v6) λr9=>ς (⟨a0.bK,r9⟩:aF))
instance xX{a0:aF}{a1:Int}{r:aF}:FC prog (jL a0 a1=ς r) 313 [.agg (eA a0),aI a1] [.agg (qM [.o] (dW r))]:=gG func313 ntmps313 (hL 0 (λ(v:Int×List ab) sl ob nx=>⟨(5,.v (.c (.w 2 v.2.length)))::(18,tI v.1)::xS [2] sl,[(2,Jd v.2 η ζ)]++ob,nx⟩)) (hB 0 (λ(v:List ab) sl ob nx=>⟨(5,.v (.c (.w 2 v.length)))::(18,.any)::xS [2] sl,[(2,Jd v η ζ)]++ob,nx⟩)) (hC 25 (λ(v:List ab) sl ob nx=>⟨(5,.v (.c (.w 2 v.length)))::xS [2] sl,[(2,Jd v η ζ)]++ob,nx⟩)) (hz 10)
end Go.AM
