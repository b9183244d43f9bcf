/- A part. -/
import Derived.Test.YtcnfbcpgepbnkaaGreatI2
import Derived.Test.YtcnfbcpgepbnkaaGreatI3
set_option linter.unusedVariables false
open Option renaming some->ς,none->ξ
open Bool renaming true->ζ,false->η
open True renaming intro->θ
open Option renaming bind->aeP
namespace Go.AM
open Go.Proofs
open Tryz
attribute [local irreducible] AWN NS AWO AWR AWC DR DZ cO eB iter
set_option maxRecDepth 100000
set_option maxHeartbeats 40000000
def zk(r4:bL×List Int):(Int×List aD)->Option (bJ (Int×List aD) (List aD))
 |(v5,v6)=>cond (ltB v5 (r4.2.length:Int)) (aeP (ix r4.2 v5) λx9=>cond (c8 88 (v6++[{gq with eb:=7,bC:=x9}]).length) (ς (.next (WR (v5+1),(v6++[{gq with eb:=7,bC:=x9}])))) ξ) (ς (.done v6))
def uW(a0:ag)(a1:aj)(a2:aU):Option bk:=
 aeP (oU a2 a0.bC) λr1=>aeP (cond r1 (aeP (Gp a2 a0.bC) λr3=>ς r3) (ς 0)) λ(v2:Int)=>aeP (uT {a0.fJ with eO:=v2} a2) λr4=>aeP (iter (zk r4) FU (0,([]:List aD))) λ(v8:List aD)=>ς (⟨{a0 with fJ:=r4.1},a1,v8,[]⟩:bk)
def yX(a0:Int)(r1:List Int):(Int×List Int)->Option (bJ (Int×List Int) (List Int))
 |(v2,v3)=>cond (ltB v2 (r1.length:Int)) (aeP (ix v3 v2) λx8=>aeP (eH a0 [v2]) λr9=>aeP (ix v3 v2) λx10=>ς (.next (WR (v2+1),(v3.set (v2).toNat (IntKind.u8.wrap (x8+(IntKind.u8.wrap (Int.tmod r9 256)))))))) (ς (.done v3))
def CR(a0:Int)(a1:List Int):Option (List Int):=
 aeP (ev a1) λr1=>aeP (iter (yX a0 r1) FU (0,r1)) λ(v7:List Int)=>ς v7
instance iEncrypt_c{a0:Int}{a1:List Int}{r:List Int}:FC prog (CR a0 a1=ς r) 364 [aI a0,aL (a1.map eU8)] [.c (.own 5 1 (r.map eU8) r.length)]:=gG func364 ntmps364 (hL 0 (λ(v:Int×List Int) sl ob nx=>⟨(5,.v (.c (.w 0 v.2.length)))::(11,tI v.1)::xS [0] sl,[(0,w5 v.2)]++ob,nx⟩)) (hB 0 (λ(v:List Int) sl ob nx=>⟨(5,.v (.c (.w 0 v.length)))::(11,.any)::xS [0] sl,[(0,w5 v)]++ob,nx⟩)) (hz 5)
def Hx(a0:Int)(a1:Int)(a2:Int)(a3:List Int):Option aV:=
 aeP (pM a0 (WR ((WR (2*a2))+a1))) λr1=>aeP (CR r1 a3) λr2=>aeP (nV a0 a1 a2 r2) λr3=>ς (⟨a1,a2,r2,r3⟩:aV)
instance iProtect_c{a0:Int}{a1:Int}{a2:Int}{a3:List Int}{r:aV}:FC prog (Hx a0 a1 a2 a3=ς r) 330 [aI a0,aI a1,aI a2,aL (a3.map eU8)] [.agg (qM [.o] (lX r))]:=gG func330 ntmps330
def tA(a0:Int)(a1:Int)(a2:Int)(a3:ab):Option am:=
 aeP (sY a0 a2) λr1=>aeP (Hx r1 1 a3.df a3.be) λr2=>ς (⟨a1,a2,r2⟩:am)
instance LV{a0:Int}{a1:Int}{a2:Int}{a3:ab}{r:am}:FC prog (tA a0 a1 a2 a3=ς r) 276 [aI a0,aI a1,aI a2,.agg (an a3)] [.agg (qM [.o] (gX r))]:=gG func276 ntmps276 (hz 1)
end Go.AM
