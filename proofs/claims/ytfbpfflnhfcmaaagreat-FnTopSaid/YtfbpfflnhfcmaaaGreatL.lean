/- A part. -/
import Derived.Test.YtfbpfflnhfcmaaaGreatI9
import Derived.Test.YtfbpfflnhfcmaaaGreatM0
import Derived.Test.YtfbpfflnhfcmaaaGreatS12
set_option linter.unusedVariables false
set_option linter.unusedSimpArgs false
open Option renaming some->ς,none->ξ
open Bool renaming true->ζ,false->η
open True renaming intro->θ
open Option renaming bind->afW
namespace Go.AM
open Go.Proofs
open Tryz
attribute [local irreducible] AWN NS AWO AWR AWC DR DZ dm gK iter
set_option maxRecDepth 100000
set_option maxHeartbeats 40000000
def Bn(r2:ab×List cU):(Int×ab)->Option (cj (Int×ab) (ab))
 |(v3,v14)=>cond (ltB v3 (r2.2.length:Int)) (afW (ix r2.2 v3) λx52=>afW (sX v14 x52) λr53=>afW (cond r53 (afW (afW (ix r2.2 v3) λx76=>afW (Fg v14 x76) λr77=>ς r77.1) λ(v75:ab)=>ς v75) (ς v14)) λ(v64:ab)=>ς (.next (WR (v3+1),v64))) (ς (.done v14))
def Bo(v51:ab):(Int×ab)->Option (cj (Int×ab) (ab))
 |(v81,v92)=>cond (ltB v81 (v51.cp.bp.length:Int)) (afW (nm v92 {fk with bb:=10,cq:=v81}) λr105=>ς (.next (WR (v81+1),r105.1))) (ς (.done v92))
def EC(v51:ab)(r106:ab):Int->Option (cj (Int) (Bool))
 |v109=>cond (ltB v109 (v51.aj.length:Int)) (afW (ix v51.aj v109) λx110=>afW (cond (!eqB x110.aX 0) (afW (rK v51 v109) λr112=>cond r112 (afW (ro r106 v109) λr113=>ς (!r113)) (ς η)) (ς η)) λ(v111:Bool)=>cond v111 (dn (ς η)) (ς (.next (WR (v109+1))))) (dn (ς ζ))
def EB(v51:ab):Int->Option (cj (Int) (Bool))
 |v79=>cond (ltB v79 (v51.aH.length:Int)) (afW (yA v51 ([]:List kc) v79) λr80=>cond r80.2 (dn (ς η)) (ς (.next (WR (v79+1))))) (dn (afW (iter (Bo v51) FU (0,v51)) λ(v104:ab)=>afW (Dm v104) λr106=>afW (cond (!eqB (r106.aj.length:Int) (v51.aj.length:Int)) (ς ζ) (afW (Cr r106) λr108=>ς (!r108))) λ(v107:Bool)=>cond v107 (ς η) (iter (EC v51 r106) FU 0)))
def QD(a0:List Int):Option Bool:=
 afW (Y8 a0) λr1=>cond r1 (ς ζ) (afW (wm a0) λr2=>afW (iter (Bn r2) FU (0,r2.1)) λ(v51:ab)=>afW (Cr v51) λr78=>cond (!r78) (ς η) (iter (EB v51) FU 0))
instance Y7{a0:List Int}{r:Bool}:FC prog (QD a0=ς r) 3 [aL (a0.map eU8)] [.c (.d (.b r))]:=gG func3 ntmps3 (hL 0 (λ(v:Int×ab) sl ob nx=>⟨(5,tI v.1)::sl,[(1,.var 34 (kM [.t,.t,.t,.t,.t] (b9 v.2)))]++ob,nx⟩)) (hB 0 (λ(v:ab) sl ob nx=>⟨(5,.any)::sl,[(1,.var 34 (kM [.t,.t,.t,.t,.t] (b9 v)))]++ob,nx⟩)) (hC 35 (λ(v:ab) sl ob nx=>⟨sl,[(1,.var 34 (kM [.t,.t,.t,.t,.t] (b9 v)))]++ob,nx⟩)) (hA 8 5 9 [0,1,2,3,4,9,5,6,7,8,10,11] [0,1,2,3,4,5,6,7,8,9,10,11] (λ(v:ab) sl ob nx=>⟨(6,tP 2)::xS [6,5,4,3] sl,oM [.t,.w 3,.w 4,.w 5,.w 6] 2 34 (b9 v)++ob,7⟩)) (hl 2 8) (hL 4 (λ(v:Int×ab) sl ob nx=>⟨(12,tI v.1)::sl,[(2,.var 34 (kM [.t,.t,.t,.t,.t] (b9 v.2)))]++ob,nx⟩)) (hB 4 (λ(v:ab) sl ob nx=>⟨(12,.any)::sl,[(2,.var 34 (kM [.t,.t,.t,.t,.t] (b9 v)))]++ob,nx⟩)) (hb 90 94) (hl 6 16) (hb 109 119)
def xf(r2:ab)(r3:ab):Int->Option (cj (Int) (Bool))
 |v7=>cond (ltB v7 (r2.aj.length:Int)) (afW (tJ r2 v7) λr8=>afW (qp r2 v7) λr9=>afW (cond (!(booB r8 r9)) (ς ζ) (afW (yy r2 v7) λr11=>afW (rK r2 v7) λr12=>cond (!(booB r11 r12)) (ς ζ) (afW (qp r2 v7) λr13=>cond r13 (afW (rK r2 v7) λr14=>cond r14 (afW (ro r3 v7) λr15=>ς (!r15)) (ς η)) (ς η)))) λ(v10:Bool)=>cond v10 (dn (ς η)) (ς (.next (WR (v7+1))))) (dn (ς ζ))
def Cw(a0:List Int):Option Bool:=
 afW (Y8 a0) λr1=>cond r1 (ς ζ) (afW (tZ a0) λr2=>afW (Dm r2) λr3=>afW (cond (!eqB (r3.aj.length:Int) (r2.aj.length:Int)) (ς ζ) (afW (Cr r3) λr5=>cond (!r5) (ς ζ) (afW (yC r3) λr6=>ς (!r6)))) λ(v4:Bool)=>cond v4 (ς η) (iter (xf r2 r3) FU 0))
instance LO{a0:List Int}{r:Bool}:FC prog (Cw a0=ς r) 4 [aL (a0.map eU8)] [.c (.d (.b r))]:=gG func4 ntmps4 (hb 19 28) (hl 0 5) (hb 43 67)
end Go.AM
