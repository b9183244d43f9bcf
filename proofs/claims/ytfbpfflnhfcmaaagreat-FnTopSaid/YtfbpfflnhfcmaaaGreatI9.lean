/- A part. -/
import Derived.Test.YtfbpfflnhfcmaaaGreatI8
set_option linter.unusedVariables false
open Option renaming some->ς,none->ξ
open Bool renaming true->ζ,false->η
open True renaming intro->θ
open Option renaming bind->afW
namespace Go.AM
open Go.Proofs
open Tryz
attribute [local irreducible] AWN NS AWO AWR AWC DR DZ dm gK iter
set_option maxRecDepth 100000
set_option maxHeartbeats 40000000
variable{a0 r:Go.AM.ab}
def Al(a0:ab)(a1:Int):Option ab:=
 afW (sS a0 a1) λr1=>afW (uj r1.2 r1.1.aS) λr2=>afW (cond (!r2) (ς {r1.2 with Lost:=WR (r1.2.Lost+1)}) (afW (cond r1.1.dF (cond r1.1.cg (ς ζ) (ς (!eqB r1.1.aP.aS r1.1.aS))) (ς η)) λ(v14:Bool)=>afW (cond v14 (ς r1.2) (afW (cond r1.1.dF (afW (ix r1.2.an r1.1.aY) λx37=>afW (pR x37 r1.1.aP) λr38=>afW (ix r1.2.an r1.1.aY) λx39=>afW (lS {r1.2 with an:=(r1.2.an.set (r1.1.aY).toNat r38.aM)} r1.1.aY r38.bY) λr40=>ς r40) (afW (ix r1.2.aj r1.1.aY) λx41=>afW (cond (!eqB x41.aS r1.1.aS) (ς {r1.2 with Lost:=WR (r1.2.Lost+1)}) (afW (cond r1.1.cg (afW (ix r1.2.aj r1.1.aY) λx64=>afW (rY x64 r1.1.bV) λr65=>afW (ic r1.2 r1.1.aY r65) λr66=>ς r66) (afW (ix r1.2.aj r1.1.aY) λx67=>afW (pQ x67 r1.1.aP) λr68=>afW (ic r1.2 r1.1.aY r68) λr69=>ς r69)) λ(v63:ab)=>ς v63)) λ(v52:ab)=>ς v52)) λ(v36:ab)=>ς v36)) λ(v25:ab)=>ς v25)) λ(v13:ab)=>ς v13
instance ideliver_c{a1:Int} :FCV prog (Al a0 a1=ς r) 124 (nI a0) [tP 200,tI a1] (nI r) (.tup []) []:=gV func124 ntmps124 (hC 25 (λ(v:ab) sl ob nx=>⟨xS [193,192,191,190] sl,nI v++fO [210] ob,nx⟩)) (hb 43 40) (hC 40 (λ(v:ab) sl ob nx=>⟨xS [193,192,191,190] sl,nI v++fO [210] ob,nx⟩)) (hC 55 (λ(v:ab) sl ob nx=>⟨xS [193,192,191,190] sl,nI v++fO [210] ob,nx⟩)) (hz 8) (hz 7) (hC 81 (λ(v:ab) sl ob nx=>⟨xS [193,192,191,190] sl,nI v++fO [210] ob,nx⟩)) (hC 100 (λ(v:ab) sl ob nx=>⟨xS [193,192,191,190] sl,nI v++ob,nx⟩)) (hz 13) (hz 2)
def qa(a0:ab)(a1:cU):Option (Bool×ab):=
 afW (bW a1.cq 0 (WR ((a0.aH.length:Int)-1))) λr1=>cond (!r1) (ς (η,a0)) (cond (eqB a1.bb 2) (afW (Al a0 a1.cq) λr2=>ς (ζ,r2)) (cond (eqB a1.bb 3) (afW (sS a0 a1.cq) λr3=>ς (ζ,{r3.2 with Lost:=WR (r3.2.Lost+1)})) (cond (eqB a1.bb 4) (cond (leB 200 (a0.aH.length:Int)) (ς (η,a0)) (afW (ix a0.aH a1.cq) λx4=>afW (we a0 x4) λr5=>ς (ζ,r5))) (ς (ζ,a0)))))
instance U5{a1:cU}{r:Bool×ab}:FCV prog (qa a0 a1=ς r) 92 (nI a0) [tP 200,.v (.agg (kM [.t,.t] (nj a1)))] (nI r.2) (.v (.c (.d η (.b r.1)))) []:=gV func92 ntmps92 (hz 12)
def vW(a0:aA)(a1:Int):Option bi:=
 afW (cond (eqB a1 a0.aS) (ς ζ) (afW (bW a1 0 5) λr2=>ς (!r2))) λ(v1:Bool)=>cond v1 (afW (cV a0 []) λr3=>ς r3) (afW (cond (!eqB a0.aX 2) (ς ζ) (ς (leB 999999 a0.aK))) λ(v4:Bool)=>cond v4 (afW (cV {a0 with aS:=a1} []) λr5=>ς r5) (afW (jf {a0 with aS:=a1,aK:=WR (a0.aK+1)}) λr6=>ς r6))
instance aby{a0:aA}{a1:Int}{r:bi}:FC prog (vW a0 a1=ς r) 169 [.agg (dR a0),aI a1] [.agg (qM [.o,.o,.o] (dr r))]:=gG func169 ntmps169 (hb 9 13) (hb 21 25)
def lc(a0:ab)(a1:cU):Option (Bool×ab):=
 afW (bW a1.cq 0 (WR ((a0.aj.length:Int)-1))) λr1=>cond (!r1) (ς (η,a0)) (cond (eqB a1.bb 5) (afW (ix a0.aj a1.cq) λx2=>cond (!eqB x2.aX 0) (ς (η,a0)) (afW (ix a0.aj a1.cq) λx3=>afW (Dj x3) λr4=>afW (ic a0 a1.cq r4) λr5=>ς (ζ,r5))) (cond (eqB a1.bb 6) (afW (mh a0.cp a1.aS) λr6=>afW (cond (!r6) (ς ζ) (afW (ix a0.aj a1.cq) λx8=>ς (eqB a1.aS x8.aS))) λ(v7:Bool)=>cond v7 (ς (η,a0)) (afW (ix a0.aj a1.cq) λx9=>afW (vW x9 a1.aS) λr10=>afW (ic a0 a1.cq r10) λr11=>ς (ζ,r11))) (cond (eqB a1.bb 7) (afW (ix a0.aj a1.cq) λx12=>cond (!eqB x12.aX 2) (ς (η,a0)) (afW (ix a0.aj a1.cq) λx13=>afW (yB x13) λr14=>afW (ix a0.aj a1.cq) λx15=>ς (ζ,{a0 with aj:=(a0.aj.set (a1.cq).toNat r14)}))) (cond (eqB a1.bb 8) (afW (ix a0.an a1.cq) λx16=>afW (sa x16 a1.bh) λr17=>cond (!r17.2) (ς (η,a0)) (afW (ix a0.an a1.cq) λx18=>ς (ζ,{a0 with an:=(a0.an.set (a1.cq).toNat r17.1)}))) (ς (ζ,a0))))))
instance NM{a1:cU}{r:Bool×ab}:FCV prog (lc a0 a1=ς r) 93 (nI a0) [tP 200,.v (.agg (kM [.t,.t] (nj a1)))] (nI r.2) (.v (.c (.d η (.b r.1)))) []:=gV func93 ntmps93 (hb 53 65) (hz 12) (hz 16) (hz 21) (hz 18)
def wb(a0:ab)(a1:cU):Option (Bool×ab):=
 cond (eqB a1.bb 1) (afW (NW a0) λr1=>ς (r1.1,r1.2)) (afW (cond (eqB a1.bb 2) (ς (eqB a1.bb 2)) (afW (cond (eqB a1.bb 3) (ς (eqB a1.bb 3)) (ς (eqB a1.bb 4))) λ(v3:Bool)=>ς v3)) λ(v2:Bool)=>cond v2 (afW (qa a0 a1) λr4=>ς (r4.1,r4.2)) (afW (cond (eqB a1.bb 5) (ς (eqB a1.bb 5)) (afW (cond (eqB a1.bb 6) (ς (eqB a1.bb 6)) (afW (cond (eqB a1.bb 7) (ς (eqB a1.bb 7)) (ς (eqB a1.bb 8))) λ(v7:Bool)=>ς v7)) λ(v6:Bool)=>ς v6)) λ(v5:Bool)=>cond v5 (afW (lc a0 a1) λr8=>ς (r8.1,r8.2)) (afW (cond (eqB a1.bb 9) (ς (eqB a1.bb 9)) (ς (eqB a1.bb 10))) λ(v9:Bool)=>cond v9 (afW (pZ a0 a1) λr10=>ς (r10.1,r10.2)) (afW (cond (eqB a1.bb 11) (ς (eqB a1.bb 11)) (ς (eqB a1.bb 12))) λ(v11:Bool)=>cond v11 (afW (qc a0 a1) λr12=>ς (r12.1,r12.2)) (cond (eqB a1.bb 13) (afW (LJ a0 a1.b8) λr13=>ς (r13.1,r13.2)) (ς (η,a0)))))))
instance abB{a1:cU}{r:Bool×ab}:FCV prog (wb a0 a1=ς r) 36 (nI a0) [tP 200,.v (.agg (kM [.t,.t] (nj a1)))] (nI r.2) (.v (.c (.d η (.b r.1)))) []:=gV func36 ntmps36 (hc 11 11) (hc 11 11) (hc 18 18) (hc 18 18) (hc 18 18) (hc 26 26) (hc 32 32)
def Fg(a0:ab)(a1:cU):Option (ab×Bool):=
 afW (jP a0) λr1=>afW (iL a0) λr2=>afW (cond (!r2) (ς (ζ,r1)) (afW (wb r1 a1) λr15=>ς (!r15.1,r15.2))) λ((v3,v14):Bool×ab)=>cond v3 (afW (jP a0) λr16=>ς (r16,η)) (ς (v14,ζ))
instance abq{a1:cU}{r:ab×Bool}:FCV prog (Fg a0 a1=ς r) 9 [] [.v (.agg (kM [.t,.t,.t,.t,.t] (b9 a0))),.v (.agg (kM [.t,.t] (nj a1)))] [] (.tup [.agg (kM [.t,.w 210,.w 211,.w 212,.w 213] (b9 r.1)),.c (.d η (.b r.2))]) [(210,w67 r.1.aj),(211,w93 r.1.an),(212,w107 r.1.aT),(213,w48 r.1.aH)]:=gV func9 ntmps9 (hJ 12 (λ(v:Bool×ab) sl ob nx=>⟨(12,.any)::(16,tB v.1)::xS [217,216,215,214,213] sl,oM [.t,.w 214,.w 215,.w 216,.w 217] 218 34 (b9 v.2)++fO [213] ob,nx⟩))
def kD(a1:Int):(Int×ab)->Option (cj (Int×ab) (ab))
 |(v1,v12)=>afW (cond (ltB v1 a1) (ς (ltB 0 (v12.aH.length:Int))) (ς η)) λ(v26:Bool)=>cond v26 (afW (Al v12 0) λr27=>ς (.next (WR (v1+1),r27))) (ς (.done v12))
def sj(a0:ab)(a1:Int):Option ab:=
 afW (iter (kD a1) FU (0,a0)) λ(v25:ab)=>ς v25
instance WO{a1:Int} :FCV prog (sj a0 a1=ς r) 67 (nI a0) [tP 200,tI a1] (nI r) (.tup []) []:=gV func67 ntmps67 (hL 0 (λ(v:Int×ab) sl ob nx=>⟨(4,tI v.1)::xS [193,192,191,190] sl,nI v.2++ob,nx⟩)) (hB 0 (λ(v:ab) sl ob nx=>⟨(4,.any)::xS [193,192,191,190] sl,nI v++ob,nx⟩)) (hb 8 15)
def yE(a1:Int):(Int×ab)->Option (cj (Int×ab) (ab))
 |(v5,v16)=>cond (ltB v5 a1) (afW (NW v16) λr30=>afW (sj r30.2 4000) λr31=>ς (.next (WR (v5+1),r31))) (ς (.done v16))
def Bk(a0:ab)(a1:Int):Option ab:=
 afW (jP a0) λr1=>afW (iL a0) λr2=>afW (cond (!r2) (ς ζ) (afW (bW a1 0 200) λr4=>ς (!r4))) λ(v3:Bool)=>cond v3 (ς r1) (afW (iter (yE a1) FU (0,r1)) λ(v29:ab)=>ς v29)
instance iRounds_c{a1:Int} :FC prog (Bk a0 a1=ς r) 24 [.agg (eb a0),aI a1] [.agg (qM [.d,.o,.o,.o,.o] (b9 r))]:=gG func24 ntmps24 (hb 12 16) (hL 0 (λ(v:Int×ab) sl ob nx=>⟨(6,tI v.1)::xS [6,5,4,3,2] sl,oM [.t,.w 3,.w 4,.w 5,.w 6] 7 34 (b9 v.2)++fO [2] ob,nx⟩)) (hB 0 (λ(v:ab) sl ob nx=>⟨(6,.any)::xS [6,5,4,3,2] sl,oM [.t,.w 3,.w 4,.w 5,.w 6] 7 34 (b9 v)++fO [2] ob,nx⟩))
def Dm(a0:ab):Option ab:=
 afW (Bk a0 80) λr1=>ς r1
instance iSettle_c:FC prog (Dm a0=ς r) 12 [.agg (eb a0)] [.agg (qM [.d,.o,.o,.o,.o] (b9 r))]:=gG func12 ntmps12
end Go.AM
