/- A part. -/
import Derived.Test.YtcfhabdgiieejaaGreatS0
set_option linter.unusedVariables false
open Option renaming bind->abJ
namespace Go.AM
open Go.Proofs
open Tryz
attribute [local irreducible] AWN NS AWO AWR AWC DR DZ dQ f9 iter
set_option maxRecDepth 100000
set_option maxHeartbeats 40000000
variable {r:Bool} {a1:Int}
def ik (a0:cP):Option Bool:=
 abJ (bif leB 0 a0.aJ then(abJ (du a0.cV 0 100000) λr2=>bif r2 then(abJ (du a0.em 0 a0.cV) λr3=>some r3) else(some false)) else(some false)) λ(v1:Bool)=>some v1
instance Sy {a0:cP} :FC prog (ik a0=some r) 111 [.agg (mV a0)] [.c (.d (.b r))]:=gF func111 ntmps111 (hb 6 2)
def cH (a0:bk) (a1:Int):Option (Int×bk):=
 bif leB a1 0 then(some (0,a0)) else(bif leB a1 256 then(abJ (uq a0) λr1=>bif !eqB a1 0 then(some (Int.tmod r1.1 a1,r1.2)) else none) else(abJ (uq a0) λr2=>abJ (uq r2.2) λr3=>abJ (uq r3.2) λr4=>bif !eqB a1 0 then(some (Int.tmod (WR ((WR ((WR (r2.1*65536))+(WR (r3.1*256))))+r4.1)) a1,r4.2)) else none))
theorem cm {a0:bk} {r:Int×bk} (H:cH a0 a1=some r):FnW prog 80 (.var 125 (kM [.f] (cj a0))) [tP 200,tI a1] (.var 125 (kM [.f] (cj r.2))) [.c (.d (.i .i64 r.1))]:=by
 refine fW func80 ntmps80 ?_
 refine cC H ?_ ?_<;>intro H
 .cases H
  exact f8
 refine cC H ?_ ?_<;>intro H
 .refine aa H λr1 q1 H=>sA (cw (o:=200) (vF q1)) ?_
  obtain⟨h,H⟩:=rq H
  refine nA (ir rfl rfl rfl (ne0 h)) ?_
  cases H
  exact f8
 refine aa H λr2 q2 H=>sA (cw (o:=200) (vF q2)) ?_
 refine aa H λr3 q3 H=>sA (cw (o:=200) (vF q3)) ?_
 refine aa H λr4 q4 H=>sA (cw (o:=200) (vF q4)) ?_
 obtain⟨h,H⟩:=rq H
 refine nA (ir rfl rfl rfl (ne0 h)) ?_
 cases H
 exact f8
def oN (a0:aS) (v1:Int) (x2:fc):Int->Option (cr (Int) (cr (Int) (Bool)))
 |v4=>bif ltB v4 (x2.cQ.length:Int) then(abJ (ix x2.cQ v4) λx5=>abJ (du x5 0 (WR ((a0.bb.length:Int)-1))) λr6=>abJ (bif !r6 then(some true) else(bif eqB x5 v1 then(some true) else(bif ltB 0 v4 then(abJ (ix x2.cQ (WR (v4-1))) λx8=>bif leB x5 x8 then(some true) else(abJ (ix a0.bb x5) λx9=>abJ (BE x9.cQ v1) λr10=>some (!r10))) else(abJ (ix a0.bb x5) λx11=>abJ (BE x11.cQ v1) λr12=>some (!r12))))) λ(v7:Bool)=>bif v7 then(dn (dn (some false))) else(some (.next (WR (v4+1))))) else(dn (some (.next (WR (v1+1)))))
def oL (a0:aS):Int->Option (cr (Int) (Bool))
 |v1=>bif ltB v1 (a0.bb.length:Int) then(abJ (ix a0.bb v1) λx2=>abJ (du x2.fZ 0 2) λr3=>bif !r3 then(dn (some false)) else(iter (oN a0 v1 x2) FU 0)) else(dn (abJ (du (a0.bb.length:Int) 1 6) λr13=>some r13))
def qE (a0:aS):Option Bool:=
 iter (oL a0) FU 0
instance G1 {a0:aS} :FC prog (qE a0=some r) 64 [.agg (ge a0)] [.c (.d (.b r))]:=gF func64 ntmps64 (hl 0 3) (hl 2 5) (hb 42 71)
def gY (a0:bR):Int->Option (cr (Int) (Bool))
 |v1=>bif ltB v1 (a0.bU.length:Int) then(abJ (ix a0.bU v1) λx2=>abJ (du x2 0 3) λr3=>abJ (bif !r3 then(some true) else(bif ltB 0 v1 then(abJ (ix a0.bU (WR (v1-1))) λx5=>abJ (ix a0.bU v1) λx6=>some (leB x6 x5)) else(some false))) λ(v4:Bool)=>bif v4 then(dn (some false)) else(some (.next (WR (v1+1))))) else(dn (abJ (du a0.lW 1 1000) λr7=>abJ (bif r7 then(abJ (du a0.lV 1 4) λr9=>bif r9 then(abJ (du a0.eD 1 100000) λr10=>some r10) else(some false)) else(some false)) λ(v8:Bool)=>some v8))
def gQ (a0:bR):Option Bool:=
 iter (gY a0) FU 0
instance wy {a0:bR} :FC prog (gQ a0=some r) 208 [.agg (lr a0)] [.c (.d (.b r))]:=gF func208 ntmps208 (hl 0 3) (hb 18 35) (hb 39 2)
def ij (a0:Int):Option Bool:=
 abJ (du a0 1 2147483646) λr1=>some r1
instance WK {a0:Int} :FC prog (ij a0=some r) 204 [aI a0] [.c (.d (.b r))]:=gF func204 ntmps204
def gP (a0:dv):Option Bool:=
 abJ (du a0.eb 0 3) λr1=>abJ (bif r1 then(abJ (du a0.bV 0 99) λr3=>some r3) else(some false)) λ(v2:Bool)=>some v2
instance JN {a0:dv} :FC prog (gP a0=some r) 294 [.agg (nR a0)] [.c (.d (.b r))]:=gF func294 ntmps294 (hb 6 2)
def uh (a0:aO) (a1:bR) (a2:Int):Option ah:=
 abJ (vK a1) λr1=>some {pP with bF:=a0,gT:=r1,ax:=(⟨1,[]⟩:aY),b9:={Qo with aJ:=a2}}
instance G6 {a0:aO} {a1:bR} {a2:Int} {r:ah}:FC prog (uh a0 a1 a2=some r) 240 [.agg (dO a0),.agg (lr a1),aI a2] [.agg (qM [.o,.z,.z] (c7 r))]:=gF func240 ntmps240 (hz 1)
def uf (a0:Int):Option aj:=
 abJ (du a0 0 100000) λr1=>abJ (bif !r1 then(some 0) else(some a0)) λ(v2:Int)=>some {it with gU:=v2,bY:=v2}
instance G5 {a0:Int} {r:aj}:FC prog (uf a0=some r) 241 [aI a0] [.agg (qM [.z] (ct r))]:=gF func241 ntmps241 (hi 5 0)
def ny (a0:aY):Option aY:=
 abJ (vH a0.aC) λr1=>some (⟨a0.bE,r1⟩:aY)
instance o5 {a0:aY} {r:aY}:FC prog (ny a0=some r) 251 [.agg (gq a0)] [.agg (qM [.o] (dH r))]:=gF func251 ntmps251 (hz 1)
def C8 (a1:Int):(Int×List Int×bk)->Option (cr (Int×List Int×bk) (List Int×bk))
 |(v1,v5,v6)=>bif ltB v1 a1 then(abJ (uq v6) λr13=>bif da 1 (v5++[IntKind.u8.wrap (r13.1)]).length then(some (.next (WR (v1+1),(v5++[IntKind.u8.wrap (r13.1)]),r13.2))) else none) else(some (.done (v5,v6)))
def yz (a0:bk) (a1:Int):Option (List Int×bk):=
 abJ (iter (C8 a1) FU (0,([]:List Int),a0)) λ((v11,v12):List Int×bk)=>some (v11,v12)
theorem F2 {a0:bk} {r:List Int×bk} (H:yz a0 a1=some r):FnW prog 145 (.var 125 (kM [.f] (cj a0))) [tP 200,tI a1] (.var 125 (kM [.f] (cj r.2))) [.c (.own 5 1 (r.1.map eU8) r.1.length)]:=by
 refine fW func145 ntmps145 ?_
 obtain⟨⟨v11,v12⟩,Hj,H⟩:=ob H
 refine jB ⟨[(5,.v (.c (.w 210 v11.length)))],[(200,.var 125 (kM [.f] (cj v12))),(210,w5 v11)],211⟩ ?_ ?_
 .refine iT Hj (λq=>⟨[(0,tP 200),(1,tI a1),(5,.v (.c (.w 210 q.2.1.length))),(6,tI q.1)],[(200,.var 125 (kM [.f] (cj q.2.2))),(210,w5 q.2.1)],211⟩) ?_
  rintro⟨v1,v5,v6⟩ o H
  refine ad ?_
  refine cC H ?_ ?_<;>intro H
  .refine aa H λr13 q13 H=>sA (cw (o:=200) (vF q13)) ?_
   obtain⟨h,H⟩:=rq H
   refine sA (apT (enc:=eU8) (ys:=v5) (zs:=[IntKind.u8.wrap (r13.1)]) h) ?_
   exact aN H
  exact aE H
 cases H
 exact f8
def yA (a0:aP):Option aP:=
 abJ (vH a0.aK) λr1=>abJ (th a0.be) λr2=>some (⟨a0.bE,r1,r2⟩:aP)
instance N3 {a0:aP} {r:aP}:FC prog (yA a0=some r) 248 [.agg (g8 a0)] [.agg (qM [.o,.o] (b8 r))]:=gF func248 ntmps248 (hz 1)
def tm (a0:bM):Option bM:=
 abJ (BI a0.co) λr1=>some {a0 with co:=r1}
instance BJ {a0:bM} {r:bM}:FC prog (tm a0=some r) 153 [.agg (dB a0)] [.agg (qM [.o] (jE r))]:=gF func153 ntmps153
def me (a0:bK):Option Bool:=
 abJ (du a0.fC 1 6) λr1=>abJ (bif r1 then(bif leB 0 a0.fC then(abJ (du a0.fP 0 (WR ((lX .i64 1 a0.fC)-1))) λr3=>some r3) else none) else(some false)) λ(v2:Bool)=>some v2
instance VC {a0:bK} :FC prog (me a0=some r) 65 [.agg (iO a0)] [.c (.d (.b r))]:=gF func65 ntmps65 (hb 6 2)
def ic (a0:aP):Int->Option (cr (Int) (Bool))
 |v9=>bif ltB v9 (a0.be.length:Int) then(abJ (ix a0.be v9) λx10=>bif ltB 60 (x10.a9.length:Int) then(dn (some false)) else(some (.next (WR (v9+1))))) else(dn (abJ (bif eqB a0.bE (WR ((a0.be.length:Int)+1)) then(bif leB (a0.be.length:Int) 24 then(some (leB (a0.aK.length:Int) 8)) else(some false)) else(some false)) λ(v11:Bool)=>some v11))
def jq (a0:aP):Int->Option (cr (Int) (Bool))
 |v1=>bif ltB v1 (a0.aK.length:Int) then(abJ (ix a0.aK v1) λx2=>abJ (du x2.cW (WR (a0.bE+1)) (WR ((WR (a0.bE+8))-1))) λr3=>abJ (bif !r3 then(some true) else(bif ltB 0 v1 then(abJ (ix a0.aK (WR (v1-1))) λx5=>abJ (ix a0.aK v1) λx6=>bif leB x6.cW x5.cW then(some true) else(abJ (ix a0.aK v1) λx7=>some (ltB 60 (x7.a9.length:Int)))) else(abJ (ix a0.aK v1) λx8=>some (ltB 60 (x8.a9.length:Int))))) λ(v4:Bool)=>bif v4 then(dn (some false)) else(some (.next (WR (v1+1))))) else(dn (iter (ic a0) FU 0))
def jK (a0:aP):Option Bool:=
 iter (jq a0) FU 0
instance At {a0:aP} :FC prog (jK a0=some r) 206 [.agg (g8 a0)] [.c (.d (.b r))]:=gF func206 ntmps206 (hl 0 3) (hb 27 56) (hl 2 4) (hb 79 2)
def oO (a0:cG):Option Bool:=
 abJ (du a0.fZ 0 2) λr1=>abJ (bif r1 then(abJ (du a0.fm 0 4) λr3=>bif r3 then(abJ (du a0.fo 0 3) λr4=>some r4) else(some false)) else(some false)) λ(v2:Bool)=>some v2
instance RA {a0:cG} :FC prog (oO a0=some r) 209 [.agg (pR a0)] [.c (.d (.b r))]:=gF func209 ntmps209 (hb 6 2)
def lg (a0:aY):Int->Option (cr (Int) (Bool))
 |v1=>bif ltB v1 (a0.aC.length:Int) then(abJ (ix a0.aC v1) λx2=>abJ (bif !eqB x2.cW (WR ((WR (a0.bE-(a0.aC.length:Int)))+v1)) then(some true) else(abJ (ix a0.aC v1) λx4=>some (ltB 60 (x4.a9.length:Int)))) λ(v3:Bool)=>bif v3 then(dn (some false)) else(some (.next (WR (v1+1))))) else(dn (abJ (du a0.bE 1 100000) λr5=>abJ (bif r5 then(bif leB (a0.aC.length:Int) 8 then(some (leB 1 (WR (a0.bE-(a0.aC.length:Int))))) else(some false)) else(some false)) λ(v6:Bool)=>some v6))
def lM (a0:aY):Option Bool:=
 iter (lg a0) FU 0
instance vz {a0:aY} :FC prog (lM a0=some r) 295 [.agg (gq a0)] [.c (.d (.b r))]:=gF func295 ntmps295 (hl 0 3) (hb 26 35) (hb 39 2)
def ke (a0:aj):Int->Option (cr (Int) (Bool))
 |v1=>bif ltB v1 (a0.an.length:Int) then(abJ (ix a0.an v1) λx2=>abJ (bif ltB x2.aJ 0 then(some true) else(abJ (ix a0.an v1) λx4=>abJ (du x4.dW 1 100000) λr5=>bif !r5 then(some true) else(bif ltB 0 v1 then(abJ (ix a0.an (WR (v1-1))) λx6=>abJ (ix a0.an v1) λx7=>some (leB x7.aJ x6.aJ)) else(some false)))) λ(v3:Bool)=>bif v3 then(dn (some false)) else(some (.next (WR (v1+1))))) else(dn (abJ (du a0.gU 0 100000) λr8=>abJ (bif r8 then(abJ (du a0.bY 0 a0.gU) λr10=>bif r10 then(abJ (du a0.ey 0 a0.gU) λr11=>bif r11 then(bif leB (a0.an.length:Int) 8 then(abJ (oZ a0) λr12=>some (eqB (WR ((WR (a0.bY+a0.ey))+r12)) a0.gU)) else(some false)) else(some false)) else(some false)) else(some false)) λ(v9:Bool)=>some v9))
def ia (a0:aj):Option Bool:=
 iter (ke a0) FU 0
instance By {a0:aj} :FC prog (ia a0=some r) 120 [.agg (cM a0)] [.c (.d (.b r))]:=gF func120 ntmps120 (hl 0 3) (hb 18 47) (hb 51 2)
def oX (a0:aj) (a1:Int):Option Int:=
 abJ (qI a0 a1) λr1=>bif ltB r1 0 then(some 0) else(abJ (ix a0.an r1) λx2=>some x2.dW)
instance FK {a0:aj} {r:Int}:FC prog (oX a0 a1=some r) 212 [.agg (cM a0),aI a1] [.c (.d (.i .i64 r))]:=gF func212 ntmps212
def kh (a0:ab) (a1:bM):Option Bool:=
 abJ (bif ltB (a0.aT.length:Int) 200 then(abJ (du a1.bm 0 (WR ((a0.aw.length:Int)-1))) λr2=>bif r2 then(abJ (du a1.bh 0 (WR ((a0.ev.bb.length:Int)-1))) λr3=>some r3) else(some false)) else(some false)) λ(v1:Bool)=>some v1
instance Gc {a0:ab} {a1:bM} :FC prog (kh a0 a1=some r) 32 [.agg (fG a0),.agg (dB a1)] [.c (.d (.b r))]:=gF func32 ntmps32 (hb 9 4)
def p7 (a0:bi) (a1:bi):Option Bool:=
 abJ (bif eqB a0.cZ a1.cZ then(bif eqB a0.fQ a1.fQ then(bif eqB a0.iK a1.iK then(abJ (qB a0.a9 a1.a9) λr2=>some r2) else(some false)) else(some false)) else(some false)) λ(v1:Bool)=>some v1
instance Sx {a0:bi} {a1:bi} :FC prog (p7 a0 a1=some r) 162 [.agg (ee a0),.agg (ee a1)] [.c (.d (.b r))]:=gF func162 ntmps162 (hb 10 4)
def kA (a0:bi):Option Bool:=
 abJ (du a0.cZ 0 1) λr1=>abJ (bif r1 then(abJ (du a0.fQ 1 100000) λr3=>bif r3 then(bif leB (a0.a9.length:Int) 60 then(abJ (du a0.iK 0 2147483646) λr4=>some r4) else(some false)) else(some false)) else(some false)) λ(v2:Bool)=>some v2
instance PU {a0:bi} :FC prog (kA a0=some r) 84 [.agg (ee a0)] [.c (.d (.b r))]:=gF func84 ntmps84 (hb 6 2)
def G3 (a0:Int) (a1:Int):Option Int:=
 abJ (du a1 1 1000000000000) λr1=>bif !r1 then(some 0) else(bif !eqB a1 0 then(bif !eqB a1 0 then(some (Int.tmod (WR ((Int.tmod a0 a1)+a1)) a1)) else none) else none)
instance sMod_c {a0:Int} {r:Int}:FC prog (G3 a0 a1=some r) 272 [aI a0,aI a1] [.c (.d (.i .i64 r))]:=⟨λH=>by
 refine fI func272 ntmps272 ?_
 refine aa H λr1 q1 H=>nA (ca (hF:=rZ.h q1)) ?_
 refine cC H ?_ ?_<;>intro H
 .exact ao H
 obtain⟨h,H⟩:=rq H
 refine nA (ir rfl rfl rfl (ne0 h)) ?_
 obtain⟨h,H⟩:=rq H
 refine nA (ir rfl rfl rfl (ne0 h)) ?_
 cases H
 exact dM⟩
def iM (a0:aS) (a2:Int):(Int×List Int)->Option (cr (Int×List Int) (List Int))
 |(v3,v4)=>abJ (bif ltB v3 (a0.bb.length:Int) then(abJ (du a2 1 4) λr9=>some r9) else(some false)) λ(v8:Bool)=>bif v8 then(bif da 8 (v4++[v3]).length then(some (.next (WR (v3+1),(v4++[v3])))) else none) else(some (.done v4))
def rR (a0:aS) (a1:Int) (a2:Int):Option (List Int):=
 abJ (rP a0 a1) λr1=>abJ (bif eqB a2 1 then(some (ltB 0 (r1.length:Int))) else(some false)) λ(v2:Bool)=>bif v2 then(some r1) else(abJ (iter (iM a0 a2) FU (0,([]:List Int))) λ(v7:List Int)=>some v7)
instance VF {a0:aS} {a2:Int} {r:List Int}:FC prog (rR a0 a1 a2=some r) 389 [.agg (ge a0),aI a1,aI a2] [.c (.own 3 1 (r.map eI) r.length)]:=gF func389 ntmps389 (hb 15 19) (hL 0 (λ(v:Int×List Int) sl ob nx=>⟨(8,.v (.c (.w 2 v.2.length)))::(9,tI v.1)::xS [2] sl,[(2,w3 v.2)]++ob,nx⟩)) (hB 0 (λ(v:List Int) sl ob nx=>⟨(8,.v (.c (.w 2 v.length)))::(9,.any)::xS [2] sl,[(2,w3 v)]++ob,nx⟩)) (hb 27 30)
def oR (a0:ah):Option Int:=
 abJ (pJ a0.ax.aC) λr1=>some r1
instance MH {a0:ah} {r:Int}:FC prog (oR a0=some r) 391 [.agg (bS a0)] [.c (.d (.i .i64 r))]:=gF func391 ntmps391
def wM (a0:List aD) (a1:Int):Int->Option (cr (Int) (Int))
 |v1=>abJ (bif ltB v1 (a0.length:Int) then(abJ (ix a0 v1) λx6=>some (ltB x6.aJ a1)) else(some false)) λ(v5:Bool)=>bif v5 then(some (.next (WR (v1+1)))) else(some (.done v1))
def DJ (a0:List aD) (a1:Int) (a2:Int):Option (List aD):=
 abJ (iter (wM a0 a1) FU 0) λ(v4:Int)=>abJ (bif ltB v4 (a0.length:Int) then(abJ (ix a0 v4) λx8=>some (eqB x8.aJ a1)) else(some false)) λ(v7:Bool)=>bif v7 then(bif da 16 (([]:List aD)++a0).length then(abJ (ix (([]:List aD)++a0) v4) λx9=>abJ (ix (([]:List aD)++a0) v4) λx10=>some ((([]:List aD)++a0).set (v4).toNat (⟨x10.aJ,WR (x9.dW+a2)⟩:aD))) else none) else(bif eF a0 0 v4 then(bif eF a0 v4 a0.length then(bif da 16 (([]:List aD)++(a0.take (v4).toNat)).length then(bif da 16 ((([]:List aD)++(a0.take (v4).toNat))++[(⟨a1,a2⟩:aD)]).length then(bif da 16 (((([]:List aD)++(a0.take (v4).toNat))++[(⟨a1,a2⟩:aD)])++(a0.drop (v4).toNat)).length then(some (((([]:List aD)++(a0.take (v4).toNat))++[(⟨a1,a2⟩:aD)])++(a0.drop (v4).toNat))) else none) else none) else none) else none) else none)
instance sl16Add_c {a0:List aD} {a2:Int} {r:List aD}:FC prog (DJ a0 a1 a2=some r) 383 [aL (a0.map bZ),aI a1,aI a2] [.c (.own 166 2 (r.map bZ) r.length)]:=⟨λH=>by
 refine fI func383 ntmps383 ?_
 refine aa H λv4 Hj H=>jB ⟨[(0,.v (.c (.d false (.l (a0.map bZ))))),(1,tI a1),(2,tI a2),(7,tI v4)],[],0⟩ ?_ ?_
 .refine iT Hj (λq=>⟨[(0,.v (.c (.d false (.l (a0.map bZ))))),(1,tI a1),(2,tI a2),(7,tI q)],[],0⟩) ?_
  rintro v1 o H
  refine ad ?_
  refine aa H λv5 Hj H=>jR ⟨[(0,.v (.c (.d false (.l (a0.map bZ))))),(1,tI a1),(2,tI a2),(7,tI v1),(21,tB v5)],[],0⟩ ?_ ?_
  .refine gC Hj ?_ ?_<;>intro H
   .refine aa H λx6 hx6 H=>nG (xdT (enc:=bZ) hx6) ?_
    exact ai H
   exact ai H
  refine cC H ?_ ?_<;>intro H
  .exact aN H
  exact aE H
 refine aa H λv7 Hj H=>jR ⟨[(0,.v (.c (.d false (.l (a0.map bZ))))),(1,tI a1),(2,tI a2),(7,tI v4),(36,tB v7)],[],0⟩ ?_ ?_
 .refine gC Hj ?_ ?_<;>intro H
  .refine aa H λx8 hx8 H=>nG (xdT (enc:=bZ) hx8) ?_
   exact ai H
  exact ai H
 refine cC H ?_ ?_<;>intro H
 .obtain⟨h,H⟩:=rq H
  refine jx rfl (apT (enc:=bZ) (ys:=([]:List aD)) (zs:=a0) h) ?_
  refine aW (sB (enc:=bZ) (o:=0)) ?_
  refine aa H λx9 hx9 H=>nA (xwT hx9) ?_
  refine nA (oe (he:=dF _ hx9)) ?_
  refine aa H λx10 hx10 H=>nA (xwT hx10) ?_
  refine sA (soT (enc:=bZ) (a':=(⟨x10.aJ,WR (x9.dW+a2)⟩:aD)) hx10) ?_
  exact ao H
 refine zI [0,1,2,3,5,6,7,8,10,11,12,4,9,13,14] ?_
 obtain⟨h,H⟩:=rq H
 refine zA (ZB (enc:=bZ) h (λ_=>rfl) rfl rfl rfl) ?_
 obtain⟨h,H⟩:=rq H
 refine zA (Tl (enc:=bZ) h (λ_=>rfl) rfl rfl rfl) ?_
 obtain⟨h,H⟩:=rq H
 refine wA (Gt (enc:=bZ) (ys:=([]:List aD)) (zs:=a0.take (v4).toNat) [0] h) ?_
 obtain⟨h,H⟩:=rq H
 refine wA (Gt (enc:=bZ) (ys:=(([]:List aD)++(a0.take (v4).toNat))) (zs:=[(⟨a1,a2⟩:aD)]) [2,1] h) ?_
 obtain⟨h,H⟩:=rq H
 refine wA (Gt (enc:=bZ) (ys:=((([]:List aD)++(a0.take (v4).toNat))++[(⟨a1,a2⟩:aD)])) (zs:=a0.drop (v4).toNat) [3] h) ?_
 refine mU (ds:=[0,2,3]) (by kernel_rfl) (by kernel_rfl) rfl ?_
 refine wI ?_
 cases H
 exact dM⟩
def vy (a0:ab) (a1:Int):Option Bool:=
 abJ (FD (a0.ev.bb.length:Int) 6) λr1=>abJ (du a1 0 (WR (r1-1))) λr2=>abJ (bif r2 then(bif leB 0 a1 then(some (eqB (z6 .i64 (Eb .i64 a0.dw a1) 1) 0)) else none) else(some false)) λ(v3:Bool)=>some v3
instance CZ {a0:ab} :FC prog (vy a0 a1=some r) 54 [.agg (fG a0),aI a1] [.c (.d (.b r))]:=gF func54 ntmps54 (hb 13 4)
def yG (a0:ab) (a1:Int):Option (bM×ab):=
 abJ (ix a0.aT a1) λx1=>bif eF a0.aT 0 a1 then(bif eF a0.aT (WR (a1+1)) a0.aT.length then(bif da 176 (([]:List bM)++(a0.aT.take (a1).toNat)).length then(bif da 176 ((([]:List bM)++(a0.aT.take (a1).toNat))++(a0.aT.drop (WR (a1+1)).toNat)).length then(some (x1,{a0 with aT:=((([]:List bM)++(a0.aT.take (a1).toNat))++(a0.aT.drop (WR (a1+1)).toNat))})) else none) else none) else none) else none
instance Ge {a0:ab} {r:bM×ab}:FCV prog (yG a0 a1=some r) 261 (nS a0) [tP 200,tI a1] (nS r.2) (.v (.agg (kM [.t] (jE r.1)))) []:=⟨λH=>by
 refine fV func261 ntmps261 ?_
 refine aa H λx1 hx1 H=>bL (lU 193 (hne:=ya (enc:=dB) hx1)) ?_
 refine nA (xwT hx1) ?_
 refine nA (oea (he:=dF _ hx1)) ?_
 refine zI [0,1,2,3,4,5,6,7,9,10,11,12,13,14,15,8,16,17,18,19] ?_
 obtain⟨hs19,H⟩:=rq H
 refine zA (ZF (enc:=dB) hs19 (by first|rfl|simp) rfl rfl rfl rfl) ?_
 obtain⟨hs20,H⟩:=rq H
 refine zA (MW (enc:=dB) hs20 (by first|rfl|simp) rfl rfl rfl rfl) ?_
 obtain⟨h,H⟩:=rq H
 refine wA (apx (enc:=dB) (ys:=([]:List bM)) (zs:=a0.aT.take (a1).toNat) [212,193] h (hs:=VY (enc:=dB) hs19 rfl)) ?_
 obtain⟨h,H⟩:=rq H
 refine wA (apx (enc:=dB) (ys:=(([]:List bM)++(a0.aT.take (a1).toNat))) (zs:=a0.aT.drop (WR (a1+1)).toNat) [213,193] h (hs:=Mh (enc:=dB) hs20 (by first|rfl|simp) rfl)) ?_
 refine wA (spx 100580) ?_
 refine mU (ds:=[212,213]) (by kernel_rfl) (by kernel_rfl) rfl ?_
 refine wI ?_
 cases H
 refine bA (Mv 193 214) ?_
 refine bA ((d8 193)) ?_
 exact bj⟩
def pH (a0:cy) (a1:Int):Option Bool:=
 some (eqB a1 a0.w8)
instance NL {a0:cy} :FC prog (pH a0 a1=some r) 379 [.agg (lY a0),aI a1] [.c (.d (.b r))]:=gF func379 ntmps379
def lN (a0:aF):Option Bool:=
 abJ (du a0.a8 1 8) λr1=>abJ (bif r1 then(abJ (du a0.bh 0 5) λr3=>bif r3 then(abJ (du a0.ag 0 999999) λr4=>bif r4 then(abJ (du a0.aV 0 999999) λr5=>bif r5 then(abJ (du a0.bV 0 1000000000000) λr6=>some r6) else(some false)) else(some false)) else(some false)) else(some false)) λ(v2:Bool)=>some v2
instance RB {a0:aF} :FC prog (lN a0=some r) 369 [.agg (cU a0)] [.c (.d (.b r))]:=gF func369 ntmps369 (hb 6 2)
def ur (a0:List ae) (a1:Int):Int->Option (cr (Int) (Int))
 |v1=>bif ltB v1 (a0.length:Int) then(abJ (ix a0 v1) λx2=>bif eqB x2.cW a1 then(dn (some v1)) else(some (.next (WR (v1+1))))) else(dn (some (-1)))
def F3 (a0:List ae) (a1:Int):Option Int:=
 iter (ur a0 a1) FU 0
instance N2 {a0:List ae} {r:Int}:FC prog (F3 a0 a1=some r) 395 [aL (a0.map aM),aI a1] [.c (.d (.i .i64 r))]:=gF func395 ntmps395 (hl 0 5)
end Go.AM
