/- A part. -/
import Derived.Test.YtcfhabdgiieejaaGreatG
set_option linter.unusedVariables false
open Option renaming bind->abJ
open List renaming replicate->aac
namespace Go.AM
open Go.Proofs
open Tryz
attribute [local irreducible] AWN NS AWO AWR AWC DR DZ dQ f9 iter
set_option maxRecDepth 100000
set_option maxHeartbeats 40000000
variable {a0 a1:Int} {r:Bool}
def cf (a0:Int) (a1:Int) (a2:Int):Option Bool:=
 abJ (bif leB a1 a0 then(some (leB a0 a2)) else(some false)) λ(v1:Bool)=>some v1
instance jg {a2:Int} :FC prog (cf a0 a1 a2=some r) 42 [aI a0,aI a1,aI a2] [.c (.d (.b r))]:=gF func42 ntmps42 (hb 10 6)
def kZ (a0:aS) (a1:Int):Option Bool:=
 abJ (cf a1 0 (WR ((a0.bb.length:Int)-1))) λr1=>some r1
instance yY {a0:aS} :FC prog (kZ a0 a1=some r) 77 [.agg (ge a0),aI a1] [.c (.d (.b r))]:=gF func77 ntmps77
def ku (a0:List Int):Int->Option (cr (Int) (Bool))
 |v1=>bif ltB v1 (a0.length:Int) then(abJ (ix a0 (WR (v1-1))) λx2=>abJ (ix a0 v1) λx3=>bif leB x3 x2 then(dn (some false)) else(some (.next (WR (v1+1))))) else(dn (some true))
def oC (a0:List Int):Option Bool:=
 iter (ku a0) FU 1
instance Ul {a0:List Int} :FC prog (oC a0=some r) 134 [aL (a0.map eI)] [.c (.d (.b r))]:=gF func134 ntmps134 (hl 0 3)
def jV (a0:bK):Option Bool:=
 abJ (cf a0.fC 1 6) λr1=>abJ (bif r1 then(bif leB 0 a0.fC then(abJ (cf a0.fP 0 (WR ((lX .i64 1 a0.fC)-1))) λr3=>some r3) else none) else(some false)) λ(v2:Bool)=>some v2
instance Ud {a0:bK} :FC prog (jV a0=some r) 75 [.agg (iO a0)] [.c (.d (.b r))]:=gF func75 ntmps75 (hb 6 2)
def gI (a0:Int):Option Bool:=
 abJ (cf a0 1 2147483646) λr1=>some r1
instance WB:FC prog (gI a0=some r) 228 [aI a0] [.c (.d (.b r))]:=gF func228 ntmps228
def gJ (a0:dv):Option Bool:=
 abJ (cf a0.eb 0 3) λr1=>abJ (bif r1 then(abJ (cf a0.bV 0 99) λr3=>some r3) else(some false)) λ(v2:Bool)=>some v2
instance IT {a0:dv} :FC prog (gJ a0=some r) 316 [.agg (nR a0)] [.c (.d (.b r))]:=gF func316 ntmps316 (hb 6 2)
def sT (a0:List bJ):Int->Option (cr (Int) (Bool))
 |v1=>bif ltB v1 (a0.length:Int) then(abJ (ix a0 v1) λx2=>bif ltB 60 (x2.a9.length:Int) then(dn (some false)) else(some (.next (WR (v1+1))))) else(dn (some true))
def t0 (a0:List bJ):Option Bool:=
 iter (sT a0) FU 0
instance WE {a0:List bJ} :FC prog (t0 a0=some r) 234 [aL (a0.map dN)] [.c (.d (.b r))]:=gF func234 ntmps234 (hl 0 7)
def jn (a0:aP):Int->Option (cr (Int) (Bool))
 |v3=>bif ltB v3 (a0.aK.length:Int) then(abJ (ix a0.aK v3) λx4=>abJ (bif ltB 60 (x4.a9.length:Int) then(some true) else(abJ (cf x4.cW (WR (a0.bE+1)) (WR ((WR (a0.bE+8))-1))) λr6=>some (!r6))) λ(v5:Bool)=>bif v5 then(dn (some false)) else(abJ (bif ltB 0 v3 then(abJ (ix a0.aK (WR (v3-1))) λx8=>some (leB x4.cW x8.cW)) else(some false)) λ(v7:Bool)=>bif v7 then(dn (some false)) else(some (.next (WR (v3+1)))))) else(dn (some true))
def jF (a0:aP):Option Bool:=
 abJ (bif !eqB a0.bE (WR ((a0.be.length:Int)+1)) then(some true) else(bif ltB 24 (a0.be.length:Int) then(some true) else(abJ (t0 a0.be) λr2=>bif !r2 then(some true) else(some (ltB 8 (a0.aK.length:Int)))))) λ(v1:Bool)=>bif v1 then(some false) else(iter (jn a0) FU 0)
instance Ah {a0:aP} :FC prog (jF a0=some r) 229 [.agg (g8 a0)] [.c (.d (.b r))]:=gF func229 ntmps229 (hb 12 29) (hl 0 33) (hb 42 54) (hb 57 68)
def jh (a0:cP):Option Bool:=
 abJ (bif leB 0 a0.aJ then(bif leB 0 a0.em then(bif leB a0.em a0.cV then(some (leB a0.cV 100000)) else(some false)) else(some false)) else(some false)) λ(v1:Bool)=>some v1
instance Sm {a0:cP} :FC prog (jh a0=some r) 112 [.agg (mV a0)] [.c (.d (.b r))]:=gF func112 ntmps112 (hb 6 2)
def qm (a0:List Int) (a1:List Int):Option Bool:=
 abJ (A1 a0 a1) λr1=>some r1
instance Wy {a0:List Int} {a1:List Int} :FC prog (qm a0 a1=some r) 185 [aL (a0.map eU8),aL (a1.map eU8)] [.c (.d (.b r))]:=gF func185 ntmps185
def oE (a0:List ae):(Int×Int)->Option (cr (Int×Int) (Int))
 |(v1,v2)=>bif ltB v2 (a0.length:Int) then(abJ (ix a0 v2) λx5=>some (.next (WR (v1+(x5.a9.length:Int)),WR (v2+1)))) else(some (.done v1))
def oD (a0:List ae):Option Int:=
 abJ (iter (oE a0) FU (0,0)) λ(v4:Int)=>some v4
instance QW {a0:List ae} {r:Int}:FC prog (oD a0=some r) 317 [aL (a0.map aM)] [.c (.d (.i .i64 r))]:=gF func317 ntmps317 (hm 0 3 8) (he 0 3 8)
def ou (a0:aj):(Int×Int)->Option (cr (Int×Int) (Int))
 |(v1,v2)=>bif ltB v2 (a0.an.length:Int) then(abJ (ix a0.an v2) λx5=>some (.next (WR (v1+x5.dW),WR (v2+1)))) else(some (.done v1))
def ot (a0:aj):Option Int:=
 abJ (iter (ou a0) FU (0,0)) λ(v4:Int)=>some v4
instance QT {a0:aj} {r:Int}:FC prog (ot a0=some r) 236 [.agg (cM a0)] [.c (.d (.i .i64 r))]:=gF func236 ntmps236 (hm 0 3 9) (he 0 3 9)
def iU (a0:aj) (a1:Int):Int->Option (cr (Int) (Int))
 |v1=>bif ltB v1 (a0.an.length:Int) then(abJ (ix a0.an v1) λx2=>bif eqB x2.aJ a1 then(dn (some v1)) else(some (.next (WR (v1+1))))) else(dn (some (-1)))
def fU (a0:aj) (a1:Int):Option Int:=
 iter (iU a0 a1) FU 0
instance rh {a0:aj} {r:Int}:FC prog (fU a0 a1=some r) 318 [.agg (cM a0),aI a1] [.c (.d (.i .i64 r))]:=gF func318 ntmps318 (hl 0 10)
def gH (a0:ah):Option Int:=
 some (WR ((WR (a0.ax.bE-1))-(a0.ax.aC.length:Int)))
instance IQ {a0:ah} {r:Int}:FC prog (gH a0=some r) 50 [.agg (bS a0)] [.c (.d (.i .i64 r))]:=gF func50 ntmps50
def jH (a0:List bJ):(Int×Int)->Option (cr (Int×Int) (Int))
 |(v1,v2)=>bif ltB v2 (a0.length:Int) then(abJ (ix a0 v2) λx5=>some (.next (WR (v1+(x5.a9.length:Int)),WR (v2+1)))) else(some (.done v1))
def uT (a0:List bJ):Option Int:=
 abJ (iter (jH a0) FU (0,0)) λ(v4:Int)=>some v4
instance Su {a0:List bJ} {r:Int}:FC prog (uT a0=some r) 56 [aL (a0.map dN)] [.c (.d (.i .i64 r))]:=gF func56 ntmps56 (hm 0 3 8) (he 0 3 8)
def Nf (a0:Int) (a1:Int):Option Int:=
 bif ltB a1 a0 then(some a1) else(some a0)
instance Ng {r:Int}:FC prog (Nf a0 a1=some r) 186 [aI a0,aI a1] [.c (.d (.i .i64 r))]:=gF func186 ntmps186
def Ue (a0:Int) (a1:Int):Option Int:=
 bif ltB a0 a1 then(some a1) else(some a0)
instance iMax_c {r:Int}:FC prog (Ue a0 a1=some r) 187 [aI a0,aI a1] [.c (.d (.i .i64 r))]:=gF func187 ntmps187
def sj (a0:List Int):Option (List Int):=
 bif pA 8 (a0.length:Int) (a0.length:Int) then(some (cpL (aac ((a0.length:Int)).toNat (0:Int)) a0)) else none
instance K5 {a0:List Int} {r:List Int}:FC prog (sj a0=some r) 169 [aL (a0.map eI)] [.c (.own 3 1 (r.map eI) r.length)]:=gF func169 ntmps169
def eU (a0:List Int):Option (List Int):=
 bif pA 1 (a0.length:Int) (a0.length:Int) then(some (cpL (aac ((a0.length:Int)).toNat (0:Int)) a0)) else none
instance gx {a0:List Int} {r:List Int}:FC prog (eU a0=some r) 276 [aL (a0.map eU8)] [.c (.own 5 1 (r.map eU8) r.length)]:=gF func276 ntmps276
def fN (a0:List aD):Option (List aD):=
 bif pA 16 (a0.length:Int) (a0.length:Int) then(some (cpL (aac ((a0.length:Int)).toNat db) a0)) else none
instance CS {a0:List aD} {r:List aD}:FC prog (fN a0=some r) 174 [aL (a0.map bZ)] [.c (.own 166 2 (r.map bZ) r.length)]:=gF func174 ntmps174
def fT (a0:List aF):Option (List aF):=
 bif pA 88 (a0.length:Int) (a0.length:Int) then(some (cpL (aac ((a0.length:Int)).toNat d9) a0)) else none
instance GI {a0:List aF} {r:List aF}:FC prog (fT a0=some r) 298 [aL (a0.map cU)] [.c (.own 42 11 (r.map cU) r.length)]:=gF func298 ntmps298
def mG (a0:aG):Option aF:=
 some {d9 with a8:=1,bh:=a0.bh}
instance Sr {a0:aG} {r:aF}:FC prog (mG a0=some r) 217 [.agg (cF a0)] [.agg (qM [] (d6 r))]:=gF func217 ntmps217
def oo:Option fA:=
 some (⟨[1,2]⟩:fA)
instance ME {r:fA}:FC prog (oo=some r) 284 [] [.agg [.own 3 1 (r.Steps.map eI) r.Steps.length]]:=gF func284 ntmps284
def mc (a0:aj) (a1:Int):Option aj:=
 bif eF a0.an 0 a1 then(bif da 16 (([]:List aD)++(a0.an.take (a1).toNat)).length then(bif eF a0.an (WR (a1+1)) a0.an.length then(bif da 16 ((([]:List aD)++(a0.an.take (a1).toNat))++(a0.an.drop (WR (a1+1)).toNat)).length then(some {a0 with an:=((([]:List aD)++(a0.an.take (a1).toNat))++(a0.an.drop (WR (a1+1)).toNat))}) else none) else none) else none) else none
instance Aj {a0:aj} {r:aj}:FC prog (mc a0 a1=some r) 351 [.agg (cM a0),aI a1] [.agg (qM [.o] (ct r))]:=gF func351 ntmps351
def Dg (a0:aS) (a1:Int):(Int×List Int)->Option (cr (Int×List Int) (List Int))
 |(v1,v2)=>bif ltB v1 (a0.bb.length:Int) then(abJ (ix a0.bb v1) λx6=>abJ (bif eqB x6.fZ a1 then(bif da 8 (v2++[v1]).length then(some (v2++[v1])) else none) else(some v2)) λ(v7:List Int)=>some (.next (WR (v1+1),v7))) else(some (.done v2))
def wb (a0:aS) (a1:Int):Option (List Int):=
 abJ (iter (Dg a0 a1) FU (0,([]:List Int))) λ(v5:List Int)=>some v5
instance EH {a0:aS} {r:List Int}:FC prog (wb a0 a1=some r) 384 [.agg (ge a0),aI a1] [.c (.own 3 1 (r.map eI) r.length)]:=gF func384 ntmps384 (hL 0 (λ(v:Int×List Int) sl ob nx=>⟨(5,.v (.c (.w 1 v.2.length)))::(12,tI v.1)::xS [1] sl,[(1,w3 v.2)]++ob,nx⟩)) (hB 0 (λ(v:List Int) sl ob nx=>⟨(5,.v (.c (.w 1 v.length)))::(12,.any)::xS [1] sl,[(1,w3 v)]++ob,nx⟩)) (hC 20 (λ(v:List Int) sl ob nx=>⟨(5,.v (.c (.w 1 v.length)))::xS [1] sl,[(1,w3 v)]++ob,nx⟩))
def uS (a0:Int):Option fA:=
 some (⟨[1,3,a0]⟩:fA)
instance Sn {r:fA}:FC prog (uS a0=some r) 106 [aI a0] [.agg [.own 3 1 (r.Steps.map eI) r.Steps.length]]:=gF func106 ntmps106
def kn (a0:List Int):(Int×List Int)->Option (cr (Int×List Int) (List Int))
 |(v1,v2)=>bif ltB v1 (a0.length:Int) then(abJ (ix a0 v1) λx5=>bif da 8 (v2++[WR (x5)]).length then(some (.next (WR (v1+1),(v2++[WR (x5)])))) else none) else(some (.done v2))
def rz (a0:List Int):Option (List Int):=
 bif pA 8 0 (WR ((a0.length:Int)+1)) then(bif da 8 ((aac ((0:Int)).toNat (0:Int))++[(a0.length:Int)]).length then(abJ (iter (kn a0) FU (0,((aac ((0:Int)).toNat (0:Int))++[(a0.length:Int)]))) λ(v4:List Int)=>some v4) else none) else none
instance EG {a0:List Int} {r:List Int}:FC prog (rz a0=some r) 339 [aL (a0.map eU8)] [.c (.own 3 1 (r.map eI) r.length)]:=gF func339 ntmps339 (hL 0 (λ(v:Int×List Int) sl ob nx=>⟨(3,.v (.c (.w 0 v.2.length)))::(17,tI v.1)::xS [0] sl,[(0,w3 v.2)]++ob,nx⟩)) (hB 0 (λ(v:List Int) sl ob nx=>⟨(3,.v (.c (.w 0 v.length)))::(17,.any)::xS [0] sl,[(0,w3 v)]++ob,nx⟩))
def qy (a0:ab) (a1:Int):Option (bM×ab):=
 abJ (ix a0.aT a1) λx1=>bif pA 176 0 (a0.aT.length:Int) then(bif eF a0.aT 0 a1 then(bif da 176 ((aac ((0:Int)).toNat fM)++(a0.aT.take (a1).toNat)).length then(bif eF a0.aT (WR (a1+1)) a0.aT.length then(bif da 176 (((aac ((0:Int)).toNat fM)++(a0.aT.take (a1).toNat))++(a0.aT.drop (WR (a1+1)).toNat)).length then(some (x1,{a0 with aT:=(((aac ((0:Int)).toNat fM)++(a0.aT.take (a1).toNat))++(a0.aT.drop (WR (a1+1)).toNat))})) else none) else none) else none) else none) else none
instance zH {a0:ab} {r:bM×ab}:FCV prog (qy a0 a1=some r) 176 (nI a0) [tP 200,tI a1] (nI r.2) (.v (.agg (kM [.t] (jE r.1)))) []:=⟨λH=>by
 refine fV func176 ntmps176 ?_
 refine aa H λx1 hx1 H=>nA (xwT hx1) ?_
 refine nA (oea (he:=dF _ hx1)) ?_
 obtain⟨h,H⟩:=rq H
 refine nA (mkT (enc:=dB) (za:=fM) h (by rfl)) ?_
 obtain⟨hs7,H⟩:=rq H
 refine nA (ZF (enc:=dB) hs7 (by first|rfl|simp) rfl rfl rfl rfl) ?_
 obtain⟨h,H⟩:=rq H
 refine sA (apT (enc:=dB) (ys:=(aac ((0:Int)).toNat fM)) (zs:=a0.aT.take (a1).toNat) h (hs:=VY (enc:=dB) hs7 rfl)) ?_
 obtain⟨hs8,H⟩:=rq H
 refine nA (MW (enc:=dB) hs8 (by first|rfl|simp) rfl rfl rfl rfl) ?_
 obtain⟨h,H⟩:=rq H
 refine sA (apT (enc:=dB) (ys:=((aac ((0:Int)).toNat fM)++(a0.aT.take (a1).toNat))) (zs:=a0.aT.drop (WR (a1+1)).toNat) h (hs:=Mh (enc:=dB) hs8 (by first|rfl|simp) rfl)) ?_
 cases H
 refine bA (Mv 193 212) ?_
 exact bj⟩
def pt (a0:cy) (a1:Int):Option Bool:=
 some (eqB a1 a0.w8)
instance Nj {a0:cy} :FC prog (pt a0 a1=some r) 357 [.agg (lY a0),aI a1] [.c (.d (.b r))]:=gF func357 ntmps357
def p3 (a0:aP) (a1:Int):Int->Option (cr (Int) (Bool))
 |v1=>bif ltB v1 (a0.aK.length:Int) then(abJ (ix a0.aK v1) λx2=>bif eqB x2.cW a1 then(dn (some true)) else(some (.next (WR (v1+1))))) else(dn (some false))
def Al (a0:aP) (a1:Int):Option Bool:=
 iter (p3 a0 a1) FU 0
instance IY {a0:aP} :FC prog (Al a0 a1=some r) 361 [.agg (g8 a0),aI a1] [.c (.d (.b r))]:=gF func361 ntmps361 (hl 0 10)
end Go.AM
