/- A part. -/
import Derived.Test.YtfbpfflnhfcmaaaGreatS0
set_option linter.unusedVariables false
open Option renaming some->ς,none->ξ
open Bool renaming true->ζ,false->η
open True renaming intro->θ
open Option renaming bind->afW
namespace Go.AM
open Go.Proofs
open Tryz
attribute [local irreducible] AWN NS AWO AWR AWC DR DZ dm gK iter
set_option maxRecDepth 100000
set_option maxHeartbeats 40000000
variable{a1:Int}{r:Bool}
def cS(a0:bu)(a1:Int):Option (Int×bu):=
 cond (leB a1 0) (ς (0,a0)) (cond (leB a1 256) (afW (wG a0) λr1=>cond (!eqB a1 0) (ς (Int.tmod r1.1 a1,r1.2)) ξ) (afW (wG a0) λr2=>afW (wG r2.2) λr3=>afW (wG r3.2) λr4=>cond (!eqB a1 0) (ς (Int.tmod (WR ((WR ((WR (r2.1*65536))+(WR (r3.1*256))))+r4.1)) a1,r4.2)) ξ))
instance oZ{a0:bu}{r:Int×bu}:FCW prog (cS a0 a1=ς r) 74 (.var 124 (kM [.f] (cB a0))) [tP 200,tI a1] (.var 124 (kM [.f] (cB r.2))) [.c (.d (.i .i64 r.1))]:=gW func74 ntmps74
def qt(a0:be)(v1:Int)(x2:fo):Int->Option (cj (Int) (cj (Int) (Bool)))
 |v4=>cond (ltB v4 (x2.cY.length:Int)) (afW (ix x2.cY v4) λx5=>afW (dt x5 0 (WR ((a0.bp.length:Int)-1))) λr6=>afW (cond (!r6) (ς ζ) (cond (eqB x5 v1) (ς ζ) (cond (ltB 0 v4) (afW (ix x2.cY (WR (v4-1))) λx8=>cond (leB x5 x8) (ς ζ) (afW (ix a0.bp x5) λx9=>afW (DW x9.cY v1) λr10=>ς (!r10))) (afW (ix a0.bp x5) λx11=>afW (DW x11.cY v1) λr12=>ς (!r12))))) λ(v7:Bool)=>cond v7 (dn (dn (ς η))) (ς (.next (WR (v4+1))))) (dn (ς (.next (WR (v1+1)))))
def qs(a0:be):Int->Option (cj (Int) (Bool))
 |v1=>cond (ltB v1 (a0.bp.length:Int)) (afW (ix a0.bp v1) λx2=>afW (dt x2.fF 0 2) λr3=>cond (!r3) (dn (ς η)) (iter (qt a0 v1 x2) FU 0)) (dn (afW (dt (a0.bp.length:Int) 1 6) λr13=>ς r13))
def sZ(a0:be):Option Bool:=
 iter (qs a0) FU 0
instance abO{a0:be} :FC prog (sZ a0=ς r) 58 [.agg (gM a0)] [.c (.d (.b r))]:=gG func58 ntmps58 (hl 0 3) (hl 2 5) (hb 42 71)
def iH(a0:bR):Int->Option (cj (Int) (Bool))
 |v1=>cond (ltB v1 (a0.bU.length:Int)) (afW (ix a0.bU v1) λx2=>afW (dt x2 0 3) λr3=>afW (cond (!r3) (ς ζ) (cond (ltB 0 v1) (afW (ix a0.bU (WR (v1-1))) λx5=>afW (ix a0.bU v1) λx6=>ς (leB x6 x5)) (ς η))) λ(v4:Bool)=>cond v4 (dn (ς η)) (ς (.next (WR (v1+1))))) (dn (afW (dt a0.m9 1 1000) λr7=>afW (cond r7 (afW (dt a0.m0 1 4) λr9=>cond r9 (afW (dt a0.d4 1 100000) λr10=>ς r10) (ς η)) (ς η)) λ(v8:Bool)=>ς v8))
def iy(a0:bR):Option Bool:=
 iter (iH a0) FU 0
instance Mp{a0:bR} :FC prog (iy a0=ς r) 195 [.agg (mA a0)] [.c (.d (.b r))]:=gG func195 ntmps195 (hl 0 3) (hb 18 35) (hb 39 2)
def jg(a0:Int):Option Bool:=
 afW (dt a0 1 2147483646) λr1=>ς r1
instance abN{a0:Int} :FC prog (jg a0=ς r) 191 [aI a0] [.c (.d (.b r))]:=gG func191 ntmps191
def iw(a0:dH):Option Bool:=
 afW (dt a0.eF 0 3) λr1=>afW (cond r1 (afW (dt a0.bP 0 99) λr3=>ς r3) (ς η)) λ(v2:Bool)=>ς v2
instance Mo{a0:dH} :FC prog (iw a0=ς r) 278 [.agg (pC a0)] [.c (.d (.b r))]:=gG func278 ntmps278 (hb 6 2)
def wx(a0:a8)(a1:bR)(a2:Int):Option ag:=
 afW (yb a1) λr1=>ς {BM with bD:=a0,gI:=r1,ax:=(⟨1,[]⟩:bk),bG:={Uo with aO:=a2}}
instance abS{a0:a8}{a1:bR}{a2:Int}{r:ag}:FC prog (wx a0 a1 a2=ς r) 227 [.agg (eB a0),.agg (mA a1),aI a2] [.agg (qM [.o,.z,.z] (dO r))]:=gG func227 ntmps227 (hz 1)
def wu(a0:Int):Option av:=
 afW (dt a0 0 100000) λr1=>afW (cond (!r1) (ς 0) (ς a0)) λ(v2:Int)=>ς {BL with iA:=v2,bL:=v2}
instance abR{a0:Int}{r:av}:FC prog (wu a0=ς r) 228 [aI a0] [.agg (qM [.z] (dB r))]:=gG func228 ntmps228 (hi 5 0)
def o5(a0:bk):Option bk:=
 afW (xY a0.aJ) λr1=>ς (⟨a0.bw,r1⟩:bk)
instance qJ{a0:bk}{r:bk}:FC prog (o5 a0=ς r) 238 [.agg (gY a0)] [.agg (qM [.o] (eL r))]:=gG func238 ntmps238 (hz 1)
def Fy(a1:Int):(Int×List Int×bu)->Option (cj (Int×List Int×bu) (List Int×bu))
 |(v1,v5,v6)=>cond (ltB v1 a1) (afW (wG v6) λr13=>cond (da 1 (v5++[IntKind.u8.wrap (r13.1)]).length) (ς (.next (WR (v1+1),(v5++[IntKind.u8.wrap (r13.1)]),r13.2))) ξ) (ς (.done (v5,v6)))
def AS(a0:bu)(a1:Int):Option (List Int×bu):=
 afW (iter (Fy a1) FU (0,([]:List Int),a0)) λ((v11,v12):List Int×bu)=>ς (v11,v12)
instance Ro{a0:bu}{r:List Int×bu}:FCW prog (AS a0 a1=ς r) 136 (.var 124 (kM [.f] (cB a0))) [tP 200,tI a1] (.var 124 (kM [.f] (cB r.2))) [.c (.own 5 1 (r.1.map eU8) r.1.length)]:=gW func136 ntmps136 (hL 0 (λ(v:Int×List Int×bu) sl ob nx=>⟨(5,.v (.c (.w 210 v.2.1.length)))::(6,tI v.1)::xS [210] sl,[(200,.var 124 (kM [.f] (cB v.2.2))),(210,w5 v.2.1)]++ob,nx⟩)) (hB 0 (λ(v:List Int×bu) sl ob nx=>⟨(5,.v (.c (.w 210 v.1.length)))::(6,.any)::xS [210] sl,[(200,.var 124 (kM [.f] (cB v.2))),(210,w5 v.1)]++ob,nx⟩))
def AT(a0:a9):Option a9:=
 afW (xY a0.aV) λr1=>afW (vk a0.bv) λr2=>ς (⟨a0.bw,r1,r2⟩:a9)
instance Rr{a0:a9}{r:a9}:FC prog (AT a0=ς r) 235 [.agg (iJ a0)] [.agg (qM [.o,.o] (c7 r))]:=gG func235 ntmps235 (hz 1)
def vr(a0:bg):Option bg:=
 afW (DY a0.bV) λr1=>ς {a0 with bV:=r1}
instance Mx{a0:bg}{r:bg}:FC prog (vr a0=ς r) 144 [.agg (fG a0)] [.agg (qM [.o] (pD r))]:=gG func144 ntmps144
def nB(a0:bQ):Option Bool:=
 afW (dt a0.fU 1 6) λr1=>afW (cond r1 (cond (leB 0 a0.fU) (afW (dt a0.fZ 0 (WR ((nO .i64 1 a0.fU)-1))) λr3=>ς r3) ξ) (ς η)) λ(v2:Bool)=>ς v2
instance aam{a0:bQ} :FC prog (nB a0=ς r) 59 [.agg (jK a0)] [.c (.d (.b r))]:=gG func59 ntmps59 (hb 6 2)
def iV(a0:a9):Int->Option (cj (Int) (Bool))
 |v9=>cond (ltB v9 (a0.bv.length:Int)) (afW (ix a0.bv v9) λx10=>cond (ltB 60 (x10.bh.length:Int)) (dn (ς η)) (ς (.next (WR (v9+1))))) (dn (afW (cond (eqB a0.bw (WR ((a0.bv.length:Int)+1))) (cond (leB (a0.bv.length:Int) 24) (ς (leB (a0.aV.length:Int) 8)) (ς η)) (ς η)) λ(v11:Bool)=>ς v11))
def kw(a0:a9):Int->Option (cj (Int) (Bool))
 |v1=>cond (ltB v1 (a0.aV.length:Int)) (afW (ix a0.aV v1) λx2=>afW (dt x2.cH (WR (a0.bw+1)) (WR ((WR (a0.bw+8))-1))) λr3=>afW (cond (!r3) (ς ζ) (cond (ltB 0 v1) (afW (ix a0.aV (WR (v1-1))) λx5=>afW (ix a0.aV v1) λx6=>cond (leB x6.cH x5.cH) (ς ζ) (afW (ix a0.aV v1) λx7=>ς (ltB 60 (x7.bh.length:Int)))) (afW (ix a0.aV v1) λx8=>ς (ltB 60 (x8.bh.length:Int))))) λ(v4:Bool)=>cond v4 (dn (ς η)) (ς (.next (WR (v1+1))))) (dn (iter (iV a0) FU 0))
def kG(a0:a9):Option Bool:=
 iter (kw a0) FU 0
instance CH{a0:a9} :FC prog (kG a0=ς r) 193 [.agg (iJ a0)] [.c (.d (.b r))]:=gG func193 ntmps193 (hl 0 3) (hb 27 56) (hl 2 4) (hb 79 2)
def jh(a0:cW):Option Bool:=
 afW (cond (leB 0 a0.aO) (afW (dt a0.cG 0 100000) λr2=>cond r2 (afW (dt a0.d6 0 a0.cG) λr3=>ς r3) (ς η)) (ς η)) λ(v1:Bool)=>ς v1
instance WZ{a0:cW} :FC prog (jh a0=ς r) 105 [.agg (oH a0)] [.c (.d (.b r))]:=gG func105 ntmps105 (hb 6 2)
def qv(a0:cm):Option Bool:=
 afW (dt a0.fF 0 2) λr1=>afW (cond r1 (afW (dt a0.dJ 0 4) λr3=>cond r3 (afW (dt a0.dy 0 3) λr4=>ς r4) (ς η)) (ς η)) λ(v2:Bool)=>ς v2
instance VY{a0:cm} :FC prog (qv a0=ς r) 196 [.agg (rS a0)] [.c (.d (.b r))]:=gG func196 ntmps196 (hb 6 2)
def mn(a0:bk):Int->Option (cj (Int) (Bool))
 |v1=>cond (ltB v1 (a0.aJ.length:Int)) (afW (ix a0.aJ v1) λx2=>afW (cond (!eqB x2.cH (WR ((WR (a0.bw-(a0.aJ.length:Int)))+v1))) (ς ζ) (afW (ix a0.aJ v1) λx4=>ς (ltB 60 (x4.bh.length:Int)))) λ(v3:Bool)=>cond v3 (dn (ς η)) (ς (.next (WR (v1+1))))) (dn (afW (dt a0.bw 1 100000) λr5=>afW (cond r5 (cond (leB (a0.aJ.length:Int) 8) (ς (leB 1 (WR (a0.bw-(a0.aJ.length:Int))))) (ς η)) (ς η)) λ(v6:Bool)=>ς v6))
def mP(a0:bk):Option Bool:=
 iter (mn a0) FU 0
instance xQ{a0:bk} :FC prog (mP a0=ς r) 279 [.agg (gY a0)] [.c (.d (.b r))]:=gG func279 ntmps279 (hl 0 3) (hb 26 35) (hb 39 2)
def lp(a0:av):Int->Option (cj (Int) (Bool))
 |v1=>cond (ltB v1 (a0.aD.length:Int)) (afW (ix a0.aD v1) λx2=>afW (cond (ltB x2.aO 0) (ς ζ) (afW (ix a0.aD v1) λx4=>afW (dt x4.eo 1 100000) λr5=>cond (!r5) (ς ζ) (cond (ltB 0 v1) (afW (ix a0.aD (WR (v1-1))) λx6=>afW (ix a0.aD v1) λx7=>ς (leB x7.aO x6.aO)) (ς η)))) λ(v3:Bool)=>cond v3 (dn (ς η)) (ς (.next (WR (v1+1))))) (dn (afW (dt a0.iA 0 100000) λr8=>afW (cond r8 (afW (dt a0.bL 0 a0.iA) λr10=>cond r10 (afW (dt a0.d9 0 a0.iA) λr11=>cond r11 (cond (leB (a0.aD.length:Int) 8) (afW (qG a0) λr12=>ς (eqB (WR ((WR (a0.bL+a0.d9))+r12)) a0.iA)) (ς η)) (ς η)) (ς η)) (ς η)) λ(v9:Bool)=>ς v9))
def iQ(a0:av):Option Bool:=
 iter (lp a0) FU 0
instance TT{a0:av} :FC prog (iQ a0=ς r) 111 [.agg (dw a0)] [.c (.d (.b r))]:=gG func111 ntmps111 (hl 0 3) (hb 18 47) (hb 51 2)
def qE(a0:av)(a1:Int):Option Int:=
 afW (s9 a0 a1) λr1=>cond (ltB r1 0) (ς 0) (afW (ix a0.aD r1) λx2=>ς x2.eo)
instance aar{a0:av}{r:Int}:FC prog (qE a0 a1=ς r) 199 [.agg (dw a0),aI a1] [.c (.d (.i .i64 r))]:=gG func199 ntmps199
def Gd(a0:List aU)(a1:Int)(a2:Int):Option (List aU):=
 cond (da 16 (([]:List aU)++a0).length) (afW (ix a0 a1) λx1=>cond (ltB a2 x1.eo) (afW (ix a0 a1) λx2=>afW (ix (([]:List aU)++a0) a1) λx3=>ς ((([]:List aU)++a0).set (a1).toNat (⟨x3.aO,WR (x2.eo-a2)⟩:aU))) (cond (eQ (([]:List aU)++a0) 0 a1) (cond (eQ a0 (WR (a1+1)) a0.length) (cond (da 16 ((([]:List aU)++a0).take (a1).toNat++(a0.drop (WR (a1+1)).toNat)).length) (ς ((([]:List aU)++a0).take (a1).toNat++(a0.drop (WR (a1+1)).toNat))) ξ) ξ) ξ)) ξ
instance sl16Cut_c{a0:List aU}{a2:Int}{r:List aU}:FC prog (Gd a0 a1 a2=ς r) 370 [aL (a0.map ci),aI a1,aI a2] [.c (.own 165 2 (r.map ci) r.length)]:=⟨λH=>by
 refine fI func370 ntmps370 ?_
 obtain⟨h,H⟩:=rq H
 refine ly rfl (apT (enc:=ci) (ys:=([]:List aU)) (zs:=a0) h) ?_
 refine aW (BJ (enc:=ci) (o:=0)) ?_
 refine aa H λx1 hx1 H=>nA (xdT (enc:=ci) hx1) ?_
 refine cC H ?_ ?_<;>intro H
 .refine aa H λx2 hx2 H=>nA (xdT (enc:=ci) hx2) ?_
  refine aa H λx3 hx3 H=>nA (xwT hx3) ?_
  refine sA (soT (enc:=ci) (a':=(⟨x3.aO,WR (x2.eo-a2)⟩:aU)) hx3) ?_
  exact ao H
 refine zI (List.range 9) ?_
 obtain⟨hs2,H⟩:=rq H
 refine zA (cwfT (enc:=ci) hs2 (by first|rfl|simp) rfl rfl rfl rfl) ?_
 obtain⟨h,H⟩:=rq H
 refine zA (cdlT (enc:=ci) h (λ_=>rfl) rfl rfl rfl) ?_
 obtain⟨h,H⟩:=rq H
 refine wA (apxPF (enc:=ci) (h:=a1) (ys:=(([]:List aU)++a0)) (zs:=a0.drop (WR (a1+1)).toNat) [0] hs2 h rfl (λ_=>rfl) (λ_=>rfl) rfl .d rfl rfl rfl rfl rfl rfl) ?_
 refine tD (ds:=[0]) (by kernel_rfl) (by kernel_rfl) rfl ?_
 refine wI ?_
 cases H
 exact jL⟩
def lI(a0:be)(a1:Int):(Int×List Int)->Option (cj (Int×List Int) (List Int))
 |(v1,v2)=>cond (ltB v1 (a0.bp.length:Int)) (afW (ix a0.bp v1) λx6=>afW (cond (eqB x6.fF a1) (cond (da 8 (v2++[v1]).length) (ς (v2++[v1])) ξ) (ς v2)) λ(v7:List Int)=>ς (.next (WR (v1+1),v7))) (ς (.done v2))
def tY(a0:be)(a1:Int):Option (List Int):=
 afW (iter (lI a0 a1) FU (0,([]:List Int))) λ(v5:List Int)=>ς v5
instance aah{a0:be}{r:List Int}:FC prog (tY a0 a1=ς r) 389 [.agg (gM a0),aI a1] [.c (.own 3 1 (r.map eI) r.length)]:=gG func389 ntmps389 (hL 0 (λ(v:Int×List Int) sl ob nx=>⟨(5,.v (.c (.w 1 v.2.length)))::(6,tI v.1)::xS [1] sl,[(1,w3 v.2)]++ob,nx⟩)) (hB 0 (λ(v:List Int) sl ob nx=>⟨(5,.v (.c (.w 1 v.length)))::(6,.any)::xS [1] sl,[(1,w3 v)]++ob,nx⟩)) (hC 22 (λ(v:List Int) sl ob nx=>⟨(5,.v (.c (.w 1 v.length)))::xS [1] sl,[(1,w3 v)]++ob,nx⟩))
def y7(a0:List aU)(a1:Int):Int->Option (cj (Int) (Int))
 |v1=>afW (cond (ltB v1 (a0.length:Int)) (afW (ix a0 v1) λx6=>ς (ltB x6.aO a1)) (ς η)) λ(v5:Bool)=>cond v5 (ς (.next (WR (v1+1)))) (ς (.done v1))
def Gc(a0:List aU)(a1:Int)(a2:Int):Option (List aU):=
 afW (iter (y7 a0 a1) FU 0) λ(v4:Int)=>afW (cond (ltB v4 (a0.length:Int)) (afW (ix a0 v4) λx8=>ς (eqB x8.aO a1)) (ς η)) λ(v7:Bool)=>cond v7 (cond (da 16 (([]:List aU)++a0).length) (afW (ix (([]:List aU)++a0) v4) λx9=>afW (ix (([]:List aU)++a0) v4) λx10=>ς ((([]:List aU)++a0).set (v4).toNat (⟨x10.aO,WR (x9.eo+a2)⟩:aU))) ξ) (cond (eQ a0 0 v4) (cond (eQ a0 v4 a0.length) (cond (da 16 (([]:List aU)++(a0.take (v4).toNat)).length) (cond (da 16 ((([]:List aU)++(a0.take (v4).toNat))++[(⟨a1,a2⟩:aU)]).length) (cond (da 16 (((([]:List aU)++(a0.take (v4).toNat))++[(⟨a1,a2⟩:aU)])++(a0.drop (v4).toNat)).length) (ς (((([]:List aU)++(a0.take (v4).toNat))++[(⟨a1,a2⟩:aU)])++(a0.drop (v4).toNat))) ξ) ξ) ξ) ξ) ξ)
instance sl16Add_c{a0:List aU}{a2:Int}{r:List aU}:FC prog (Gc a0 a1 a2=ς r) 371 [aL (a0.map ci),aI a1,aI a2] [.c (.own 165 2 (r.map ci) r.length)]:=⟨λH=>by
 refine fI func371 ntmps371 ?_
 refine aa H λv4 Hj H=>jB ⟨[(0,.v (.c (.d η (.l (a0.map ci))))),(1,tI a1),(2,tI a2),(7,tI v4)],[],0⟩ ?_ ?_
 .refine iT Hj (λq=>⟨[(0,.v (.c (.d η (.l (a0.map ci))))),(1,tI a1),(2,tI a2),(7,tI q)],[],0⟩) ?_
  rintro v1 o H
  refine ad ?_
  refine aa H λv5 Hj H=>jR ⟨[(0,.v (.c (.d η (.l (a0.map ci))))),(1,tI a1),(2,tI a2),(7,tI v1),(21,tB v5)],[],0⟩ ?_ ?_
  .refine gC Hj ?_ ?_<;>intro H
   .refine aa H λx6 hx6 H=>nG (xdT (enc:=ci) hx6) ?_
    exact ai H
   exact ai H
  refine cC H ?_ ?_<;>intro H
  .exact aN H
  exact aE H
 refine aa H λv7 Hj H=>jR ⟨[(0,.v (.c (.d η (.l (a0.map ci))))),(1,tI a1),(2,tI a2),(7,tI v4),(36,tB v7)],[],0⟩ ?_ ?_
 .refine gC Hj ?_ ?_<;>intro H
  .refine aa H λx8 hx8 H=>nG (xdT (enc:=ci) hx8) ?_
   exact ai H
  exact ai H
 refine cC H ?_ ?_<;>intro H
 .obtain⟨h,H⟩:=rq H
  refine ly rfl (apT (enc:=ci) (ys:=([]:List aU)) (zs:=a0) h) ?_
  refine aW (BJ (enc:=ci) (o:=0)) ?_
  refine aa H λx9 hx9 H=>nA (xwT hx9) ?_
  refine nA (oe (he:=qi _ hx9)) ?_
  refine aa H λx10 hx10 H=>nA (xwT hx10) ?_
  refine sA (soT (enc:=ci) (a':=(⟨x10.aO,WR (x9.eo+a2)⟩:aU)) hx10) ?_
  exact ao H
 refine zI [0,1,2,3,5,6,7,8,10,11,12,4,9,13,14] ?_
 obtain⟨h,H⟩:=rq H
 refine zA (cdhT (enc:=ci) h (λ_=>rfl) rfl rfl rfl) ?_
 obtain⟨h,H⟩:=rq H
 refine zA (cdlT (enc:=ci) h (λ_=>rfl) rfl rfl rfl) ?_
 obtain⟨h,H⟩:=rq H
 refine wA (M8 (enc:=ci) (ys:=([]:List aU)) (zs:=a0.take (v4).toNat) [0] h) ?_
 obtain⟨h,H⟩:=rq H
 refine wA (M8 (enc:=ci) (ys:=(([]:List aU)++(a0.take (v4).toNat))) (zs:=[(⟨a1,a2⟩:aU)]) [2,1] h) ?_
 obtain⟨h,H⟩:=rq H
 refine wA (M8 (enc:=ci) (ys:=((([]:List aU)++(a0.take (v4).toNat))++[(⟨a1,a2⟩:aU)])) (zs:=a0.drop (v4).toNat) [3] h) ?_
 refine tD (ds:=[0,2,3]) (by kernel_rfl) (by kernel_rfl) rfl ?_
 refine wI ?_
 cases H
 exact jL⟩
def A1(a0:ab)(a1:Int):Option (bg×ab):=
 afW (ix a0.aH a1) λx1=>cond (eQ a0.aH 0 a1) (cond (eQ a0.aH (WR (a1+1)) a0.aH.length) (cond (da 176 (([]:List bg)++(a0.aH.take (a1).toNat)).length) (cond (da 176 ((([]:List bg)++(a0.aH.take (a1).toNat))++(a0.aH.drop (WR (a1+1)).toNat)).length) (ς (x1,{a0 with aH:=((([]:List bg)++(a0.aH.take (a1).toNat))++(a0.aH.drop (WR (a1+1)).toNat))})) ξ) ξ) ξ) ξ
instance sl33Take_c{a0:ab}{r:bg×ab}:FCV prog (A1 a0 a1=ς r) 248 (nS a0) [tP 200,tI a1] (nS r.2) (.v (.agg (kM [.t] (pD r.1)))) []:=⟨λH=>by
 refine fV func248 ntmps248 ?_
 refine aa H λx1 hx1 H=>ed (A3 193 (hne:=NY (enc:=fG) hx1)) ?_
 refine nA (xwT hx1) ?_
 refine nA (oea (he:=qi _ hx1)) ?_
 refine zI [0,1,2,3,4,5,6,7,9,10,11,12,13,14,15,8,16,17,18,19] ?_
 obtain⟨hs5,H⟩:=rq H
 refine zA (cwhT (enc:=fG) hs5 (by first|rfl|simp) rfl rfl rfl rfl) ?_
 obtain⟨hs6,H⟩:=rq H
 refine zA (cwlT (enc:=fG) hs6 (by first|rfl|simp) rfl rfl rfl rfl) ?_
 obtain⟨h,H⟩:=rq H
 refine wA (apx (enc:=fG) (ys:=([]:List bg)) (zs:=a0.aH.take (a1).toNat) [212,193] h (hs:=T6 (enc:=fG) hs5 rfl)) ?_
 obtain⟨h,H⟩:=rq H
 refine wA (apx (enc:=fG) (ys:=(([]:List bg)++(a0.aH.take (a1).toNat))) (zs:=a0.aH.drop (WR (a1+1)).toNat) [213,193] h (hs:=O6 (enc:=fG) hs6 (by first|rfl|simp) rfl)) ?_
 refine wA (spx 100410) ?_
 refine tD (ds:=[212,213]) (by kernel_rfl) (by kernel_rfl) rfl ?_
 refine wI ?_
 cases H
 refine dD (Pu 193 214) ?_
 refine dD ((qT 193)) ?_
 exact mC⟩
def rO(a0:ct)(a1:Int):Option Bool:=
 ς (eqB a1 a0.vB)
instance Rf{a0:ct} :FC prog (rO a0 a1=ς r) 367 [.agg (ni a0),aI a1] [.c (.d (.b r))]:=gG func367 ntmps367
def wH(a0:List ah)(a1:Int):Int->Option (cj (Int) (Int))
 |v1=>cond (ltB v1 (a0.length:Int)) (afW (ix a0 v1) λx2=>cond (eqB x2.cH a1) (dn (ς v1)) (ς (.next (WR (v1+1))))) (dn (ς (-1)))
def Ix(a0:List ah)(a1:Int):Option Int:=
 iter (wH a0 a1) FU 0
instance Rq{a0:List ah}{r:Int}:FC prog (Ix a0 a1=ς r) 386 [aL (a0.map bC),aI a1] [.c (.d (.i .i64 r))]:=gG func386 ntmps386 (hl 0 5)
def BA(a0:List Int)(a1:Int):Option Int:=
 cond (ltB a1 (WR (3+(WR (Int.tdiv (a0.length:Int) 12))))) (ς a1) (ς (WR (3+(WR (Int.tdiv (a0.length:Int) 12)))))
instance KE{a0:List Int}{r:Int}:FC prog (BA a0 a1=ς r) 29 [aL (a0.map eU8),aI a1] [.c (.d (.i .i64 r))]:=gG func29 ntmps29
def jk(a0:ag)(a1:Int):(Int×Int)->Option (cj (Int×Int) (Int))
 |(v1,v2)=>afW (cond (ltB v2 (a0.aC.length:Int)) (ς (ltB v2 a1)) (ς η)) λ(v6:Bool)=>cond v6 (afW (ix a0.aC v2) λx7=>ς (.next (WR (v1+(x7.bh.length:Int)),WR (v2+1)))) (ς (.done v1))
def sr(a0:ag)(a1:Int):Option Int:=
 afW (iter (jk a0 a1) FU (0,0)) λ(v5:Int)=>ς v5
instance WV{a0:ag}{r:Int}:FC prog (sr a0 a1=ς r) 44 [.agg (cr a0),aI a1] [.c (.d (.i .i64 r))]:=gG func44 ntmps44 (hm 0 5 6) (he 0 5 6) (hb 12 16)
end Go.AM
