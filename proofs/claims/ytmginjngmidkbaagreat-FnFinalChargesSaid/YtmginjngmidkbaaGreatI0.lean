/- A part. -/
import Derived.Test.YtmginjngmidkbaaGreatG
set_option linter.unusedVariables false
open List renaming replicate->aaf
open Option renaming bind->abU
namespace Go.AM
open Go.Proofs
open Tryz
attribute [local irreducible] AWN NS AWO AWR AWC DR DZ dS gp iter
set_option maxRecDepth 100000
set_option maxHeartbeats 40000000
variable {a1:Int} {r:Bool}
def cf (a0:Int) (a1:Int) (a2:Int):Option Bool:=
 abU (bif leB a1 a0 then(some (leB a0 a2)) else(some false)) λ(v1:Bool)=>some v1
instance iK {a0:Int} {a2:Int} :FC prog (cf a0 a1 a2=some r) 36 [aI a0,aI a1,aI a2] [.c (.d (.b r))]:=gF func36 ntmps36 (hb 10 6)
def kG (a0:List Int):Int->Option (ct (Int) (Bool))
 |v1=>bif ltB v1 (a0.length:Int) then(abU (ix a0 (WR (v1-1))) λx2=>abU (ix a0 v1) λx3=>bif leB x3 x2 then(dn (some false)) else(some (.next (WR (v1+1))))) else(dn (some true))
def oJ (a0:List Int):Option Bool:=
 iter (kG a0) FU 1
instance Fd {a0:List Int} :FC prog (oJ a0=some r) 103 [aL (a0.map eI)] [.c (.d (.b r))]:=gF func103 ntmps103 (hl 0 3)
def oH (a0:am):(Int×Int)->Option (ct (Int×Int) (Int))
 |(v1,v2)=>bif ltB v2 (a0.aj.length:Int) then(abU (ix a0.aj v2) λx5=>some (.next (WR (v1+x5.dW),WR (v2+1)))) else(some (.done v1))
def oG (a0:am):Option Int:=
 abU (iter (oH a0) FU (0,0)) λ(v4:Int)=>some v4
instance Q7 {a0:am} {r:Int}:FC prog (oG a0=some r) 53 [.agg (cT a0)] [.c (.d (.i .i64 r))]:=⟨λH=>by
 refine fI func53 ntmps53 ?_
 refine aa H λv4 Hj H=>jB ⟨[(3,tI v4)],[],0⟩ ?_ ?_
 .refine iT Hj (λq=>⟨[(3,tI q.1),(7,.v (.c (.d false (.l (a0.aj.map bu))))),(8,tI (a0.aj.length:Int)),(9,tI q.2)],[],0⟩) ?_
  rintro⟨v1,v2⟩ o H
  refine ad ?_
  refine cC H ?_ ?_<;>intro H
  .refine aa H λx5 hx5 H=>nA (xdT (enc:=bu) hx5) ?_
   exact aN H
  exact aE H
 cases H
 exact bX⟩
def ji (a0:am) (a1:Int):Int->Option (ct (Int) (Int))
 |v1=>bif ltB v1 (a0.aj.length:Int) then(abU (ix a0.aj v1) λx2=>bif eqB x2.aC a1 then(dn (some v1)) else(some (.next (WR (v1+1))))) else(dn (some (-1)))
def eU (a0:am) (a1:Int):Option Int:=
 iter (ji a0 a1) FU 0
instance rj {a0:am} {r:Int}:FC prog (eU a0 a1=some r) 55 [.agg (cT a0),aI a1] [.c (.d (.i .i64 r))]:=⟨λH=>by
 refine fI func55 ntmps55 ?_
 refine iT H (λq=>⟨[(1,tI a1),(8,.v (.c (.d false (.l (a0.aj.map bu))))),(9,tI (a0.aj.length:Int)),(10,tI q)],[],0⟩) ?_
 rintro v1 o H
 refine ad ?_
 refine cC H ?_ ?_<;>intro H
 .refine aa H λx2 hx2 H=>nA (xdT (enc:=bu) hx2) ?_
  refine cC H ?_ ?_<;>intro H
  .exact aQ H
  exact aN H
 refine aR H λH=>?_
 cases H
 exact bX⟩
def jt (a0:cP):Option Bool:=
 abU (bif leB 0 a0.aC then(bif leB 0 a0.er then(bif leB a0.er a0.cS then(some (leB a0.cS 100000)) else(some false)) else(some false)) else(some false)) λ(v1:Bool)=>some v1
instance Sx {a0:cP} :FC prog (jt a0=some r) 107 [.agg (mf a0)] [.c (.d (.b r))]:=gF func107 ntmps107 (hb 6 2)
def sU (a0:List bV):Int->Option (ct (Int) (Bool))
 |v1=>bif ltB v1 (a0.length:Int) then(abU (ix a0 v1) λx2=>bif ltB 60 (x2.bb.length:Int) then(dn (some false)) else(some (.next (WR (v1+1))))) else(dn (some true))
def tY (a0:List bV):Option Bool:=
 iter (sU a0) FU 0
instance Wz {a0:List bV} :FC prog (tY a0=some r) 171 [aL (a0.map ee)] [.c (.d (.b r))]:=gF func171 ntmps171 (hl 0 7)
def xL (a0:List Int) (a1:List Int):Option Bool:=
 abU (A4 a0 a1) λr1=>some r1
instance Wu {a0:List Int} {a1:List Int} :FC prog (xL a0 a1=some r) 172 [aL (a0.map eU8),aL (a1.map eU8)] [.c (.d (.b r))]:=gF func172 ntmps172
def oN (a0:List ae):(Int×Int)->Option (ct (Int×Int) (Int))
 |(v1,v2)=>bif ltB v2 (a0.length:Int) then(abU (ix a0 v2) λx5=>some (.next (WR (v1+(x5.bb.length:Int)),WR (v2+1)))) else(some (.done v1))
def oL (a0:List ae):Option Int:=
 abU (iter (oN a0) FU (0,0)) λ(v4:Int)=>some v4
instance Ra {a0:List ae} {r:Int}:FC prog (oL a0=some r) 243 [aL (a0.map aM)] [.c (.d (.i .i64 r))]:=gF func243 ntmps243 (hm 0 3 8) (he 0 3 8)
def f5 (a0:List aD):Option (List aD):=
 bif qB 16 (a0.length:Int) (a0.length:Int) then(some (cpL (aaf ((a0.length:Int)).toNat df) a0)) else none
instance CW {a0:List aD} {r:List aD}:FC prog (f5 a0=some r) 108 [aL (a0.map bu)] [.c (.own 115 2 (r.map bu) r.length)]:=⟨λH=>by
 refine fI func108 ntmps108 ?_
 obtain⟨h,H⟩:=rq H
 refine nA (mkT (enc:=bu) (za:=df) h (by rfl)) ?_
 refine eZ rfl (cpT (enc:=bu) (ys:=(aaf ((a0.length:Int)).toNat df)) (zs:=a0) rfl (λ_=>rfl) (by first|rfl|simp) .d rfl rfl rfl rfl rfl) ?_
 refine aW (gA (enc:=bu) (o:=0)) ?_
 cases H
 exact bX⟩
def sb (a0:List Int):Option (List Int):=
 bif qB 8 (a0.length:Int) (a0.length:Int) then(some (cpL (aaf ((a0.length:Int)).toNat (0:Int)) a0)) else none
instance Lt {a0:List Int} {r:List Int}:FC prog (sb a0=some r) 137 [aL (a0.map eI)] [.c (.own 3 1 (r.map eI) r.length)]:=⟨λH=>by
 refine fI func137 ntmps137 ?_
 obtain⟨h,H⟩:=rq H
 refine nA (mkT (enc:=eI) (za:=0) h (by rfl)) ?_
 refine eZ rfl (cpT (enc:=eI) (ys:=(aaf ((a0.length:Int)).toNat (0:Int))) (zs:=a0) rfl (λ_=>rfl) (by first|rfl|simp) .d rfl rfl rfl rfl rfl) ?_
 refine aW (gA (enc:=eI) (o:=0)) ?_
 cases H
 exact bX⟩
def fj (a0:List Int):Option (List Int):=
 bif qB 1 (a0.length:Int) (a0.length:Int) then(some (cpL (aaf ((a0.length:Int)).toNat (0:Int)) a0)) else none
instance gK {a0:List Int} {r:List Int}:FC prog (fj a0=some r) 221 [aL (a0.map eU8)] [.c (.own 5 1 (r.map eU8) r.length)]:=⟨λH=>by
 refine fI func221 ntmps221 ?_
 obtain⟨h,H⟩:=rq H
 refine nA (mkT (enc:=eU8) (za:=0) h (by rfl)) ?_
 refine eZ rfl (cpT (enc:=eU8) (ys:=(aaf ((a0.length:Int)).toNat (0:Int))) (zs:=a0) rfl (λ_=>rfl) (by first|rfl|simp) .d rfl rfl rfl rfl rfl) ?_
 refine aW (gA (enc:=eU8) (o:=0)) ?_
 cases H
 exact bX⟩
def qz (a0:ab) (a1:Int):Option (bS×ab):=
 abU (ix a0.aT a1) λx1=>bif qB 176 0 (a0.aT.length:Int) then(bif eS a0.aT 0 a1 then(bif da 176 ((aaf ((0:Int)).toNat fL)++(a0.aT.take (a1).toNat)).length then(bif eS a0.aT (WR (a1+1)) a0.aT.length then(bif da 176 (((aaf ((0:Int)).toNat fL)++(a0.aT.take (a1).toNat))++(a0.aT.drop (WR (a1+1)).toNat)).length then(some (x1,{a0 with aT:=(((aaf ((0:Int)).toNat fL)++(a0.aT.take (a1).toNat))++(a0.aT.drop (WR (a1+1)).toNat))})) else none) else none) else none) else none) else none
theorem GU {a0:ab} {r:bS×ab} (H:qz a0 a1=some r):FnV prog 143 (nI a0) [tP 200,tI a1] (nI r.2) (.v (.agg (kM [.t] (mN r.1)))) []:=by
 refine fV func143 ntmps143 ?_
 refine aa H λx1 hx1 H=>nA (xwT hx1) ?_
 refine nA (oea (he:=ez _ hx1)) ?_
 obtain⟨h,H⟩:=rq H
 refine nA (mkT (enc:=eb) (za:=fL) h (by rfl)) ?_
 obtain⟨hs15,H⟩:=rq H
 refine nA (Zv (enc:=eb) hs15 (by first|rfl|simp) rfl rfl rfl rfl) ?_
 obtain⟨h,H⟩:=rq H
 refine sA (apT (enc:=eb) (ys:=(aaf ((0:Int)).toNat fL)) (zs:=a0.aT.take (a1).toNat) h (hs:=VU (enc:=eb) hs15 rfl)) ?_
 obtain⟨hs16,H⟩:=rq H
 refine nA (Nh (enc:=eb) hs16 (by first|rfl|simp) rfl rfl rfl rfl) ?_
 obtain⟨h,H⟩:=rq H
 refine sA (apT (enc:=eb) (ys:=((aaf ((0:Int)).toNat fL)++(a0.aT.take (a1).toNat))) (zs:=a0.aT.drop (WR (a1+1)).toNat) h (hs:=MC (enc:=eb) hs16 (by first|rfl|simp) rfl)) ?_
 cases H
 refine bF (MS 193 212) ?_
 exact cg
def ga (a0:List aH):Option (List aH):=
 bif qB 88 (a0.length:Int) (a0.length:Int) then(some (cpL (aaf ((a0.length:Int)).toNat dQ) a0)) else none
instance GS {a0:List aH} {r:List aH}:FC prog (ga a0=some r) 303 [aL (a0.map cZ)] [.c (.own 43 11 (r.map cZ) r.length)]:=⟨λH=>by
 refine fI func303 ntmps303 ?_
 obtain⟨h,H⟩:=rq H
 refine nA (mkT (enc:=cZ) (za:=dQ) h (by rfl)) ?_
 refine eZ rfl (cpT (enc:=cZ) (ys:=(aaf ((a0.length:Int)).toNat dQ)) (zs:=a0) rfl (λ_=>rfl) (by first|rfl|simp) .d rfl rfl rfl rfl rfl) ?_
 refine aW (gA (enc:=cZ) (o:=0)) ?_
 cases H
 exact bX⟩
def pK (a0:cE) (a1:Int):Option Bool:=
 some (eqB a1 a0.yI)
instance NA {a0:cE} :FC prog (pK a0 a1=some r) 299 [.agg (me a0),aI a1] [.c (.d (.b r))]:=gF func299 ntmps299
def oF:Option fJ:=
 some (⟨[1,2]⟩:fJ)
instance M1 {r:fJ}:FC prog (oF=some r) 276 [] [.agg [.own 3 1 (r.Steps.map eI) r.Steps.length]]:=gF func276 ntmps276
def uQ (a0:Int):Option fJ:=
 some (⟨[1,3,a0]⟩:fJ)
instance Sy {a0:Int} {r:fJ}:FC prog (uQ a0=some r) 134 [aI a0] [.agg [.own 3 1 (r.Steps.map eI) r.Steps.length]]:=gF func134 ntmps134
def kB (a0:List Int):(Int×List Int)->Option (ct (Int×List Int) (List Int))
 |(v1,v2)=>bif ltB v1 (a0.length:Int) then(abU (ix a0 v1) λx5=>bif da 8 (v2++[WR (x5)]).length then(some (.next (WR (v1+1),(v2++[WR (x5)])))) else none) else(some (.done v2))
def rr (a0:List Int):Option (List Int):=
 bif qB 8 0 (WR ((a0.length:Int)+1)) then(bif da 8 ((aaf ((0:Int)).toNat (0:Int))++[(a0.length:Int)]).length then(abU (iter (kB a0) FU (0,((aaf ((0:Int)).toNat (0:Int))++[(a0.length:Int)]))) λ(v4:List Int)=>some v4) else none) else none
instance EQ {a0:List Int} {r:List Int}:FC prog (rr a0=some r) 331 [aL (a0.map eU8)] [.c (.own 3 1 (r.map eI) r.length)]:=⟨λH=>by
 refine fI func331 ntmps331 ?_
 obtain⟨h,H⟩:=rq H
 refine nA (mkT (enc:=eI) (za:=0) h (by rfl)) ?_
 obtain⟨h,H⟩:=rq H
 refine sA (apT (enc:=eI) (ys:=(aaf ((0:Int)).toNat (0:Int))) (zs:=[(a0.length:Int)]) h) ?_
 refine aa H λv4 Hj H=>jB ⟨[(3,.v (.c (.w 0 v4.length)))],[(0,w3 v4)],1⟩ ?_ ?_
 .refine iT Hj (λq=>⟨[(3,.v (.c (.w 0 q.2.length))),(15,.v (.c (.d false (.l (a0.map eU8))))),(16,tI (a0.length:Int)),(17,tI q.1)],[(0,w3 q.2)],1⟩) ?_
  rintro⟨v1,v2⟩ o H
  refine ad ?_
  refine cC H ?_ ?_<;>intro H
  .refine aa H λx5 hx5 H=>nA (xdT (enc:=eU8) hx5) ?_
   obtain⟨h,H⟩:=rq H
   refine sA (apT (enc:=eI) (ys:=v2) (zs:=[WR (x5)]) h) ?_
   exact aN H
  exact aE H
 cases H
 exact bX⟩
def qc (a0:aP) (a1:Int):Int->Option (ct (Int) (Bool))
 |v1=>bif ltB v1 (a0.aK.length:Int) then(abU (ix a0.aK v1) λx2=>bif eqB x2.c8 a1 then(dn (some true)) else(some (.next (WR (v1+1))))) else(dn (some false))
def Ag (a0:aP) (a1:Int):Option Bool:=
 iter (qc a0 a1) FU 0
instance Ju {a0:aP} :FC prog (Ag a0 a1=some r) 304 [.agg (hU a0),aI a1] [.c (.d (.b r))]:=⟨λH=>by
 refine fI func304 ntmps304 ?_
 refine iT H (λq=>⟨[(1,tI a1),(8,.v (.c (.d false (.l (a0.aK.map aM))))),(9,tI (a0.aK.length:Int)),(10,tI q)],[],0⟩) ?_
 rintro v1 o H
 refine ad ?_
 refine cC H ?_ ?_<;>intro H
 .refine aa H λx2 hx2 H=>nA (xdT (enc:=aM) hx2) ?_
  refine cC H ?_ ?_<;>intro H
  .exact aQ H
  exact aN H
 refine aR H λH=>?_
 cases H
 exact bX⟩
def mS (a0:aJ):Option aH:=
 some {dQ with bh:=1,bg:=a0.bg}
instance SC {a0:aJ} {r:aH}:FC prog (mS a0=some r) 234 [.agg (c9 a0)] [.agg (qM [] (dt r))]:=gF func234 ntmps234
def jU (a0:am) (a1:Int):Option am:=
 bif eS a0.aj 0 a1 then(bif da 16 (([]:List aD)++(a0.aj.take (a1).toNat)).length then(bif eS a0.aj (WR (a1+1)) a0.aj.length then(bif da 16 ((([]:List aD)++(a0.aj.take (a1).toNat))++(a0.aj.drop (WR (a1+1)).toNat)).length then(some {a0 with aj:=((([]:List aD)++(a0.aj.take (a1).toNat))++(a0.aj.drop (WR (a1+1)).toNat))}) else none) else none) else none) else none
instance Af {a0:am} {r:am}:FC prog (jU a0 a1=some r) 110 [.agg (cT a0),aI a1] [.agg (qM [.o] (cq r))]:=⟨λH=>by
 refine fI func110 ntmps110 ?_
 obtain⟨h,H⟩:=rq H
 refine nA (WV (enc:=bu) h (λ_=>rfl) rfl rfl rfl) ?_
 obtain⟨h,H⟩:=rq H
 refine eZ rfl (apT (enc:=bu) (ys:=([]:List aD)) (zs:=a0.aj.take (a1).toNat) h) ?_
 refine aW (gA (enc:=bu) (o:=2)) ?_
 obtain⟨h,H⟩:=rq H
 refine nA (QM (enc:=bu) h (λ_=>rfl) rfl rfl rfl) ?_
 obtain⟨h,H⟩:=rq H
 refine eZ rfl (apT (enc:=bu) (ys:=(([]:List aD)++(a0.aj.take (a1).toNat))) (zs:=a0.aj.drop (WR (a1+1)).toNat) h) ?_
 refine aW (gA (enc:=bu) (o:=2)) ?_
 cases H
 exact bX⟩
def Q4 (a0:Int) (a1:Int):Option Int:=
 bif ltB a1 a0 then(some a1) else(some a0)
instance Ny {a0:Int} {r:Int}:FC prog (Q4 a0 a1=some r) 214 [aI a0,aI a1] [.c (.d (.i .i64 r))]:=gF func214 ntmps214
def Do (a0:aS) (a1:Int):(Int×List Int)->Option (ct (Int×List Int) (List Int))
 |(v1,v2)=>bif ltB v1 (a0.a8.length:Int) then(abU (ix a0.a8 v1) λx6=>abU (bif eqB x6.f6 a1 then(bif da 8 (v2++[v1]).length then(some (v2++[v1])) else none) else(some v2)) λ(v7:List Int)=>some (.next (WR (v1+1),v7))) else(some (.done v2))
def wc (a0:aS) (a1:Int):Option (List Int):=
 abU (iter (Do a0 a1) FU (0,([]:List Int))) λ(v5:List Int)=>some v5
instance ER {a0:aS} {r:List Int}:FC prog (wc a0 a1=some r) 360 [.agg (gu a0),aI a1] [.c (.own 3 1 (r.map eI) r.length)]:=⟨λH=>by
 refine fI func360 ntmps360 ?_
 refine aa H λv5 Hj H=>jB ⟨[(5,.v (.c (.w 1 v5.length)))],[(1,w3 v5)],2⟩ ?_ ?_
 .refine iT Hj (λq=>⟨[(1,tI a1),(5,.v (.c (.w 1 q.2.length))),(10,.v (.c (.d false (.l (a0.a8.map dK))))),(11,tI (a0.a8.length:Int)),(12,tI q.1)],[(1,w3 q.2)],2⟩) ?_
  rintro⟨v1,v2⟩ o H
  refine ad ?_
  refine cC H ?_ ?_<;>intro H
  .refine aa H λx6 hx6 H=>nA (xdT (enc:=dK) hx6) ?_
   refine aa H λv7 Hj H=>jA ⟨[(1,tI a1),(5,.v (.c (.w 1 v7.length))),(10,.v (.c (.d false (.l (a0.a8.map dK))))),(11,tI (a0.a8.length:Int)),(12,tI v1)],[(1,w3 v7)],2⟩ ?_ ?_
   .refine cC Hj ?_ ?_<;>intro H
    .obtain⟨h,H⟩:=rq H
     refine sA (apT (enc:=eI) (ys:=v2) (zs:=[v1]) h) ?_
     exact ai H
    exact ai H
   exact aN H
  exact aE H
 cases H
 exact bX⟩
def Xs (a0:Int) (a1:Int):Option Int:=
 bif ltB a0 a1 then(some a1) else(some a0)
instance iMax_c {a0:Int} {r:Int}:FC prog (Xs a0 a1=some r) 215 [aI a0,aI a1] [.c (.d (.i .i64 r))]:=gF func215 ntmps215
def jf (a0:ah):Option Int:=
 some (WR ((WR (a0.aw.bB-1))-(a0.aw.aA.length:Int)))
instance Jn {a0:ah} {r:Int}:FC prog (jf a0=some r) 57 [.agg (bZ a0)] [.c (.d (.i .i64 r))]:=gF func57 ntmps57
end Go.AM
