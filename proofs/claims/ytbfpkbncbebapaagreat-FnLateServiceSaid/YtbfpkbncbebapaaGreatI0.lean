/- A part. -/
import Derived.Test.YtbfpkbncbebapaaGreatG
set_option linter.unusedVariables false
open List renaming replicate->YV
open Option renaming bind->aaC
namespace Go.AM
open Go.Proofs
open Tryz
attribute [local irreducible] AWN NS AWO AWR AWC DR dO ip
set_option maxRecDepth 100000
set_option maxHeartbeats 40000000
def bE (a0:Int) (a1:Int) (a2:Int):Option Bool:=
 aaC (bif leB a1 a0 then(some (leB a0 a2)) else(some false)) λ(v1:Bool)=>some v1
theorem bA {a0:Int} {a1:Int} {a2:Int} {r:Bool} (H:bE a0 a1 a2=some r):Fn prog 57 [aI a0,aI a1,aI a2] [.c (.d (.b r))]:=by
 refine fI func57 ntmps57 ?_
 refine aa H λv1 Hj H=>jR ⟨[(6,tB v1)],[],0⟩ ?_ ?_
 .refine gC Hj ?_ ?_<;>intro H
  .exact ai H
  exact ai H
 exact ao H
def jS (a0:List Int):Int->Option (cK (Int) (Bool))
 |v1=>bif ltB v1 (a0.length:Int) then(aaC (ix a0 (WR (v1-1))) λx2=>aaC (ix a0 v1) λx3=>bif leB x3 x2 then(dn (some false)) else(some (.next (WR (v1+1))))) else(dn (some true))
def nK (a0:List Int):Option Bool:=
 iter (jS a0) FU 1
theorem wL {a0:List Int} {r:Bool} (H:nK a0=some r):Fn prog 126 [aL (a0.map eI)] [.c (.d (.b r))]:=by
 refine fI func126 ntmps126 ?_
 refine iT H (λq=>⟨[(0,.v (.c (.d false (.l (a0.map eI))))),(3,tI q)],[],0⟩) ?_
 rintro v1 o H
 try dsimp only
 refine wI ?_
 refine cC H ?_ ?_<;>intro H
 .refine dI ?_
  refine aa H λx2 hx2 H=>dA (xdT (enc:=eI) hx2) ?_
  refine aa H λx3 hx3 H=>dA (xdT (enc:=eI) hx3) ?_
  refine wI ?_
  refine cC H ?_ ?_<;>intro H
  .obtain⟨r0,Hd,rfl⟩:=dnE H
   refine mR (λhq=>?_)
   have H:=Hd.trans (congrArg some hq)
   refine wI ?_
   exact ao H
  cases H
  refine eA ?_
  exact wo
 obtain⟨r0,Hd,rfl⟩:=dnE H
 refine et (λhq=>?_)
 have H:=Hd.trans (congrArg some hq)
 refine wI ?_
 exact ao H
def nJ (a0:av):(Int×Int)->Option (cK (Int×Int) (Int))
 |(v1,v2)=>bif ltB v2 (a0.ay.length:Int) then(aaC (ix a0.ay v2) λx5=>some (.next (WR (v1+x5.ei),WR (v2+1)))) else(some (.done v1))
def nH (a0:av):Option Int:=
 aaC (iter (nJ a0) FU (0,0)) λ(v4:Int)=>some v4
theorem Bd {a0:av} {r:Int} (H:nH a0=some r):Fn prog 87 [.agg (dB a0)] [.c (.d (.i .i64 r))]:=by
 refine fI func87 ntmps87 ?_
 refine aa H λv4 Hj H=>jB ⟨[(3,tI v4)],[],0⟩ ?_ ?_
 .refine iT Hj (λq=>⟨[(3,tI q.1),(7,.v (.c (.d false (.l (a0.ay.map bQ))))),(8,tI (a0.ay.length:Int)),(9,tI q.2)],[],0⟩) ?_
  rintro⟨v1,v2⟩ o H
  try dsimp only
  refine wI ?_
  refine cC H ?_ ?_<;>intro H
  .refine aa H λx5 hx5 H=>nA (xdT (enc:=bQ) hx5) ?_
   cases H
   refine eA ?_
   exact wo
  cases H
  refine et (λhq=>?_)
  cases hq
  refine wI ?_
  exact wo
 exact ao H
def iK (a0:av) (a1:Int):Int->Option (cK (Int) (Int))
 |v1=>bif ltB v1 (a0.ay.length:Int) then(aaC (ix a0.ay v1) λx2=>bif eqB x2.aC a1 then(dn (some v1)) else(some (.next (WR (v1+1))))) else(dn (some (-1)))
def fO (a0:av) (a1:Int):Option Int:=
 iter (iK a0 a1) FU 0
theorem lJ {a0:av} {a1:Int} {r:Int} (H:fO a0 a1=some r):Fn prog 89 [.agg (dB a0),aI a1] [.c (.d (.i .i64 r))]:=by
 refine fI func89 ntmps89 ?_
 refine iT H (λq=>⟨[(1,tI a1),(8,.v (.c (.d false (.l (a0.ay.map bQ))))),(9,tI (a0.ay.length:Int)),(10,tI q)],[],0⟩) ?_
 rintro v1 o H
 try dsimp only
 refine wI ?_
 refine cC H ?_ ?_<;>intro H
 .refine aa H λx2 hx2 H=>nA (xdT (enc:=bQ) hx2) ?_
  refine cC H ?_ ?_<;>intro H
  .obtain⟨r0,Hd,rfl⟩:=dnE H
   refine mR (λhq=>?_)
   have H:=Hd.trans (congrArg some hq)
   refine wI ?_
   exact ao H
  cases H
  refine eA ?_
  exact wo
 obtain⟨r0,Hd,rfl⟩:=dnE H
 refine et (λhq=>?_)
 have H:=Hd.trans (congrArg some hq)
 refine wI ?_
 exact ao H
def iV (a0:dh):Option Bool:=
 aaC (bif leB 0 a0.aC then(bif leB 0 a0.d4 then(bif leB a0.d4 a0.cB then(some (leB a0.cB 100000)) else(some false)) else(some false)) else(some false)) λ(v1:Bool)=>some v1
theorem mn {a0:dh} {r:Bool} (H:iV a0=some r):Fn prog 155 [.agg (sj a0)] [.c (.d (.b r))]:=by
 refine fI func155 ntmps155 ?_
 refine aa H λv1 Hj H=>jR ⟨[(2,tB v1)],[],0⟩ ?_ ?_
 .refine gC Hj ?_ ?_<;>intro H
  .refine gC H ?_ ?_<;>intro H
   .refine gC H ?_ ?_<;>intro H
    .exact ai H
    exact ai H
   exact ai H
  exact ai H
 exact ao H
def rA (a0:List bm):Int->Option (cK (Int) (Bool))
 |v1=>bif ltB v1 (a0.length:Int) then(aaC (ix a0 v1) λx2=>bif ltB 60 (x2.a8.length:Int) then(dn (some false)) else(some (.next (WR (v1+1))))) else(dn (some true))
def sM (a0:List bm):Option Bool:=
 iter (rA a0) FU 0
theorem yd {a0:List bm} {r:Bool} (H:sM a0=some r):Fn prog 198 [aL (a0.map cg)] [.c (.d (.b r))]:=by
 refine fI func198 ntmps198 ?_
 refine iT H (λq=>⟨[(5,.v (.c (.d false (.l (a0.map cg))))),(6,tI (a0.length:Int)),(7,tI q)],[],0⟩) ?_
 rintro v1 o H
 try dsimp only
 refine wI ?_
 refine cC H ?_ ?_<;>intro H
 .refine aa H λx2 hx2 H=>nA (xdT (enc:=cg) hx2) ?_
  refine cC H ?_ ?_<;>intro H
  .obtain⟨r0,Hd,rfl⟩:=dnE H
   refine mR (λhq=>?_)
   have H:=Hd.trans (congrArg some hq)
   refine wI ?_
   exact ao H
  cases H
  refine eA ?_
  exact wo
 obtain⟨r0,Hd,rfl⟩:=dnE H
 refine et (λhq=>?_)
 have H:=Hd.trans (congrArg some hq)
 refine wI ?_
 exact ao H
def sx (a0:List Int) (a1:List Int):Option Bool:=
 aaC (zu a0 a1) λr1=>some r1
theorem ya {a0:List Int} {a1:List Int} {r:Bool} (H:sx a0 a1=some r):Fn prog 199 [aL (a0.map eU8),aL (a1.map eU8)] [.c (.d (.b r))]:=by
 refine fI func199 ntmps199 ?_
 refine aa H λr1 q1 H=>nA (ca (hF:=DJ q1)) ?_
 exact ao H
def nM (a0:List an):(Int×Int)->Option (cK (Int×Int) (Int))
 |(v1,v2)=>bif ltB v2 (a0.length:Int) then(aaC (ix a0 v2) λx5=>some (.next (WR (v1+(x5.a8.length:Int)),WR (v2+1)))) else(some (.done v1))
def nL (a0:List an):Option Int:=
 aaC (iter (nM a0) FU (0,0)) λ(v4:Int)=>some v4
theorem Be {a0:List an} {r:Int} (H:nL a0=some r):Fn prog 263 [aL (a0.map aN)] [.c (.d (.i .i64 r))]:=by
 refine fI func263 ntmps263 ?_
 refine aa H λv4 Hj H=>jB ⟨[(3,tI v4)],[],0⟩ ?_ ?_
 .refine iT Hj (λq=>⟨[(3,tI q.1),(6,.v (.c (.d false (.l (a0.map aN))))),(7,tI (a0.length:Int)),(8,tI q.2)],[],0⟩) ?_
  rintro⟨v1,v2⟩ o H
  try dsimp only
  refine wI ?_
  refine cC H ?_ ?_<;>intro H
  .refine aa H λx5 hx5 H=>nA (xdT (enc:=aN) hx5) ?_
   cases H
   refine eA ?_
   exact wo
  cases H
  refine et (λhq=>?_)
  cases hq
  refine wI ?_
  exact wo
 exact ao H
def qI (a0:List Int):Option (List Int):=
 bif pD 8 (a0.length:Int) (a0.length:Int) then(some (cpL (YV ((a0.length:Int)).toNat (0:Int)) a0)) else none
theorem BJ {a0:List Int} {r:List Int} (H:qI a0=some r):Fn prog 176 [aL (a0.map eI)] [.c (.own 3 1 (r.map eI) r.length)]:=by
 refine fI func176 ntmps176 ?_
 obtain⟨h,H⟩:=rq H
 refine nA (mkT (enc:=eI) (za:=0) h (by rfl)) ?_
 refine fK rfl (cpT (enc:=eI) (ys:=(YV ((a0.length:Int)).toNat (0:Int))) (zs:=a0) rfl (λ_=>rfl) (by first|rfl|simp) .d rfl rfl rfl rfl rfl) ?_
 refine aW (ki (enc:=eI) (o:=0)) ?_
 exact ao H
def eK (a0:List Int):Option (List Int):=
 bif pD 1 (a0.length:Int) (a0.length:Int) then(some (cpL (YV ((a0.length:Int)).toNat (0:Int)) a0)) else none
theorem gq {a0:List Int} {r:List Int} (H:eK a0=some r):Fn prog 187 [aL (a0.map eU8)] [.c (.own 5 1 (r.map eU8) r.length)]:=by
 refine fI func187 ntmps187 ?_
 obtain⟨h,H⟩:=rq H
 refine nA (mkT (enc:=eU8) (za:=0) h (by rfl)) ?_
 refine fK rfl (cpT (enc:=eU8) (ys:=(YV ((a0.length:Int)).toNat (0:Int))) (zs:=a0) rfl (λ_=>rfl) (by first|rfl|simp) .d rfl rfl rfl rfl rfl) ?_
 refine aW (ki (enc:=eU8) (o:=0)) ?_
 exact ao H
def fH (a0:List aY):Option (List aY):=
 bif pD 16 (a0.length:Int) (a0.length:Int) then(some (cpL (YV ((a0.length:Int)).toNat cI) a0)) else none
theorem pw {a0:List aY} {r:List aY} (H:fH a0=some r):Fn prog 156 [aL (a0.map bQ)] [.c (.own 132 2 (r.map bQ) r.length)]:=by
 refine fI func156 ntmps156 ?_
 obtain⟨h,H⟩:=rq H
 refine nA (mkT (enc:=bQ) (za:=cI) h (by rfl)) ?_
 refine fK rfl (cpT (enc:=bQ) (ys:=(YV ((a0.length:Int)).toNat cI)) (zs:=a0) rfl (λ_=>rfl) (by first|rfl|simp) .d rfl rfl rfl rfl rfl) ?_
 refine aW (ki (enc:=bQ) (o:=0)) ?_
 exact ao H
def fN (a0:List aR):Option (List aR):=
 bif pD 88 (a0.length:Int) (a0.length:Int) then(some (cpL (YV ((a0.length:Int)).toNat fG) a0)) else none
theorem lW {a0:List aR} {r:List aR} (H:fN a0=some r):Fn prog 278 [aL (a0.map dY)] [.c (.own 42 11 (r.map dY) r.length)]:=by
 refine fI func278 ntmps278 ?_
 obtain⟨h,H⟩:=rq H
 refine nA (mkT (enc:=dY) (za:=fG) h (by rfl)) ?_
 refine fK rfl (cpT (enc:=dY) (ys:=(YV ((a0.length:Int)).toNat fG)) (zs:=a0) rfl (λ_=>rfl) (by first|rfl|simp) .d rfl rfl rfl rfl rfl) ?_
 refine aW (ki (enc:=dY) (o:=0)) ?_
 exact ao H
def lV (a0:aw):Option aR:=
 some {fG with aS:=1,aE:=a0.aE}
theorem vG {a0:aw} {r:aR} (H:lV a0=some r):Fn prog 223 [.agg (dq a0)] [.agg (qM [] (ig r))]:=by
 refine fI func223 ntmps223 ?_
 exact ao H
def nE:Option kJ:=
 some (⟨[1,2]⟩:kJ)
theorem xP {r:kJ} (H:nE=some r):Fn prog 308 [] [.agg [.own 3 1 (r.Steps.map eI) r.Steps.length]]:=by
 refine fI func308 ntmps308 ?_
 cases H
 refine tQ (wB 1 ([1,2].length)) ?_
 exact ku
def lB (a0:av) (a1:Int):Option av:=
 bif it a0.ay 0 a1 then(bif em 16 (([]:List aY)++(a0.ay.take (a1).toNat)).length then(bif it a0.ay (WR (a1+1)) a0.ay.length then(bif em 16 ((([]:List aY)++(a0.ay.take (a1).toNat))++(a0.ay.drop (WR (a1+1)).toNat)).length then(some {a0 with ay:=((([]:List aY)++(a0.ay.take (a1).toNat))++(a0.ay.drop (WR (a1+1)).toNat))}) else none) else none) else none) else none
theorem yL {a0:av} {a1:Int} {r:av} (H:lB a0 a1=some r):Fn prog 158 [.agg (dB a0),aI a1] [.agg (qM [.o] (cT r))]:=by
 refine fI func158 ntmps158 ?_
 obtain⟨h,H⟩:=rq H
 refine nA (Xh (enc:=bQ) h (λ_=>rfl) rfl rfl rfl) ?_
 obtain⟨h,H⟩:=rq H
 refine fK rfl (apT (enc:=bQ) (ys:=([]:List aY)) (zs:=a0.ay.take (a1).toNat) h) ?_
 refine aW (ki (enc:=bQ) (o:=2)) ?_
 obtain⟨h,H⟩:=rq H
 refine nA (cdlT (enc:=bQ) h (λ_=>rfl) rfl rfl rfl) ?_
 obtain⟨h,H⟩:=rq H
 refine fK rfl (apT (enc:=bQ) (ys:=(([]:List aY)++(a0.ay.take (a1).toNat))) (zs:=a0.ay.drop (WR (a1+1)).toNat) h) ?_
 refine aW (ki (enc:=bQ) (o:=2)) ?_
 exact ao H
def Md (a0:Int) (a1:Int):Option Int:=
 bif ltB a1 a0 then(some a1) else(some a0)
theorem HQ {a0:Int} {a1:Int} {r:Int} (H:Md a0 a1=some r):Fn prog 225 [aI a0,aI a1] [.c (.d (.i .i64 r))]:=by
 refine fI func225 ntmps225 ?_
 refine cC H ?_ ?_<;>intro H
 .exact ao H
 exact ao H
def Cg (a0:aU) (a1:Int):(Int×List Int)->Option (cK (Int×List Int) (List Int))
 |(v1,v2)=>bif ltB v1 (a0.aZ.length:Int) then(aaC (ix a0.aZ v1) λx6=>aaC (bif eqB x6.fJ a1 then(bif em 8 (v2++[v1]).length then(some (v2++[v1])) else none) else(some v2)) λ(v7:List Int)=>some (.next (WR (v1+1),v7))) else(some (.done v2))
def uQ (a0:aU) (a1:Int):Option (List Int):=
 aaC (iter (Cg a0 a1) FU (0,([]:List Int))) λ(v5:List Int)=>some v5
theorem DN {a0:aU} {a1:Int} {r:List Int} (H:uQ a0 a1=some r):Fn prog 353 [.agg (lq a0),aI a1] [.c (.own 3 1 (r.map eI) r.length)]:=by
 refine fI func353 ntmps353 ?_
 refine aa H λv5 Hj H=>jB ⟨[(5,.v (.c (.w 1 v5.length)))],[(1,w3 v5)],2⟩ ?_ ?_
 .refine iT Hj (λq=>⟨[(1,tI a1),(5,.v (.c (.w 1 q.2.length))),(10,.v (.c (.d false (.l (a0.aZ.map dL))))),(11,tI (a0.aZ.length:Int)),(12,tI q.1)],[(1,w3 q.2)],2⟩) ?_
  rintro⟨v1,v2⟩ o H
  try dsimp only
  refine wI ?_
  refine cC H ?_ ?_<;>intro H
  .refine aa H λx6 hx6 H=>nA (xdT (enc:=dL) hx6) ?_
   refine aa H λv7 Hj H=>jA ⟨[(1,tI a1),(5,.v (.c (.w 1 v7.length))),(10,.v (.c (.d false (.l (a0.aZ.map dL))))),(11,tI (a0.aZ.length:Int)),(12,tI v1)],[(1,w3 v7)],2⟩ ?_ ?_
   .refine cC Hj ?_ ?_<;>intro H
    .obtain⟨h,H⟩:=rq H
     refine sA (apT (enc:=eI) (ys:=v2) (zs:=[v1]) h) ?_
     exact ai H
    exact ai H
   cases H
   refine eA ?_
   exact wo
  cases H
  refine et (λhq=>?_)
  cases hq
  refine wI ?_
  exact wo
 exact ao H
def tl (a0:Int):Option kJ:=
 some (⟨[1,3,a0]⟩:kJ)
theorem Cj {a0:Int} {r:kJ} (H:tl a0=some r):Fn prog 173 [aI a0] [.agg [.own 3 1 (r.Steps.map eI) r.Steps.length]]:=by
 refine fI func173 ntmps173 ?_
 cases H
 refine tQ (wB 1 ([1,3,a0].length)) ?_
 exact ku
def jN (a0:List Int):(Int×List Int)->Option (cK (Int×List Int) (List Int))
 |(v1,v2)=>bif ltB v1 (a0.length:Int) then(aaC (ix a0 v1) λx5=>bif em 8 (v2++[WR (x5)]).length then(some (.next (WR (v1+1),(v2++[WR (x5)])))) else none) else(some (.done v2))
def qp (a0:List Int):Option (List Int):=
 bif pD 8 0 (WR ((a0.length:Int)+1)) then(bif em 8 ((YV ((0:Int)).toNat (0:Int))++[(a0.length:Int)]).length then(aaC (iter (jN a0) FU (0,((YV ((0:Int)).toNat (0:Int))++[(a0.length:Int)]))) λ(v4:List Int)=>some v4) else none) else none
theorem DM {a0:List Int} {r:List Int} (H:qp a0=some r):Fn prog 351 [aL (a0.map eU8)] [.c (.own 3 1 (r.map eI) r.length)]:=by
 refine fI func351 ntmps351 ?_
 obtain⟨h,H⟩:=rq H
 refine nA (mkT (enc:=eI) (za:=0) h (by rfl)) ?_
 obtain⟨h,H⟩:=rq H
 refine sA (apT (enc:=eI) (ys:=(YV ((0:Int)).toNat (0:Int))) (zs:=[(a0.length:Int)]) h) ?_
 refine aa H λv4 Hj H=>jB ⟨[(3,.v (.c (.w 0 v4.length)))],[(0,w3 v4)],1⟩ ?_ ?_
 .refine iT Hj (λq=>⟨[(3,.v (.c (.w 0 q.2.length))),(15,.v (.c (.d false (.l (a0.map eU8))))),(16,tI (a0.length:Int)),(17,tI q.1)],[(0,w3 q.2)],1⟩) ?_
  rintro⟨v1,v2⟩ o H
  try dsimp only
  refine wI ?_
  refine cC H ?_ ?_<;>intro H
  .refine aa H λx5 hx5 H=>nA (xdT (enc:=eU8) hx5) ?_
   obtain⟨h,H⟩:=rq H
   refine sA (apT (enc:=eI) (ys:=v2) (zs:=[WR (x5)]) h) ?_
   cases H
   refine eA ?_
   exact wo
  cases H
  refine et (λhq=>?_)
  cases hq
  refine wI ?_
  exact wo
 exact ao H
def Sq (a0:Int) (a1:Int):Option Int:=
 bif ltB a0 a1 then(some a1) else(some a0)
theorem Mc {a0:Int} {a1:Int} {r:Int} (H:Sq a0 a1=some r):Fn prog 232 [aI a0,aI a1] [.c (.d (.i .i64 r))]:=by
 refine fI func232 ntmps232 ?_
 refine cC H ?_ ?_<;>intro H
 .exact ao H
 exact ao H
def pA (a0:ab) (a1:Int):Option (a9×ab):=
 aaC (ix a0.aA a1) λx1=>bif pD 176 0 (a0.aA.length:Int) then(bif it a0.aA 0 a1 then(bif em 176 ((YV ((0:Int)).toNat bU)++(a0.aA.take (a1).toNat)).length then(bif it a0.aA (WR (a1+1)) a0.aA.length then(bif em 176 (((YV ((0:Int)).toNat bU)++(a0.aA.take (a1).toNat))++(a0.aA.drop (WR (a1+1)).toNat)).length then(some (x1,{a0 with aA:=(((YV ((0:Int)).toNat bU)++(a0.aA.take (a1).toNat))++(a0.aA.drop (WR (a1+1)).toNat))})) else none) else none) else none) else none) else none
theorem Fq {a0:ab} {a1:Int} {r:a9×ab} (H:pA a0 a1=some r):FnV prog 179 (nI a0) [tP 200,tI a1] (nI r.2) (.v (.agg (kM [.t] (tV r.1)))) []:=by
 refine fV func179 ntmps179 ?_
 refine aa H λx1 hx1 H=>nA (xwT hx1) ?_
 refine nA (oea (he:=eU _ hx1)) ?_
 obtain⟨h,H⟩:=rq H
 refine nA (mkT (enc:=eH) (za:=bU) h (by rfl)) ?_
 obtain⟨hs19,H⟩:=rq H
 refine nA (cwhT (enc:=eH) hs19 (by first|rfl|simp) rfl rfl rfl rfl) ?_
 obtain⟨h,H⟩:=rq H
 refine sA (apT (enc:=eH) (ys:=(YV ((0:Int)).toNat bU)) (zs:=a0.aA.take (a1).toNat) h (hs:=srcSh (enc:=eH) hs19 rfl)) ?_
 obtain⟨hs20,H⟩:=rq H
 refine nA (Rv (enc:=eH) hs20 (by first|rfl|simp) rfl rfl rfl rfl) ?_
 obtain⟨h,H⟩:=rq H
 refine sA (apT (enc:=eH) (ys:=((YV ((0:Int)).toNat bU)++(a0.aA.take (a1).toNat))) (zs:=a0.aA.drop (WR (a1+1)).toNat) h (hs:=Uf (enc:=eH) hs20 (by first|rfl|simp) rfl)) ?_
 cases H
 refine bO (UI 193 212) ?_
 exact cV
def om (a0:dH) (a1:Int):Option Bool:=
 some (eqB a1 a0.xW)
theorem yJ {a0:dH} {a1:Int} {r:Bool} (H:om a0 a1=some r):Fn prog 328 [.agg (uP a0),aI a1] [.c (.d (.b r))]:=by
 refine fI func328 ntmps328 ?_
 exact ao H
def oV (a0:aX) (a1:Int):Int->Option (cK (Int) (Bool))
 |v1=>bif ltB v1 (a0.aO.length:Int) then(aaC (ix a0.aO v1) λx2=>bif eqB x2.cQ a1 then(dn (some true)) else(some (.next (WR (v1+1))))) else(dn (some false))
def yM (a0:aX) (a1:Int):Option Bool:=
 iter (oV a0 a1) FU 0
theorem HU {a0:aX} {a1:Int} {r:Bool} (H:yM a0 a1=some r):Fn prog 332 [.agg (jM a0),aI a1] [.c (.d (.b r))]:=by
 refine fI func332 ntmps332 ?_
 refine iT H (λq=>⟨[(1,tI a1),(8,.v (.c (.d false (.l (a0.aO.map aN))))),(9,tI (a0.aO.length:Int)),(10,tI q)],[],0⟩) ?_
 rintro v1 o H
 try dsimp only
 refine wI ?_
 refine cC H ?_ ?_<;>intro H
 .refine aa H λx2 hx2 H=>nA (xdT (enc:=aN) hx2) ?_
  refine cC H ?_ ?_<;>intro H
  .obtain⟨r0,Hd,rfl⟩:=dnE H
   refine mR (λhq=>?_)
   have H:=Hd.trans (congrArg some hq)
   refine wI ?_
   exact ao H
  cases H
  refine eA ?_
  exact wo
 obtain⟨r0,Hd,rfl⟩:=dnE H
 refine et (λhq=>?_)
 have H:=Hd.trans (congrArg some hq)
 refine wI ?_
 exact ao H
def fD (a0:ae):Option Int:=
 some (WR ((WR (a0.aq.bb-1))-(a0.aq.aD.length:Int)))
theorem ju {a0:ae} {r:Int} (H:fD a0=some r):Fn prog 81 [.agg (cG a0)] [.c (.d (.i .i64 r))]:=by
 refine fI func81 ntmps81 ?_
 exact ao H
def jj (a0:List bm):(Int×Int)->Option (cK (Int×Int) (Int))
 |(v1,v2)=>bif ltB v2 (a0.length:Int) then(aaC (ix a0 v2) λx5=>some (.next (WR (v1+(x5.a8.length:Int)),WR (v2+1)))) else(some (.done v1))
def tz (a0:List bm):Option Int:=
 aaC (iter (jj a0) FU (0,0)) λ(v4:Int)=>some v4
theorem Cp {a0:List bm} {r:Int} (H:tz a0=some r):Fn prog 92 [aL (a0.map cg)] [.c (.d (.i .i64 r))]:=by
 refine fI func92 ntmps92 ?_
 refine aa H λv4 Hj H=>jB ⟨[(3,tI v4)],[],0⟩ ?_ ?_
 .refine iT Hj (λq=>⟨[(3,tI q.1),(6,.v (.c (.d false (.l (a0.map cg))))),(7,tI (a0.length:Int)),(8,tI q.2)],[],0⟩) ?_
  rintro⟨v1,v2⟩ o H
  try dsimp only
  refine wI ?_
  refine cC H ?_ ?_<;>intro H
  .refine aa H λx5 hx5 H=>nA (xdT (enc:=cg) hx5) ?_
   cases H
   refine eA ?_
   exact wo
  cases H
  refine et (λhq=>?_)
  cases hq
  refine wI ?_
  exact wo
 exact ao H
end Go.AM
