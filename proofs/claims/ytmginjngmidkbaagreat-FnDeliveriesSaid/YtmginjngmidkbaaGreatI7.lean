/- A part. -/
import Derived.Test.YtmginjngmidkbaaGreatI6
set_option linter.unusedVariables false
open Option renaming bind->abU
open List renaming replicate->aag
namespace Go.AM
open Go.Proofs
open Tryz
attribute [local irreducible] AWN NS AWO AWR AWC DR ea gL
set_option maxRecDepth 100000
set_option maxHeartbeats 40000000
def jw (a1:Int):(Int×ab)->Option (cq (Int×ab) (ab))
 |(v1,v12)=>abU (bif ltB v1 a1 then(some (ltB 0 (v12.aK.length:Int))) else(some false)) λ(v26:Bool)=>bif v26 then(abU (vm v12 0) λr27=>some (.next (WR (v1+1),r27))) else(some (.done v12))
def uP (a0:ab) (a1:Int):Option ab:=
 abU (iter (jw a1) FU (0,a0)) λ(v25:ab)=>some v25
theorem ES {a0:ab} {a1:Int} {r:ab} (H:uP a0 a1=some r):FnV prog 37 (nI a0) [tP 200,tI a1] (nI r) (.tup []) []:=by
 refine fV func37 ntmps37 ?_
 refine aa H λv25 Hj H=>jB ⟨[],(nI v25),210⟩ ?_ ?_
 .refine iT Hj (λq=>⟨[(0,tP 200),(1,tI a1),(4,tI q.1)],(nI q.2),210⟩) ?_
  rintro⟨v1,v12⟩ o H
  refine ad ?_
  refine aa H λv26 Hj H=>jR ⟨[(0,tP 200),(1,tI a1),(4,tI v1),(15,tB v26)],(nI v12),210⟩ ?_ ?_
  .exact az Hj
  refine cC H ?_ ?_<;>intro H
  .refine aa H λr27 q27 H=>sA (cwu m0 [] 210 (GC q27)) ?_
   exact aN H
  exact aE H
 cases H
 exact mn
def pR (a0:aJ):Option aD:=
 some {dQ with a8:=1,be:=a0.be}
def yr (a0:aJ):Option a9:=
 bif ltB 0 a0.eU then(abU (cO {a0 with eU:=WR (a0.eU-1)} []) λr1=>some r1) else(bif eqB a0.bj 1 then(abU (pR {a0 with eU:=3}) λr2=>abU (cO {a0 with eU:=3} [r2]) λr3=>some r3) else(abU (bif eqB a0.bj 2 then(some (!a0.cj)) else(some false)) λ(v4:Bool)=>bif v4 then(abU (qd {a0 with eU:=3}) λr5=>abU (cO {a0 with eU:=3} [r5]) λr6=>some r6) else(abU (cO a0 []) λr7=>some r7)))
def pp (a0:am) (a1:Int):Option am:=
 bif eT a0.aj 0 a1 then(bif c8 16 (([]:List aH)++(a0.aj.take (a1).toNat)).length then(bif eT a0.aj (WR (a1+1)) a0.aj.length then(bif c8 16 ((([]:List aH)++(a0.aj.take (a1).toNat))++(a0.aj.drop (WR (a1+1)).toNat)).length then(some {a0 with aj:=((([]:List aH)++(a0.aj.take (a1).toNat))++(a0.aj.drop (WR (a1+1)).toNat))}) else none) else none) else none) else none
def Oh (a0:am) (a1:Int) (a2:Int):Option (am×Bool):=
 abU (fk a0) λr1=>abU (gX a0) λr2=>abU (bif !r2 then(some true) else(abU (om a0 a1) λr4=>abU (b9 a2 0 r4) λr5=>some (!r5))) λ(v3:Bool)=>bif v3 then(some (r1,false)) else(abU (f6 r1 a1) λr6=>bif ltB r6 0 then(some (r1,true)) else(abU (ix r1.aj r6) λx7=>abU (ix r1.aj r6) λx8=>abU (ix (r1.aj.set (r6).toNat (⟨x8.aG,WR (x7.d8-a2)⟩:aH)) r6) λx9=>abU (bif eqB x9.d8 0 then(abU (pp {r1 with eD:=WR (r1.eD+a2),aj:=(r1.aj.set (r6).toNat (⟨x8.aG,WR (x7.d8-a2)⟩:aH))} r6) λr15=>some r15) else(some {r1 with eD:=WR (r1.eD+a2),aj:=(r1.aj.set (r6).toNat (⟨x8.aG,WR (x7.d8-a2)⟩:aH))})) λ(v14:am)=>some (v14,true)))
def rm (a0:am) (a1:cX):Option (am×cX):=
 abU (fR a0 a1) λr1=>bif !r1 then(abU (fk a0) λr2=>some (r2,a1)) else(abU (Oh a0 a1.aG a1.ev) λr3=>bif !r3.2 then(abU (fk a0) λr4=>some (r4,a1)) else(some (r3.1,(⟨a1.aG,WR (a1.cG-a1.ev),0⟩:cX))))
def Uf (a0:Int) (a1:Int):Option Int:=
 bif ltB a1 a0 then(some a1) else(some a0)
def Kj (a0:aS) (a1:Int):Option Int:=
 abU (kP a0 a1) λr1=>bif !r1 then(some (-1)) else(abU (ix a0.aX a1) λx2=>some x2.fJ)
def EL (a0:aS) (a1:Int):(Int×List Int)->Option (cq (Int×List Int) (List Int))
 |(v1,v2)=>bif ltB v1 (a0.aX.length:Int) then(abU (ix a0.aX v1) λx6=>abU (bif eqB x6.fJ a1 then(bif c8 8 (v2++[v1]).length then(some (v2++[v1])) else none) else(some v2)) λ(v7:List Int)=>some (.next (WR (v1+1),v7))) else(some (.done v2))
def BV (a0:aS) (a1:Int):Option (List Int):=
 abU (iter (EL a0 a1) FU (0,([]:List Int))) λ(v5:List Int)=>some v5
def qE (a0:aS):(Int×List Int)->Option (cq (Int×List Int) (List Int))
 |(v3,v4)=>bif ltB v3 (((aag ((a0.aX.length:Int)).toNat (0:Int)).length:Nat):Int) then(abU (ix v4 v3) λx7=>some (.next (WR (v3+1),(v4.set (v3).toNat v3)))) else(some (.done v4))
def qF (a0:aS):(Int×List Int)->Option (cq (Int×List Int) (List Int))
 |(v8,v9)=>bif ltB v8 (((aag ((a0.aX.length:Int)).toNat (0:Int)).length:Nat):Int) then(abU (ix v9 v8) λx12=>some (.next (WR (v8+1),(v9.set (v8).toNat v8)))) else(some (.done v9))
def wm (a0:aS) (a1:Int) (a2:Int):Option (List Int):=
 abU (b9 a2 1 4) λr1=>bif !r1 then(some ([]:List Int)) else(bif eqB a2 1 then(abU (BV a0 a1) λr2=>bif ltB 0 (r2.length:Int) then(some r2) else(bif qk 8 (a0.aX.length:Int) (a0.aX.length:Int) then(abU (iter (qE a0) FU (0,(aag ((a0.aX.length:Int)).toNat (0:Int)))) λ(v6:List Int)=>some v6) else none)) else(bif qk 8 (a0.aX.length:Int) (a0.aX.length:Int) then(abU (iter (qF a0) FU (0,(aag ((a0.aX.length:Int)).toNat (0:Int)))) λ(v11:List Int)=>some v11) else none))
def yt (a0:cR) (a1:aS):Option (cR×List Int):=
 bif ltB 0 a0.eU then(some ({a0 with eU:=WR (a0.eU-1)},([]:List Int))) else(abU (bif ltB a0.eQ 4 then(some (WR (a0.eQ+1))) else(some 1)) λ(v1:Int)=>abU (wm a1 a0.fJ v1) λr2=>some ((⟨a0.fJ,v1,3⟩:cR),r2))
def yF (r4:cR×List Int):(Int×List aD)->Option (cq (Int×List aD) (List aD))
 |(v5,v6)=>bif ltB v5 (r4.2.length:Int) then(abU (ix r4.2 v5) λx9=>bif c8 88 (v6++[{dQ with a8:=7,be:=x9}]).length then(some (.next (WR (v5+1),(v6++[{dQ with a8:=7,be:=x9}])))) else none) else(some (.done v6))
def yE (a0:ah) (a1:am) (a2:aS):Option bZ:=
 abU (kP a2 a0.be) λr1=>abU (bif r1 then(abU (Kj a2 a0.be) λr3=>some r3) else(some 0)) λ(v2:Int)=>abU (yt {a0.ge with fJ:=v2} a2) λr4=>abU (iter (yF r4) FU (0,([]:List aD))) λ(v8:List aD)=>some (⟨{a0 with ge:=r4.1},a1,v8,[]⟩:bZ)
def yi (a0:Int) (r1:List Int):(Int×List Int)->Option (cq (Int×List Int) (List Int))
 |(v2,v3)=>bif ltB v2 (r1.length:Int) then(abU (ix v3 v2) λx8=>abU (eY a0 [v2]) λr9=>abU (ix v3 v2) λx10=>some (.next (WR (v2+1),(v3.set (v2).toNat (IntKind.u8.wrap (x8+(IntKind.u8.wrap (Int.tmod r9 256)))))))) else(some (.done v3))
def Gs (a0:Int) (a1:List Int):Option (List Int):=
 abU (eZ a1) λr1=>abU (iter (yi a0 r1) FU (0,r1)) λ(v7:List Int)=>some v7
def Mj (a0:Int) (a1:Int) (a2:Int) (a3:List Int):Option bp:=
 abU (ph a0 (WR ((WR (2*a2))+a1))) λr1=>abU (Gs r1 a3) λr2=>abU (ny a0 a1 a2 r2) λr3=>some (⟨a1,a2,r2,r3⟩:bp)
def wu (a0:Int) (a1:Int) (a2:Int) (a3:ae):Option aA:=
 abU (rR a0 a2) λr1=>abU (Mj r1 1 a3.cV a3.bg) λr2=>some (⟨a1,a2,r2⟩:aA)
def lj (a0:ah) (r1:Int):(Int×List aA)->Option (cq (Int×List aA) (List aA))
 |(v2,v3)=>bif ltB v2 (((a0.ax.aw.take (r1).toNat).length:Nat):Int) then(abU (ix (a0.ax.aw.take (r1).toNat) v2) λx7=>abU (wu a0.aV a0.ag a0.aT x7) λr8=>bif c8 64 (v3++[r8]).length then(some (.next (WR (v2+1),(v3++[r8])))) else none) else(some (.done v3))
def tD (a0:ah):Option (List aA):=
 bif !eqB a0.bj 1 then(some ([]:List aA)) else(abU (Uf 2 (a0.ax.aw.length:Int)) λr1=>bif eT a0.ax.aw 0 r1 then(abU (iter (lj a0 r1) FU (0,([]:List aA))) λ(v6:List aA)=>some v6) else none)
def YZ (a0:Int) (a1:Int):Option Int:=
 bif ltB a0 a1 then(some a1) else(some a0)
def rj (a0:ah) (a1:Int):Option Int:=
 abU (iW a0) λr1=>abU (ka a0.bT) λr2=>abU (YZ 0 (WR ((WR (r1+a1))-r2))) λr3=>some r3
def tC (a1:Int) (r1:am):Int->Option (cq (Int) (Int))
 |v9=>abU (bif ltB v9 (r1.aj.length:Int) then(abU (ix r1.aj v9) λx14=>some (ltB x14.aG a1)) else(some false)) λ(v13:Bool)=>bif v13 then(some (.next (WR (v9+1)))) else(some (.done v9))
def Gw (a0:am) (a1:Int) (a2:Int):Option (am×Int):=
 abU (fk a0) λr1=>abU (gX a0) λr2=>abU (bif !r2 then(some true) else(bif ltB a1 0 then(some true) else(abU (b9 a2 1 100000) λr4=>bif !r4 then(some true) else(some (eqB a0.bJ 0))))) λ(v3:Bool)=>bif v3 then(some (r1,0)) else(abU (Uf a2 a0.bJ) λr5=>abU (f6 a0 a1) λr6=>bif leB 0 r6 then(abU (ix r1.aj r6) λx7=>abU (ix r1.aj r6) λx8=>some ({r1 with bJ:=WR (r1.bJ-r5),aj:=(r1.aj.set (r6).toNat (⟨x8.aG,WR (x7.d8+r5)⟩:aH))},r5)) else(bif leB 8 (a0.aj.length:Int) then(some (r1,0)) else(abU (iter (tC a1 r1) FU 0) λ(v12:Int)=>bif c8 16 (r1.aj++[dJ]).length then(bif eT (r1.aj++[dJ]) (WR (v12+1)) (r1.aj++[dJ]).length then(bif eT (r1.aj++[dJ]) v12 (r1.aj++[dJ]).length then(abU (ix (cpD (r1.aj++[dJ]) (WR (v12+1)).toNat ((r1.aj++[dJ]).drop (v12).toNat)) v12) λx15=>some ({r1 with bJ:=WR (r1.bJ-r5),aj:=((cpD (r1.aj++[dJ]) (WR (v12+1)).toNat ((r1.aj++[dJ]).drop (v12).toNat)).set (v12).toNat (⟨a1,r5⟩:aH))},r5)) else none) else none) else none)))
def uM (a0:am) (a1:cX) (a2:Int):Option (am×cX):=
 abU (fR a0 a1) λr1=>bif !r1 then(abU (fk a0) λr2=>some (r2,a1)) else(abU (Gw a0 a1.aG a2) λr3=>bif ltB 100000 (WR (a1.cG+r3.2)) then(abU (fk a0) λr4=>some (r4,a1)) else(some (r3.1,{a1 with cG:=WR (a1.cG+r3.2)})))
def wj (a0:ah) (a1:am) (a2:Int):Option (ah×am):=
 abU (gD a0) λr1=>abU (rj r1 a2) λr2=>bif leB r2 0 then(abU (fk a1) λr3=>some (r1,r3)) else(abU (YZ r2 r1.gF.eg) λr4=>abU (uM a1 r1.bT r4) λr5=>some ({r1 with bT:=r5.2},r5.1))
def yq (a0:aY) (a1:List Int):Option (aY×ae×Bool):=
 abU (lr a0) λr1=>abU (eZ a1) λr2=>bif c8 32 (r1.aw++[(⟨a0.bB,r2⟩:ae)]).length then(abU (lf (⟨WR (r1.bB+1),(r1.aw++[(⟨a0.bB,r2⟩:ae)])⟩:aY)) λr3=>bif !r3 then(abU (lr a0) λr4=>some (r4,bP,false)) else(abU (eZ a1) λr5=>some ((⟨WR (r1.bB+1),(r1.aw++[(⟨a0.bB,r2⟩:ae)])⟩:aY),(⟨a0.bB,r5⟩:ae),true))) else none
def tE:(Int×List aA×ah×am)->Option (cq (Int×List aA×ah×am) (List aA×ah×am))
 |(v5,v36,v41,v42)=>bif ltB v5 2 then(abU (bif ltB (v41.aM.length:Int) v41.ax.bB then(some true) else(some (leB 8 (v41.ax.aw.length:Int)))) λ(v86:Bool)=>bif v86 then(some (.done (v36,v41,v42))) else(abU (ix v41.aM (WR (v41.ax.bB-1))) λx87=>abU (wj v41 v42 (x87.bg.length:Int)) λr88=>abU (rj r88.1 (x87.bg.length:Int)) λr89=>bif ltB 0 r89 then(some (.done (v36,r88.1,r88.2))) else(abU (yq r88.1.ax x87.bg) λr90=>bif r90.2.2 then(abU (wu r88.1.aV r88.1.ag r88.1.aT r90.2.1) λr91=>bif c8 64 (v36++[r91]).length then(some (.next (WR (v5+1),(v36++[r91]),{r88.1 with ax:=r90.1},r88.2))) else none) else(some (.done (v36,r88.1,r88.2)))))) else(some (.done (v36,v41,v42)))
def Gz (a0:ah) (a1:am):Option bZ:=
 abU (gD a0) λr1=>abU (fk a1) λr2=>abU (iP a0) λr3=>abU (bif !r3 then(some true) else(some (!eqB a0.bj 1))) λ(v4:Bool)=>bif v4 then(some {dw with aZ:=r1,eL:=r2}) else(abU (iter (tE) FU (0,([]:List aA),r1,r2)) λ((v79,v84,v85):List aA×ah×am)=>some (⟨v84,v85,[],v79⟩:bZ))
def ww (a0:ah) (a1:am) (a2:aS):Option bZ:=
 abU (gD a0) λr1=>abU (fk a1) λr2=>abU (iP r1) λr3=>abU (bif !r3 then(some true) else(some (!eqB r1.bj 1))) λ(v4:Bool)=>bif v4 then(some {dw with aZ:=r1,eL:=r2}) else(abU (bif leB r1.gF.eg r1.bT.ev then(abU (rm r2 r1.bT) λr14=>some ({r1 with bT:=r14.2},r14.1)) else(some (r1,r2))) λ((v12,v13):ah×am)=>abU (bif ltB 0 (v12.ax.aw.length:Int) then(abU (Uf (WR (v12.d6+1)) 5) λr16=>some r16) else(some 0)) λ(v15:Int)=>bif ltB 4 v15 then(abU (yE {v12 with d6:=v15} v13 a2) λr17=>some {r17 with cz:=[]}) else(abU (bif ltB 0 (v12.ax.aw.length:Int) then(some (ltB 0 v12.dP)) else(some false)) λ(v18:Bool)=>abU (bif v18 then(some (([]:List aA),WR (v12.dP-1))) else(abU (bif ltB 0 (v12.ax.aw.length:Int) then(abU (tD {v12 with d6:=v15,dP:=3}) λr23=>some (r23,3)) else(some (([]:List aA),v12.dP))) λ((v21,v22):List aA×Int)=>some (v21,v22))) λ((v19,v20):List aA×Int)=>abU (Gz {v12 with d6:=v15,dP:=v20} v13) λr24=>bif c8 64 (v19++r24.cz).length then(some {r24 with kF:=[],cz:=(v19++r24.cz)}) else none))
def B8 (a0:ab):(Int×ab)->Option (cq (Int×ab) (ab))
 |(v1,v12)=>bif ltB v1 (a0.av.length:Int) then(abU (ix v12.av v1) λx27=>abU (yr x27) λr28=>abU (gE v12 v1 r28) λr29=>some (.next (WR (v1+1),r29))) else(some (.done v12))
def vp (v30:Int) (v159:bZ):(Int×ab)->Option (cq (Int×ab) (ab))
 |(v166,v177)=>bif ltB v166 (v159.cz.length:Int) then(abU (ix v159.cz v166) λx191=>abU (qf v177 (⟨v30,false,true,v159.aZ.be,dQ,x191⟩:bF)) λr192=>some (.next (WR (v166+1),r192))) else(some (.done v177))
def B9 (v26:ab):(Int×ab)->Option (cq (Int×ab) (ab))
 |(v30,v41)=>bif ltB v30 (v26.aF.length:Int) then(abU (abU (ix v41.aF v30) λx160=>abU (ix v41.bG v30) λx161=>abU (ww x160 x161 v41.eo) λr162=>some r162) λ(v159:bZ)=>abU (ix v41.aF v30) λx163=>abU (ix v41.bG v30) λx164=>abU (ky {v41 with aF:=(v41.aF.set (v30).toNat v159.aZ),bG:=(v41.bG.set (v30).toNat v159.eL)} v30 v159.kF) λr165=>abU (iter (vp v30 v159) FU (0,r165)) λ(v190:ab)=>some (.next (WR (v30+1),v190))) else(some (.done v41))
def Up (a0:ab):Option (Bool×ab):=
 bif leB 100000 a0.qz then(some (false,a0)) else(abU (iter (B8 a0) FU (0,{a0 with qz:=WR (a0.qz+1)})) λ(v26:ab)=>abU (iter (B9 v26) FU (0,v26)) λ(v122:ab)=>some (true,v122))
def ov (a0:ab) (a1:dh):Option (Bool×ab):=
 abU (b9 a1.cF 0 (WR ((a0.aK.length:Int)-1))) λr1=>bif !r1 then(some (false,a0)) else(bif eqB a1.a8 2 then(abU (vm a0 a1.cF) λr2=>some (true,r2)) else(bif eqB a1.a8 3 then(abU (qg a0 a1.cF) λr3=>some (true,{r3.2 with jr:=WR (r3.2.jr+1)})) else(bif eqB a1.a8 4 then(bif leB 200 (a0.aK.length:Int) then(some (false,a0)) else(abU (ix a0.aK a1.cF) λx4=>abU (qf a0 x4) λr5=>some (true,r5))) else(some (true,a0)))))
def mY (a0:ab) (a1:dh):Option (Bool×ab):=
 abU (b9 a1.cF 0 (WR ((a0.aK.length:Int)-1))) λr1=>bif !r1 then(some (false,a0)) else(abU (vm a0 a1.cF) λr2=>some (true,r2))
theorem yv {a0:ab} {a1:dh} {r:Bool×ab} (H:mY a0 a1=some r):FnV prog 92 (nI a0) [tP 200,.v (.agg (kM [.t,.t] (fB {a1 with a8:=2})))] (nI r.2) (.v (.c (.d false (.b r.1)))) []:=by
 refine fV func92 ntmps92 ?_
 refine dI ?_
 refine aa H λr1 q1 H=>dA (ca (hF:=bX q1)) ?_
 refine wI ?_
 refine cC H ?_ ?_<;>intro H
 .cases H
  exact cd
 refine aa H λr2 q2 H=>sA (cwu m0 [] 211 (GC q2)) ?_
 cases H
 exact cd
end Go.AM
