/- A part. -/
import Derived.Test.YtljhooecmjejiaaGreatS6
import Derived.Test.YtljhooecmjejiaaGreatS8
set_option linter.unusedVariables false
open Option renaming bind→Vj
namespace Go.AM
open Go.Proofs
attribute [local irreducible] AWN NS AWO AWR AWC DR cZ ey
set_option maxRecDepth 100000
set_option maxHeartbeats 40000000
def ma (a0:aj) (a1:dh) (a2:Int):Option (aj×dh):=
 Vj (xg a0 a1.au a2) fun r1=>Vj (eE a0 a1) fun r2=>Vj (bif !r2 then(some true) else(Vj (fH {a1 with cL:=WR (a1.cL+r1.2)}) fun r4=>some (!r4))) fun(v3:Bool)=>bif v3 then(Vj (jI a0) fun r5=>some (r5,a1)) else(some (r1.1,{a1 with cL:=WR (a1.cL+r1.2)}))
theorem zp {a0:aj} {a1:dh} {a2:Int} {r:aj×dh} (H:ma a0 a1 a2=some r):Fn Tryz.prog 368 [.agg (dB a0),.agg (ue a1),aI a2] [.agg (qM [.o] (cS r.1)),.agg (qM [] (oZ r.2))]:=by
 refine fI Tryz.func368 Tryz.ntmps368 ?_
 obtain⟨r1,q1,H⟩:=ob H
 refine nA (ca (hF:=IK q1)) ?_
 obtain⟨r2,q2,H⟩:=ob H
 refine nA (ca (hF:=gQ q2)) ?_
 obtain⟨v3,Hj,H⟩:=ob H
 refine jR ⟨[(3,tP 0),(4,tP 1),(6,tP 2),(7,tP 3),(8,tP 5),(10,tP 6),(33,tB v3)],(oM [.w 4] 5 66 (cS r1.1)++[(0,.var 66 (kM [.f] (cS a0))),(1,.var 58 (kM [] (oZ a1))),(2,.var 66 (kM [.z] (cS lR))),(3,.var 58 (kM [] (oZ zV))),(6,.var 58 (kM [] (oZ {a1 with cL:=WR (a1.cL+r1.2)})))]),7⟩ ?_ ?_
 ·have H:=Hj
  refine gC H ?_ ?_<;>intro H
  ·cases H
   exact wo
  ·obtain⟨r4,q4,H⟩:=ob H
   refine nG (ca (hF:=g7 q4)) ?_
   cases H
   exact wo
 refine cC H ?_ ?_<;>intro H
 ·refine zI (List.range 5) ?_
  obtain⟨r5,q5,H⟩:=ob H
  refine zA (ca (hF:=kf q5)) ?_
  refine wA (spx 100364) ?_
  refine wA (spx 100363) ?_
  cases H
  exact ah
 ·refine zI (List.range 4) ?_
  refine wA (spx 100366) ?_
  refine wA (spx 100365) ?_
  cases H
  exact ah
def lg (a0:ag):Option bK:=
 Vj (gh a0) fun r1=>some (⟨r1,([]:List aA)⟩:bK)
theorem lQ {a0:ag} {r:bK} (H:lg a0=some r):Fn Tryz.prog 355 [.agg (bZ a0)] [.agg (qM [.o,.o,.o,.o] (ed r))]:=by
 refine fI Tryz.func355 Tryz.ntmps355 ?_
 obtain⟨r1,q1,H⟩:=ob H
 refine nA (ca (hF:=fX q1)) ?_
 cases H
 refine cG (wB 5 (([]:List aA).length)) ?_
 exact ah
def rx (a0:az):Option az:=
 Vj (ic a0) fun r1=>Vj (bif eqB a0.bi 2 then(some 3) else(some r1.bi)) fun(v2:Int)=>some {r1 with bi:=v2}
theorem EQ {a0:az} {r:az} (H:rx a0=some r):Fn Tryz.prog 288 [.agg (dE a0)] [.agg (qM [.o,.o] (dr r))]:=by
 refine fI Tryz.func288 Tryz.ntmps288 ?_
 obtain⟨r1,q1,H⟩:=ob H
 refine nA (ca (hF:=gT q1)) ?_
 obtain⟨v2,Hj,H⟩:=ob H
 refine jA ⟨[(2,tP 1),(3,tP 4)],(oM [.w 2,.w 3] 4 45 (dr {r1 with bi:=v2})++[(1,.var 45 (kM [.z,.z] (dr B0)))]),5⟩ ?_ ?_
 ·have H:=Hj
  refine cC H ?_ ?_<;>intro H
  ·cases H
   exact wo
  ·cases H
   exact wo
 cases H
 exact ah
def uq (a0:ag):Option ag:=
 Vj (gh a0) fun r1=>some {r1 with aF:=cr,bF:=0,ef:=0,il:=fa,d4:=0}
theorem He {a0:ag} {r:ag} (H:uq a0=some r):Fn Tryz.prog 291 [.agg (bZ a0)] [.agg (qM [.o,.o,.o] (cF r))]:=by
 refine fI Tryz.func291 Tryz.ntmps291 ?_
 obtain⟨r1,q1,H⟩:=ob H
 refine nA (ca (hF:=fX q1)) ?_
 cases H
 exact ah
def xD:(Int×List bp×aE)→Option (cp (Int×List bp×aE) (List bp×aE))
 |(v2,v6,v7)=>bif ltB 0 v2 then(Vj (bS v7 5) fun r35=>Vj (bif eqB r35.1 0 then(Vj (ge) fun r41=>some (r41.Steps,r35.2)) else(Vj (bif eqB r35.1 1 then(some (eqB r35.1 1)) else(some (eqB r35.1 2))) fun(v42:Bool)=>Vj (bif v42 then(Vj (bS r35.2 4) fun r48=>Vj (eJ (WR (1+r48.1))) fun r49=>some (r49.Steps,r48.2)) else(Vj (bif eqB r35.1 3 then(Vj (zS r35.2) fun r55=>some (r55.1.Steps,r55.2)) else(some ([1],r35.2))) fun((v53,v54):List Int×aE)=>some (v53,v54))) fun((v46,v47):List Int×aE)=>some (v46,v47))) fun((v39,v40):List Int×aE)=>Vj (bS v40 24) fun r56=>bif cM 32 (v6++[(⟨r56.1,(⟨v39⟩:b8)⟩:bp)]).length then(some (.next (WR (v2-1),(v6++[(⟨r56.1,(⟨v39⟩:b8)⟩:bp)]),r56.2))) else none) else(some (.done (v6,v7)))
def uy (a0:aE):Option (List bp×aE):=
 Vj (bS a0 4) fun r1=>Vj (iter (xD) FU (r1.1,([]:List bp),r1.2)) fun((v33,v34):List bp×aE)=>some (v33,v34)
theorem Hv {a0:aE} {r:List bp×aE} (H:uy a0=some r):FnW Tryz.prog 142 (.var 143 (kM [.f] (bg a0))) [tP 200] (.var 143 (kM [.f] (bg r.2))) [.c (.own 107 2 (r.1.map da) r.1.length)]:=by
 refine fW Tryz.func142 Tryz.ntmps142 ?_
 obtain⟨r1,q1,H⟩:=ob H
 refine sA (cw (o:=200) (bz q1)) ?_
 obtain⟨⟨v33,v34⟩,Hj,H⟩:=ob H
 refine jB ⟨[(3,.v (.c (.w 210 v33.length)))],[(200,.var 143 (kM [.f] (bg v34))),(210,sC v33)],211⟩ ?_ ?_
 ·refine iT Hj (fun q=>⟨[(0,tP 200),(3,.v (.c (.w 210 q.2.1.length))),(4,tI q.1)],[(200,.var 143 (kM [.f] (bg q.2.2))),(210,sC q.2.1)],211⟩) ?_
  rintro⟨v2,v6,v7⟩ o H
  try dsimp only
  refine wI ?_
  refine cC H ?_ ?_<;>intro H
  ·obtain⟨r35,q35,H⟩:=ob H
   refine sA (cw (o:=200) (bz q35)) ?_
   obtain⟨⟨v39,v40⟩,Hj,H⟩:=ob H
   refine jA ⟨[(0,tP 200),(3,.v (.c (.w 210 v6.length))),(4,tI v2),(5,tP 212)],[(200,.var 143 (kM [.f] (bg v40))),(210,sC v6),(212,.var 97 [.wn 213 v39.length]),(213,n3 v39)],214⟩ ?_ ?_
   ·have H:=Hj
    refine cC H ?_ ?_<;>intro H
    ·obtain⟨r41,q41,H⟩:=ob H
     refine nA (ca (hF:=m9 q41)) ?_
     cases H
     refine an (c8 213) ?_
     refine an (wB 211 [1].length) ?_
     exact wo
    ·obtain⟨v42,Hj,H⟩:=ob H
     refine jA ⟨[(0,tP 200),(3,.v (.c (.w 210 v6.length))),(4,tI v2),(5,tP 212),(16,tI r35.1),(20,tB v42)],[(200,.var 143 (kM [.f] (bg r35.2))),(210,sC v6),(211,w3 [1]),(212,.var 97 [.w 211 ([1].length)])],213⟩ ?_ ?_
     ·have H:=Hj
      refine cC H ?_ ?_<;>intro H
      ·cases H
       refine an (wB 211 [1].length) ?_
       exact wo
      ·cases H
       refine an (wB 211 [1].length) ?_
       exact wo
     obtain⟨⟨v46,v47⟩,Hj,H⟩:=ob H
     refine jA ⟨[(0,tP 200),(3,.v (.c (.w 210 v6.length))),(4,tI v2),(5,tP 212)],[(200,.var 143 (kM [.f] (bg v47))),(210,sC v6),(212,.var 97 [.wn 213 v46.length]),(213,n3 v46)],214⟩ ?_ ?_
     ·have H:=Hj
      refine cC H ?_ ?_<;>intro H
      ·obtain⟨r48,q48,H⟩:=ob H
       refine sA (cw (o:=200) (bz q48)) ?_
       obtain⟨r49,q49,H⟩:=ob H
       refine nA (ca (hF:=mN q49)) ?_
       cases H
       refine an (c8 213) ?_
       exact wo
      ·obtain⟨⟨v53,v54⟩,Hj,H⟩:=ob H
       refine jA ⟨[(0,tP 200),(3,.v (.c (.w 210 v6.length))),(4,tI v2),(5,tP 212)],[(200,.var 143 (kM [.f] (bg v54))),(210,sC v6),(212,.var 97 [.wn 213 v53.length]),(213,n3 v53)],214⟩ ?_ ?_
       ·have H:=Hj
        refine cC H ?_ ?_<;>intro H
        ·obtain⟨r55,q55,H⟩:=ob H
         refine sA (cwv [(200,200)] [(210,213)] 214 (L2 q55)) ?_
         cases H
         exact wo
        ·cases H
         refine an (c8 211) ?_
         refine an (uG (nx':=214) rfl) ?_
         refine an (wS 213 211) ?_
         exact wo
       cases H
       exact wo
     cases H
     exact wo
   refine jr (eo 213) ?_
   refine zI (List.range 8) ?_
   obtain⟨r56,q56,H⟩:=ob H
   refine wA (cwx (o:=200) (bz q56)) ?_
   obtain⟨h,H⟩:=rq H
   refine wA (apx (enc:=da) (ys:=v6) (zs:=[(⟨r56.1,(⟨v39⟩:b8)⟩:bp)]) [210,214] h) ?_
   refine iV (ds:=[210]) (by kernel_rfl) (by kernel_rfl) rfl ?_
   refine wI ?_
   cases H
   refine dU ?_
   refine an (wS 210 215) ?_
   exact wo
  ·cases H
   refine dT (fun hq=>?_)
   cases hq
   refine wI ?_
   exact wo
 cases H
 exact eu
end Go.AM
