/- A part. -/
import Derived.Test.YtljhooecmjejiaaGreatS3
import Derived.Test.YtljhooecmjejiaaGreatS4
import Derived.Test.YtljhooecmjejiaaGreatS5
set_option linter.unusedVariables false
open Option renaming bind→Un
namespace Go.AM
open Go.Proofs
attribute [local irreducible] AWN NS AWO AWR AWC DR cZ eE
set_option maxRecDepth 100000
set_option maxHeartbeats 40000000
def gb (a0:aH) (a1:Int):Option (Bool×aH):=
 Un (bZ a0 a1) fun r1=>some (eqB r1.1 0,r1.2)
theorem f7 {a0:aH} {a1:Int} {r:Bool×aH} (H:gb a0 a1=some r):FnW Tryz.prog 130 (.var 143 (kM [.f] (bI a0))) [tP 200,tI a1] (.var 143 (kM [.f] (bI r.2))) [.c (.d (.b r.1))]:=by
 refine fW Tryz.func130 Tryz.ntmps130 ?_
 obtain⟨r1,q1,H⟩:=ob H
 refine sA (cw (o:=200) (bL q1)) ?_
 cases H
 exact eB
def dO (a0:aC):Option Bool:=
 Un (eX a0.ID) fun r1=>Un (bif r1 then(Un (fD a0.eP) fun r3=>bif r3 then(Un (cz a0.cO 0 999999) fun r4=>some r4) else(some false)) else(some false)) fun(v2:Bool)=>some v2
theorem fO {a0:aC} {r:Bool} (H:dO a0=some r):Fn Tryz.prog 246 [.agg (cm a0)] [.c (.d (.b r))]:=by
 refine fI Tryz.func246 Tryz.ntmps246 ?_
 obtain⟨r1,q1,H⟩:=ob H
 refine nA (ca (hF:=ky q1)) ?_
 obtain⟨v2,Hj,H⟩:=ob H
 refine jR ⟨[(2,tB v2)],[],0⟩ ?_ ?_
 ·have H:=Hj
  refine gC H ?_ ?_<;>intro H
  ·obtain⟨r3,q3,H⟩:=ob H
   refine nG (ca (hF:=gj q3)) ?_
   refine gC H ?_ ?_<;>intro H
   ·obtain⟨r4,q4,H⟩:=ob H
    refine nG (ca (hF:=bK q4)) ?_
    cases H
    exact wo
   ·cases H
    exact wo
  ·cases H
   exact wo
 cases H
 exact ah
def vb (a0:aH):Option (Int×aH):=
 Un (bZ a0 6) fun r1=>some (WR (100+r1.1),r1.2)
theorem Gh {a0:aH} {r:Int×aH} (H:vb a0=some r):FnW Tryz.prog 197 (.var 143 (kM [.f] (bI a0))) [tP 200] (.var 143 (kM [.f] (bI r.2))) [.c (.d (.i .i64 r.1))]:=by
 refine fW Tryz.func197 Tryz.ntmps197 ?_
 obtain⟨r1,q1,H⟩:=ob H
 refine sA (cw (o:=200) (bL q1)) ?_
 cases H
 exact eB
def ge (a0:ag):Option ag:=
 Un (ql a0.gN) fun r1=>Un (oh a0.ao) fun r2=>Un (jM a0.an) fun r3=>some {a0 with gN:=r1,ao:=r2,an:=r3}
theorem fQ {a0:ag} {r:ag} (H:ge a0=some r):Fn Tryz.prog 198 [.agg (bS a0)] [.agg (qM [.o,.o,.o] (cy r))]:=by
 refine fI Tryz.func198 Tryz.ntmps198 ?_
 obtain⟨r1,q1,H⟩:=ob H
 refine nA (ca (hF:=AF q1)) ?_
 obtain⟨r2,q2,H⟩:=ob H
 refine nA (ca (hF:=wr q2)) ?_
 obtain⟨r3,q3,H⟩:=ob H
 refine nA (ca (hF:=iW q3)) ?_
 cases H
 exact ah
def ia (a0:ay):Option ay:=
 Un (sZ a0.bi) fun r1=>some {a0 with bi:=r1}
theorem gU {a0:ay} {r:ay} (H:ia a0=some r):Fn Tryz.prog 201 [.agg (c7 a0)] [.agg (qM [.o,.o] (df r))]:=by
 refine fI Tryz.func201 Tryz.ntmps201 ?_
 obtain⟨r1,q1,H⟩:=ob H
 refine nA (ca (hF:=AC q1)) ?_
 cases H
 exact ah
def eM (a0:ab) (a1:bJ):Option ab:=
 bif leB 200 ((a0.aQ.length:Nat):Int) then(some {a0 with jX:=WR (a0.jX+1)}) else(Un (ou a1) fun r1=>bif cS 176 (a0.aQ++[r1]).length then(some {a0 with aQ:=(a0.aQ++[r1])}) else none)
theorem ow {a0:ab} {a1:bJ} {r:ab} (H:eM a0 a1=some r):FnV Tryz.prog 132 (nS a0) [tP 200,.v (.agg (kM [.t] (kc a1)))] (nS r) (.tup []) []:=by
 refine fV Tryz.func132 Tryz.ntmps132 ?_
 refine cC H ?_ ?_<;>intro H
 ·cases H
  exact bV
 ·refine Ok 0 18 0 [1,2,3,4,5,6,7,8,9,10,11] Try.follows (by kernel_rfl) (by kernel_rfl) rfl (by kernel_rfl) rfl rfl ?_
  refine wI ?_
  obtain⟨r1,q1,H⟩:=ob H
  refine zA (ca (hF:=(wC q1).frzs (by repeat (first|exact trivial|refine⟨?_,?_⟩|exact lm _|rfl)))) ?_
  obtain⟨h,H⟩:=rq H
  refine zB bT (gq rfl (yk (enc:=er) (ys:=a0.aQ) (zs:=[r1]) h (by first|exact List.cons_ne_nil _ _|simp) rfl (fun _=>rfl) (by first|rfl|simp) (.w rfl (by first|rfl|exact lm _|simp)) rfl rfl rfl rfl rfl rfl rfl rfl rfl rfl)) bT ?_
  refine wA (spx 100084) ?_
  cases H
  refine bU ((du 193)) ?_
  exact sb
def sM (a0:List Int):(Int×Int)→Option (cB (Int×Int) (Int))
 |(v1,v2)=>bif ltB v2 ((a0.length:Nat):Int) then(Un (ix a0 v2) fun x6=>Un (Bm x6 2147483647) fun r7=>some (.next (Int.tmod (WR ((WR ((WR (v1*1000003))+r7))+13)) 2147483647,WR (v2+1)))) else(some (.done v1))
def Jj (a0:List Int):Option Int:=
 Un (iter (sM a0) FU (11,0)) fun(v5:Int)=>some v5
theorem Pp {a0:List Int} {r:Int} (H:Jj a0=some r):Fn Tryz.prog 236 [aL (a0.map eI)] [.c (.d (.i .i64 r))]:=by
 refine fI Tryz.func236 Tryz.ntmps236 ?_
 obtain⟨v5,Hj,H⟩:=ob H
 refine jB ⟨[(3,tI v5)],[],0⟩ ?_ ?_
 ·refine iT Hj (fun q=>⟨[(0,.v (.c (.d false (.l (a0.map eI))))),(3,tI q.1),(4,tI q.2)],[],0⟩) ?_
  rintro⟨v1,v2⟩ o H
  try dsimp only
  refine wI ?_
  refine cC H ?_ ?_<;>intro H
  ·obtain⟨x6,hx6,H⟩:=ob H
   refine nA (xdT (enc:=eI) hx6) ?_
   obtain⟨r7,q7,H⟩:=ob H
   refine nA (ca (hF:=uS q7)) ?_
   refine nA (ir rfl rfl rfl (by decide)) ?_
   cases H
   refine ee ?_
   exact wo
  ·cases H
   refine ed (fun hq=>?_)
   cases hq
   refine wI ?_
   exact wo
 cases H
 exact ah
def u6 (a0:aH) (a1:List Int):Option (Int×aH):=
 Un (bZ a0 ((a1.length:Nat):Int)) fun r1=>Un (ix a1 r1.1) fun x2=>some (x2,r1.2)
theorem wu {a0:aH} {a1:List Int} {r:Int×aH} (H:u6 a0 a1=some r):FnW Tryz.prog 343 (.var 143 (kM [.f] (bI a0))) [tP 200,.v (.c (.d false (.l (a1.map eI))))] (.var 143 (kM [.f] (bI r.2))) [.c (.d (.i .i64 r.1))]:=by
 refine fW Tryz.func343 Tryz.ntmps343 ?_
 obtain⟨r1,q1,H⟩:=ob H
 refine sA (cw (o:=200) (bL q1)) ?_
 obtain⟨x2,hx2,H⟩:=ob H
 refine nA (xdT (enc:=eI) hx2) ?_
 cases H
 exact eB
def kA (a0:mL):Option Bool:=
 Un (eX a0.ID) fun r1=>Un (bif r1 then(Un (fD a0.eP) fun r3=>bif r3 then(Un (cz a0.dw 0 999999) fun r4=>some r4) else(some false)) else(some false)) fun(v2:Bool)=>some v2
theorem sN {a0:mL} {r:Bool} (H:kA a0=some r):Fn Tryz.prog 244 [.agg (GS a0)] [.c (.d (.b r))]:=by
 refine fI Tryz.func244 Tryz.ntmps244 ?_
 obtain⟨r1,q1,H⟩:=ob H
 refine nA (ca (hF:=ky q1)) ?_
 obtain⟨v2,Hj,H⟩:=ob H
 refine jR ⟨[(2,tB v2)],[],0⟩ ?_ ?_
 ·have H:=Hj
  refine gC H ?_ ?_<;>intro H
  ·obtain⟨r3,q3,H⟩:=ob H
   refine nG (ca (hF:=gj q3)) ?_
   refine gC H ?_ ?_<;>intro H
   ·obtain⟨r4,q4,H⟩:=ob H
    refine nG (ca (hF:=bK q4)) ?_
    cases H
    exact wo
   ·cases H
    exact wo
  ·cases H
   exact wo
 cases H
 exact ah
def g9 (a0:cY):Option Int:=
 Un (fE a0) fun r1=>bif !r1 then(some 0) else(some (WR (a0.cE-a0.dX)))
theorem oX {a0:cY} {r:Int} (H:g9 a0=some r):Fn Tryz.prog 80 [.agg (tu a0)] [.c (.d (.i .i64 r))]:=by
 refine fI Tryz.func80 Tryz.ntmps80 ?_
 obtain⟨r1,q1,H⟩:=ob H
 refine nA (ca (hF:=gZ q1)) ?_
 refine cC H ?_ ?_<;>intro H
 ·cases H
  exact ah
 ·cases H
  exact ah
def eu (a0:aj) (a1:cY):Option Bool:=
 Un (fo a0) fun r1=>Un (bif r1 then(Un (fE a1) fun r3=>bif r3 then(Un (kK a0 a1.au) fun r4=>some (eqB r4 a1.cE)) else(some false)) else(some false)) fun(v2:Bool)=>some v2
theorem gR {a0:aj} {a1:cY} {r:Bool} (H:eu a0 a1=some r):Fn Tryz.prog 189 [.agg (da a0),.agg (tu a1)] [.c (.d (.b r))]:=by
 refine fI Tryz.func189 Tryz.ntmps189 ?_
 refine dI ?_
 obtain⟨r1,q1,H⟩:=ob H
 refine dA (ca (hF:=iu q1)) ?_
 obtain⟨v2,Hj,H⟩:=ob H
 refine fR ⟨[(4,tB v2)],[],0⟩ ?_ ?_
 ·have H:=Hj
  refine wI ?_
  refine dC H ?_ ?_<;>intro H
  ·obtain⟨r3,q3,H⟩:=ob H
   refine dG (ca (hF:=gZ q3)) ?_
   refine dC H ?_ ?_<;>intro H
   ·obtain⟨r4,q4,H⟩:=ob H
    refine dG (ca (hF:=sT q4)) ?_
    refine wI ?_
    cases H
    exact wo
   ·refine wI ?_
    cases H
    exact wo
  ·refine wI ?_
   cases H
   exact wo
 refine wI ?_
 cases H
 exact ah
def oO (a0:av) (a1:av):Option Bool:=
 Un (bif eqB a0.aa a1.aa then(bif eqB a0.aR a1.aR then(Un (pJ a0.aZ a1.aZ) fun r2=>some r2) else(some false)) else(some false)) fun(v1:Bool)=>some v1
theorem Bk {a0:av} {a1:av} {r:Bool} (H:oO a0 a1=some r):Fn Tryz.prog 345 [.agg (dN a0),.agg (dN a1)] [.c (.d (.b r))]:=by
 refine fI Tryz.func345 Tryz.ntmps345 ?_
 obtain⟨v1,Hj,H⟩:=ob H
 refine jR ⟨[(4,tB v1)],[],0⟩ ?_ ?_
 ·have H:=Hj
  refine gC H ?_ ?_<;>intro H
  ·refine gC H ?_ ?_<;>intro H
   ·obtain⟨r2,q2,H⟩:=ob H
    refine nG (ca (hF:=yt q2)) ?_
    cases H
    exact wo
   ·cases H
    exact wo
  ·cases H
   exact wo
 cases H
 exact ah
def DC (a0:aj) (a1:Int) (a2:Int):Option (aj×Bool):=
 Un (jq a0) fun r1=>Un (fo a0) fun r2=>Un (bif !r2 then(some true) else(Un (kK a0 a1) fun r4=>Un (cz a2 0 r4) fun r5=>some (!r5))) fun(v3:Bool)=>bif v3 then(some (r1,false)) else(Un (bif ltB 0 a2 then(Un (mg a0 a1) fun r9=>Un (yN a0.aA r9 a2) fun r10=>some {r1 with d4:=WR (a0.d4+a2),aA:=r10}) else(some r1)) fun(v8:aj)=>some (v8,true))
theorem Nc {a0:aj} {a1:Int} {a2:Int} {r:aj×Bool} (H:DC a0 a1 a2=some r):Fn Tryz.prog 348 [.agg (da a0),aI a1,aI a2] [.agg (qM [.o] (cM r.1)),.c (.d (.b r.2))]:=by
 refine fI Tryz.func348 Tryz.ntmps348 ?_
 obtain⟨r1,q1,H⟩:=ob H
 refine nA (ca (hF:=jL q1)) ?_
 obtain⟨r2,q2,H⟩:=ob H
 refine nA (ca (hF:=iu q2)) ?_
 obtain⟨v3,Hj,H⟩:=ob H
 refine jR ⟨[(1,tI a1),(2,tI a2),(3,tP 0),(6,tP 1),(8,tP 3),(21,tB v3)],(oM [.w 2] 3 66 (cM r1)++[(0,.var 66 (kM [.f] (cM a0))),(1,.var 66 (kM [.z] (cM lD)))]),4⟩ ?_ ?_
 ·have H:=Hj
  refine gC H ?_ ?_<;>intro H
  ·cases H
   exact wo
  ·obtain⟨r4,q4,H⟩:=ob H
   refine nG (ca (hF:=sT q4)) ?_
   obtain⟨r5,q5,H⟩:=ob H
   refine nG (ca (hF:=bK q5)) ?_
   cases H
   exact wo
 refine cC H ?_ ?_<;>intro H
 ·cases H
  exact ah
 ·obtain⟨v8,Hj,H⟩:=ob H
  refine jA ⟨[(6,tP 1),(8,tP 3)],(oM [.w 4] 3 66 (cM v8)++[(1,.var 66 (kM [.z] (cM lD)))]),5⟩ ?_ ?_
  ·have H:=Hj
   refine cC H ?_ ?_<;>intro H
   ·refine zI (List.range 9) ?_
    obtain⟨r9,q9,H⟩:=ob H
    refine zA (ca (hF:=u5 q9)) ?_
    obtain⟨r10,q10,H⟩:=ob H
    refine zA (ca (hF:=KJ q10)) ?_
    refine wA (spx 100340) ?_
    cases H
    exact wo
   ·cases H
    refine aq (wN (nx':=5) rfl) ?_
    refine aq (wS 4 2) ?_
    exact wo
  cases H
  exact ah
def o3 (a0:cP) (a1:aK):Option (cP×List Int):=
 bif ltB 0 a0.fU then(some ({a0 with fU:=WR (a0.fU-1)},([]:List Int))) else(Un (bif ltB a0.eK 4 then(some (WR (a0.eK+1))) else(some 1)) fun(v1:Int)=>Un (nf a1 a0.fT v1) fun r2=>some ((⟨a0.fT,v1,3⟩:cP),r2))
theorem Br {a0:cP} {a1:aK} {r:cP×List Int} (H:o3 a0 a1=some r):Fn Tryz.prog 349 [.agg (ui a0),.agg (lf a1)] [.agg (qM [] (je r.1)),.c (.own 3 1 (r.2.map eI) r.2.length)]:=by
 refine fI Tryz.func349 Tryz.ntmps349 ?_
 refine cC H ?_ ?_<;>intro H
 ·cases H
  exact ah
 ·obtain⟨v1,Hj,H⟩:=ob H
  refine jA ⟨[(2,tP 0),(3,tP 1),(4,tP 2),(6,tP 3)],[(0,.var 54 (kM [] (je a0))),(1,.var 26 [.d false (.l (a1.aX.map dP))]),(2,.var 54 (kM [] (je eQ))),(3,.var 54 (kM [] (je {a0 with eK:=v1})))],4⟩ ?_ ?_
  ·have H:=Hj
   refine cC H ?_ ?_<;>intro H
   ·cases H
    exact wo
   ·cases H
    exact wo
  refine zI (List.range 9) ?_
  obtain⟨r2,q2,H⟩:=ob H
  refine zA (ca (hF:=Aj q2)) ?_
  refine wA (spx 100350) ?_
  cases H
  exact ah
end Go.AM
