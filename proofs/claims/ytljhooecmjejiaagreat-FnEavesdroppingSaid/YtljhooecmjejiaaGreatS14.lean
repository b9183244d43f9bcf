/- A part. -/
import Derived.Test.YtljhooecmjejiaaGreatS9
import Derived.Test.YtljhooecmjejiaaGreatS11
set_option linter.unusedVariables false
open Option renaming bind→Vj
open Int renaming tmod→Vl
open List renaming range→TU,cons_ne_nil→Vk
namespace Go.AM
open Go.Proofs
attribute [local irreducible] AWN NS AWO AWR AWC DR cZ ey
set_option maxRecDepth 100000
set_option maxHeartbeats 40000000
def kS (a0:aM) (a1:List aC) (a2:bB) (a3:Int):(Int×List aj×List ag×List az)→Option (cp (Int×List aj×List ag×List az) (List aj×List ag×List az))
 |(v6,v7,v8,v9)=>bif ltB v6 ((a1.length:Nat):Int) then(Vj (ix a1 v6) fun x17=>bif !eqB ((a0.aZ.length:Nat):Int) 0 then(Vj (ry (⟨x17.ID,x17.eY,x17.cT⟩:mV) (Vl v6 ((a0.aZ.length:Nat):Int))) fun r18=>bif cM 144 (v9++[{r18 with bM:={dv with bm:=r18.bM.bm}}]).length then(Vj (pj x17 a2 v6) fun r19=>bif cM 288 (v8++[{r19 with ax:=[],aq:=(⟨r19.aq.bm,[]⟩:a9)}]).length then(Vj (pf a3) fun r20=>bif cM 48 (v7++[{r20 with aD:=[]}]).length then(some (.next (WR (v6+1),(v7++[{r20 with aD:=[]}]),(v8++[{r19 with ax:=[],aq:=(⟨r19.aq.bm,[]⟩:a9)}]),(v9++[{r18 with bM:={dv with bm:=r18.bM.bm}}])))) else none) else none) else none) else none) else(some (.done (v7,v8,v9)))
def ph (a0:aM) (a1:List aC) (a2:bB) (a3:Int):Option ab:=
 Vj (mw a0) fun r1=>Vj (bif !r1 then(some true) else(Vj (fo a2) fun r3=>bif !r3 then(some true) else(Vj (pF a1) fun r4=>some (!r4)))) fun(v2:Bool)=>bif v2 then(some {cX with dZ:=(⟨[]⟩:aM)}) else(Vj (mA a0) fun r5=>Vj (iter (kS a0 a1 a2 a3) FU (0,([]:List aj),([]:List ag),([]:List az))) fun((v14,v15,v16):List aj×List ag×List az)=>some (⟨r5,v16,v15,v14,[],0,(⟨2,3⟩:bP),0,0⟩:ab))
theorem vg {a0:aM} {a1:List aC} {a2:bB} {a3:Int} {r:ab} (H:ph a0 a1 a2 a3=some r):FnV Tryz.prog 125 [] [.v (.agg [.d false (.l (a0.aZ.map dW))]),.v (.c (.d false (.l (a1.map ct)))),.v (.agg (kM [.f] (dM a2))),tI a3] [] (.v (.agg (kM [.n 210,.n 211,.n 212,.n 213,.z] (aH {r with ay:=[]})))) [(210,Lj r.dZ.aZ),(211,n45 r.am),(212,n60 r.ai),(213,n66 r.bh)]:=by
 refine fV Tryz.func125 Tryz.ntmps125 ?_
 obtain⟨r1,q1,H⟩:=ob H
 refine nA (ca (hF:=ve q1)) ?_
 obtain⟨v2,Hj,H⟩:=ob H
 refine jR ⟨[(1,.v (.c (.d false (.l (a1.map ct))))),(3,tI a3),(4,tP 210),(6,tP 211),(8,tP 212),(24,tB v2)],[(210,.var 26 [.d false (.l (a0.aZ.map dW))]),(211,.var 50 (kM [.f] (dM a2))),(212,.var 34 (kM [.z,.z,.z,.z,.z] (aH {cX with dZ:=(⟨[]⟩:aM)})))],213⟩ ?_ ?_
 ·have H:=Hj
  refine gC H ?_ ?_<;>intro H
  ·cases H
   exact wo
  ·obtain⟨r3,q3,H⟩:=ob H
   refine nG (ca (hF:=kQ q3)) ?_
   refine gC H ?_ ?_<;>intro H
   ·cases H
    exact wo
   ·obtain⟨r4,q4,H⟩:=ob H
    refine nG (ca (hF:=Cv q4)) ?_
    cases H
    exact wo
 refine cC H ?_ ?_<;>intro H
 ·cases H
  refine bV ((c7 (o:=212) (j:=0) 157 2 true)) ?_
  refine bV ((c7 (o:=212) (j:=1) 45 14 true)) ?_
  refine bV ((c7 (o:=212) (j:=2) 60 30 true)) ?_
  refine bV ((c7 (o:=212) (j:=3) 66 4 true)) ?_
  refine bV (wS 213 210) ?_
  refine bV (wS 214 211) ?_
  refine bV (wS 215 212) ?_
  refine bV (wS 216 213) ?_
  refine bV ((wB 210 (([]:List fx).length))) ?_
  refine bV ((wB 211 (([]:List az).length))) ?_
  refine bV ((wB 212 (([]:List ag).length))) ?_
  refine bV ((wB 213 (([]:List aj).length))) ?_
  exact bU
 ·obtain⟨r5,q5,H⟩:=ob H
  refine sA (cwv [] [(210,213)] 214 (IP q5)) ?_
  obtain⟨⟨v14,v15,v16⟩,Hj,H⟩:=ob H
  refine jB ⟨[(8,tP 212),(9,tP 214)],(oM [.n 213,.n 215,.n 216,.n 217,.z] 214 34 (aH (⟨r5,v16,v15,v14,[],0,(⟨2,3⟩:bP),0,0⟩:ab))++[(212,.var 34 (kM [.z,.z,.z,.z,.z] (aH {cX with dZ:=(⟨[]⟩:aM)})))]),218⟩ ?_ ?_
  ·refine iT Hj (fun q=>⟨[(1,.v (.c (.d false (.l (a1.map ct))))),(3,tI a3),(4,tP 210),(6,tP 211),(8,tP 212),(9,tP 214),(10,tI q.1)],(oM [.n 213,.n 215,.n 216,.n 217,.z] 214 34 (aH (⟨r5,q.2.2.2,q.2.2.1,q.2.1,[],0,(⟨2,3⟩:bP),0,0⟩:ab))++[(210,.var 26 [.d false (.l (a0.aZ.map dW))]),(211,.var 50 (kM [.f] (dM a2))),(212,.var 34 (kM [.z,.z,.z,.z,.z] (aH {cX with dZ:=(⟨[]⟩:aM)})))]),218⟩) ?_ (by refine an (c7 (o:=214) (j:=1) 45 14 true) ?_;refine an (c7 (o:=214) (j:=2) 60 30 true) ?_;refine an (c7 (o:=214) (j:=3) 66 4 true) ?_;refine an (wB 215 (([]:List az).length)) ?_;refine an (wB 216 (([]:List ag).length)) ?_;refine an (wB 217 (([]:List aj).length)) ?_;exact wo)
   rintro⟨v6,v7,v8,v9⟩ o H
   try dsimp only
   refine wI ?_
   refine cC H ?_ ?_<;>intro H
   ·obtain⟨x17,hx17,H⟩:=ob H
    refine nA (xdT (enc:=ct) hx17) ?_
    refine zI (TU 19) ?_
    obtain⟨h,H⟩:=rq H
    refine zA (ir rfl rfl rfl (ne0 h)) ?_
    obtain⟨r18,q18,H⟩:=ob H
    refine zA (ca (hF:=ER q18)) ?_
    obtain⟨h,H⟩:=rq H
    refine zB bO (f8 rfl (xL (enc:=dE) (ys:=v9) (zs:=[{r18 with bM:={dv with bm:=r18.bM.bm}}]) h (by first|exact Vk _ _|simp) rfl (fun _=>rfl) (by first|rfl|simp) (.w rfl (by first|rfl|exact lm _|simp)) rfl rfl rfl rfl rfl rfl rfl rfl rfl rfl)) bO ?_
    refine wA (spx 100072) ?_
    refine zI (TU 10) ?_
    obtain⟨r19,q19,H⟩:=ob H
    refine zA (ca (hF:=(Cs q19).frzs (by repeat (first|exact trivial|refine⟨?_,?_⟩|exact lm _|rfl)))) ?_
    obtain⟨h,H⟩:=rq H
    refine zB bO (f8 rfl (xL (enc:=bZ) (ys:=v8) (zs:=[{r19 with ax:=[],aq:=(⟨r19.aq.bm,[]⟩:a9)}]) h (by first|exact Vk _ _|simp) rfl (fun _=>rfl) (by first|rfl|simp) (.w rfl (by first|rfl|exact lm _|simp)) rfl rfl rfl rfl rfl rfl rfl rfl rfl rfl)) bO ?_
    refine wA (spx 100071) ?_
    refine zI (TU 8) ?_
    obtain⟨r20,q20,H⟩:=ob H
    refine zA (ca (hF:=Cr q20)) ?_
    obtain⟨h,H⟩:=rq H
    refine zB bO (f8 rfl (xL (enc:=dB) (ys:=v7) (zs:=[{r20 with aD:=[]}]) h (by first|exact Vk _ _|simp) rfl (fun _=>rfl) (by first|rfl|simp) (.w rfl (by first|rfl|exact lm _|simp)) rfl rfl rfl rfl rfl rfl rfl rfl rfl rfl)) bO ?_
    refine wA (spx 100070) ?_
    cases H
    refine dU ?_
    refine an (c8 215) ?_
    refine an (c8 216) ?_
    refine an (c8 217) ?_
    exact wo
   ·cases H
    refine dT (fun hq=>?_)
    cases hq
    refine wI ?_
    exact wo
  cases H
  refine bV (wS 213 210) ?_
  refine bV (wS 215 211) ?_
  refine bV (wS 216 212) ?_
  refine bV (wS 217 213) ?_
  exact bU
def tC (a0:az):Option aU:=
 bif !eqB a0.bi 0 then(Vj (oJ a0) fun r1=>some r1) else(Vj (ic a0) fun r2=>Vj (oI a0) fun r3=>Vj (jJ {r2 with bi:=1} r3) fun r4=>some r4)
theorem Bi {a0:az} {r:aU} (H:tC a0=some r):Fn Tryz.prog 131 [.agg (dE a0)] [.agg (qM [.d,.d,.o] (cA r))]:=by
 refine fI Tryz.func131 Tryz.ntmps131 ?_
 refine cC H ?_ ?_<;>intro H
 ·obtain⟨r1,q1,H⟩:=ob H
  refine nA (ca (hF:=rF q1)) ?_
  cases H
  refine cG (aV (o:=2)) ?_
  refine cG (aV (o:=3)) ?_
  refine cG (dx (o:=1)) ?_
  exact ah
 ·obtain⟨r2,q2,H⟩:=ob H
  refine nA (ca (hF:=gT q2)) ?_
  refine zI (TU 5) ?_
  obtain⟨r3,q3,H⟩:=ob H
  refine zA (ca (hF:=xu q3)) ?_
  obtain⟨r4,q4,H⟩:=ob H
  refine zB (an (aV (o:=2)) (an (aV (o:=3)) (cI (k:=12)))) (f8 rfl (cwu [] [(210,5)] 6 (FnV.up (oK q4) rfl rfl))) bO ?_
  refine wA (spx 100080) ?_
  cases H
  exact ah
def lL (a0:Int) (a1:Int):Option Int:=
 Vj (ec a0 [9,a1]) fun r1=>Vj (Bf 1 r1) fun r2=>some r2
theorem rr {a0:Int} {a1:Int} {r:Int} (H:lL a0 a1=some r):Fn Tryz.prog 223 [aI a0,aI a1] [.c (.d (.i .i64 r))]:=by
 refine fI Tryz.func223 Tryz.ntmps223 ?_
 obtain⟨r1,q1,H⟩:=ob H
 refine nA (ca (hF:=d7 q1)) ?_
 obtain⟨r2,q2,H⟩:=ob H
 refine nA (ca (hF:=ym q2)) ?_
 cases H
 exact ah
def yB (a0:Int) (a1:bb):Option Int:=
 Vj (ny a1.aQ) fun r1=>bif cM 8 ([a1.cf,a1.em]++r1).length then(Vj (ec a0 ([a1.cf,a1.em]++r1)) fun r2=>some r2) else none
theorem Hy {a0:Int} {a1:bb} {r:Int} (H:yB a0 a1=some r):Fn Tryz.prog 147 [aI a0,.agg (ei a1)] [.c (.d (.i .i64 r))]:=by
 refine fI Tryz.func147 Tryz.ntmps147 ?_
 refine zI (TU 12) ?_
 obtain⟨r1,q1,H⟩:=ob H
 refine zA (ca (hF:=Bb q1)) ?_
 obtain⟨h,H⟩:=rq H
 refine wA (B2 (enc:=eI) (ys:=[a1.cf,a1.em]) (zs:=r1) [1,2] h) ?_
 obtain⟨r2,q2,H⟩:=ob H
 refine zA (ca (hF:=d7 q2)) ?_
 refine iV (ds:=[1]) (by kernel_rfl) (by kernel_rfl) rfl ?_
 refine wI ?_
 cases H
 exact ah
def tu (a0:Int) (a1:List Int):(Int×List Int)→Option (cp (Int×List Int) (List Int))
 |(v1,v2)=>bif ltB v1 ((a1.length:Nat):Int) then(Vj (ix a1 v1) fun x6=>Vj (ec a0 [v1]) fun r7=>bif cM 1 (v2++[IntKind.u8.wrap (Vl (WR ((WR (x6))+(Vl r7 256))) 256)]).length then(some (.next (WR (v1+1),(v2++[IntKind.u8.wrap (Vl (WR ((WR (x6))+(Vl r7 256))) 256)])))) else none) else(some (.done v2))
def xb (a0:Int) (a1:List Int):Option (List Int):=
 Vj (iter (tu a0 a1) FU (0,([]:List Int))) fun(v5:List Int)=>some v5
theorem IG {a0:Int} {a1:List Int} {r:List Int} (H:xb a0 a1=some r):Fn Tryz.prog 340 [aI a0,aL (a1.map eU8)] [.c (.own 5 1 (r.map eU8) r.length)]:=by
 refine fI Tryz.func340 Tryz.ntmps340 ?_
 obtain⟨v5,Hj,H⟩:=ob H
 refine jB ⟨[(5,.v (.c (.w 0 v5.length)))],[(0,w5 v5)],1⟩ ?_ ?_
 ·refine iT Hj (fun q=>⟨[(0,tI a0),(1,.v (.c (.d false (.l (a1.map eU8))))),(5,.v (.c (.w 0 q.2.length))),(6,tI q.1)],[(0,w5 q.2)],1⟩) ?_
  rintro⟨v1,v2⟩ o H
  try dsimp only
  refine wI ?_
  refine cC H ?_ ?_<;>intro H
  ·refine pV [0,1,2,3,4,5,6,7,8,9,10,11,12,13,14,15,16] (h:=?_)
   refine wkb ?_
   obtain⟨x6,hx6,H⟩:=ob H
   refine iA rfl (xdT (enc:=eU8) hx6) ?_
   refine wkb ?_
   refine xS rfl (bsx (bs rfl rfl rfl rfl rfl rfl rfl rfl) rfl) ?_
   refine wkb ?_
   obtain⟨r7,q7,H⟩:=ob H
   refine iA rfl (ca (hF:=d7 q7)) ?_
   refine wkb ?_
   refine iA rfl (ir rfl rfl rfl (by decide)) ?_
   refine wkb ?_
   refine iA rfl (ir rfl rfl rfl (by decide)) ?_
   refine wkb ?_
   refine iA rfl (bs rfl rfl rfl rfl rfl rfl rfl rfl) ?_
   refine wkb ?_
   obtain⟨h,H⟩:=rq H
   refine xS rfl (B2 (enc:=eU8) (ys:=v2) (zs:=[IntKind.u8.wrap (Vl (WR ((WR (x6))+(Vl r7 256))) 256)]) [0,2] h) ?_
   refine wkb ?_
   refine iV (ds:=[0]) (by kernel_rfl) (by kernel_rfl) rfl ?_
   refine wI ?_
   cases H
   refine dU ?_
   refine an (wS 0 3) ?_
   exact wo
  ·cases H
   refine dT (fun hq=>?_)
   cases hq
   refine wI ?_
   exact wo
 cases H
 exact ah
def jD (a0:Int) (a1:Int):Option Int:=
 Vj (ec a0 [1,a1]) fun r1=>Vj (Cp r1 1000000) fun r2=>some r2
theorem sj {a0:Int} {a1:Int} {r:Int} (H:jD a0 a1=some r):Fn Tryz.prog 341 [aI a0,aI a1] [.c (.d (.i .i64 r))]:=by
 refine fI Tryz.func341 Tryz.ntmps341 ?_
 obtain⟨r1,q1,H⟩:=ob H
 refine nA (ca (hF:=d7 q1)) ?_
 obtain⟨r2,q2,H⟩:=ob H
 refine nA (ca (hF:=vL q2)) ?_
 cases H
 exact ah
def iG (a0:dF) (a1:Int):Option Int:=
 Vj (ec 29 [a0.dR,a0.bN,a1]) fun r1=>some r1
theorem qy {a0:dF} {a1:Int} {r:Int} (H:iG a0 a1=some r):Fn Tryz.prog 315 [.agg (sQ a0),aI a1] [.c (.d (.i .i64 r))]:=by
 refine fI Tryz.func315 Tryz.ntmps315 ?_
 obtain⟨r1,q1,H⟩:=ob H
 refine nA (ca (hF:=d7 q1)) ?_
 cases H
 exact ah
end Go.AM
