/- A part. -/
import Derived.Test.YtljhooecmjejiaaGreatS0
set_option linter.unusedVariables false
open Option renaming bind→Un
namespace Go.AM
open Go.Proofs
attribute [local irreducible] AWN NS AWO AWR AWC DR cZ eE
set_option maxRecDepth 100000
set_option maxHeartbeats 40000000
def bZ (a0:aH) (a1:Int):Option (Int×aH):=
 bif leB a1 0 then(some (0,a0)) else(bif leB a1 256 then(Un (o6 a0) fun r1=>bif !eqB a1 0 then(some (Int.tmod r1.1 a1,r1.2)) else none) else(Un (o6 a0) fun r2=>Un (o6 r2.2) fun r3=>Un (o6 r3.2) fun r4=>bif !eqB a1 0 then(some (Int.tmod (WR ((WR ((WR (r2.1*65536))+(WR (r3.1*256))))+r4.1)) a1,r4.2)) else none))
theorem bL {a0:aH} {a1:Int} {r:Int×aH} (H:bZ a0 a1=some r):FnW Tryz.prog 74 (.var 143 (kM [.f] (bI a0))) [tP 200,tI a1] (.var 143 (kM [.f] (bI r.2))) [.c (.d (.i .i64 r.1))]:=by
 refine fW Tryz.func74 Tryz.ntmps74 ?_
 refine cC H ?_ ?_<;>intro H
 ·cases H
  exact eB
 ·refine cC H ?_ ?_<;>intro H
  ·obtain⟨r1,q1,H⟩:=ob H
   refine sA (cw (o:=200) (qg q1)) ?_
   obtain⟨h,H⟩:=rq H
   refine nA (ir rfl rfl rfl (ne0 h)) ?_
   cases H
   exact eB
  ·obtain⟨r2,q2,H⟩:=ob H
   refine sA (cw (o:=200) (qg q2)) ?_
   obtain⟨r3,q3,H⟩:=ob H
   refine sA (cw (o:=200) (qg q3)) ?_
   obtain⟨r4,q4,H⟩:=ob H
   refine sA (cw (o:=200) (qg q4)) ?_
   obtain⟨h,H⟩:=rq H
   refine nA (ir rfl rfl rfl (ne0 h)) ?_
   cases H
   exact eB
def kw (a0:aK) (v1:Int) (x2:fc):Int→Option (cB (Int) (cB (Int) (Bool)))
 |v4=>bif ltB v4 ((x2.cT.length:Nat):Int) then(Un (ix x2.cT v4) fun x5=>Un (cz x5 0 (WR (((a0.aX.length:Nat):Int)-1))) fun r6=>Un (bif !r6 then(some true) else(bif eqB x5 v1 then(some true) else(bif ltB 0 v4 then(Un (ix x2.cT (WR (v4-1))) fun x8=>bif leB x5 x8 then(some true) else(Un (ix a0.aX x5) fun x9=>Un (wq x9.cT v1) fun r10=>some (!r10))) else(Un (ix a0.aX x5) fun x11=>Un (wq x11.cT v1) fun r12=>some (!r12))))) fun(v7:Bool)=>bif v7 then(dn (dn (some false))) else(some (.next (WR (v4+1))))) else(dn (some (.next (WR (v1+1)))))
def kv (a0:aK):Int→Option (cB (Int) (Bool))
 |v1=>bif ltB v1 ((a0.aX.length:Nat):Int) then(Un (ix a0.aX v1) fun x2=>Un (cz x2.fT 0 2) fun r3=>bif !r3 then(dn (some false)) else(iter (kw a0 v1 x2) FU 0)) else(dn (Un (cz ((a0.aX.length:Nat):Int) 1 6) fun r13=>some r13))
def ma (a0:aK):Option Bool:=
 iter (kv a0) FU 0
theorem uv {a0:aK} {r:Bool} (H:ma a0=some r):Fn Tryz.prog 122 [.agg (lf a0)] [.c (.d (.b r))]:=by
 refine fI Tryz.func122 Tryz.ntmps122 ?_
 refine iT H (fun q=>⟨[(1,tP 0),(3,tI q)],[(0,.var 26 [.d false (.l (a0.aX.map dP))])],1⟩) ?_
 rintro v1 o H
 try dsimp only
 refine wI ?_
 refine cC H ?_ ?_<;>intro H
 ·obtain⟨x2,hx2,H⟩:=ob H
  refine nA (xdT (enc:=dP) hx2) ?_
  obtain⟨r3,q3,H⟩:=ob H
  refine nA (ca (hF:=bK q3)) ?_
  refine cC H ?_ ?_<;>intro H
  ·obtain⟨r0,Hd,rfl⟩:=dnE H
   refine lT (fun hq=>?_)
   have H:=Hd.trans (congrArg some hq)
   refine wI ?_
   cases H
   exact ah
  ·refine iT H (fun q=>⟨[(1,tP 0),(3,tI v1),(4,tP 1),(5,tI q)],[(0,.var 26 [.d false (.l (a0.aX.map dP))]),(1,.var 157 (kM [.f] (LW x2)))],2⟩) ?_
   rintro v4 o H
   try dsimp only
   refine wI ?_
   refine cC H ?_ ?_<;>intro H
   ·obtain⟨x5,hx5,H⟩:=ob H
    refine nA (xdT (enc:=eI) hx5) ?_
    obtain⟨r6,q6,H⟩:=ob H
    refine nA (ca (hF:=bK q6)) ?_
    obtain⟨v7,Hj,H⟩:=ob H
    refine jR ⟨[(1,tP 0),(3,tI v1),(4,tP 1),(5,tI v4),(71,tB v7)],[(0,.var 26 [.d false (.l (a0.aX.map dP))]),(1,.var 157 (kM [.f] (LW x2)))],2⟩ ?_ ?_
    ·have H:=Hj
     refine gC H ?_ ?_<;>intro H
     ·cases H
      exact wo
     ·refine gC H ?_ ?_<;>intro H
      ·cases H
       exact wo
      ·refine gC H ?_ ?_<;>intro H
       ·obtain⟨x8,hx8,H⟩:=ob H
        refine nG (xdT (enc:=eI) hx8) ?_
        refine gC H ?_ ?_<;>intro H
        ·cases H
         exact wo
        ·obtain⟨x9,hx9,H⟩:=ob H
         refine nG (xdT (enc:=dP) hx9) ?_
         obtain⟨r10,q10,H⟩:=ob H
         refine nG (ca (hF:=xB q10)) ?_
         cases H
         exact wo
       ·obtain⟨x11,hx11,H⟩:=ob H
        refine nG (xdT (enc:=dP) hx11) ?_
        obtain⟨r12,q12,H⟩:=ob H
        refine nG (ca (hF:=xB q12)) ?_
        cases H
        exact wo
    refine cC H ?_ ?_<;>intro H
    ·obtain⟨r0,Hd,rfl⟩:=dnE H
     refine lT (fun hq=>?_)
     have H:=Hd.trans (congrArg some hq)
     refine wI ?_
     obtain⟨r0,Hd,rfl⟩:=dnE H
     refine lT (fun hq=>?_)
     have H:=Hd.trans (congrArg some hq)
     refine wI ?_
     cases H
     exact ah
    ·cases H
     refine ee ?_
     exact wo
   ·obtain⟨r0,Hd,rfl⟩:=dnE H
    refine ed (fun hq=>?_)
    have H:=Hd.trans (congrArg some hq)
    refine wI ?_
    cases H
    refine ee ?_
    exact wo
 ·obtain⟨r0,Hd,rfl⟩:=dnE H
  refine ed (fun hq=>?_)
  have H:=Hd.trans (congrArg some hq)
  refine wI ?_
  obtain⟨r13,q13,H⟩:=ob H
  refine nA (ca (hF:=bK q13)) ?_
  cases H
  exact ah
def fg (a0:bA):Int→Option (cB (Int) (Bool))
 |v1=>bif ltB v1 ((a0.bF.length:Nat):Int) then(Un (ix a0.bF v1) fun x2=>Un (cz x2 0 3) fun r3=>Un (bif !r3 then(some true) else(bif ltB 0 v1 then(Un (ix a0.bF (WR (v1-1))) fun x5=>Un (ix a0.bF v1) fun x6=>some (leB x6 x5)) else(some false))) fun(v4:Bool)=>bif v4 then(dn (some false)) else(some (.next (WR (v1+1))))) else(dn (Un (cz a0.iM 1 1000) fun r7=>Un (bif r7 then(Un (cz a0.iL 1 4) fun r9=>bif r9 then(Un (cz a0.ei 1 100000) fun r10=>some r10) else(some false)) else(some false)) fun(v8:Bool)=>some v8))
def eY (a0:bA):Option Bool:=
 iter (fg a0) FU 0
theorem kz {a0:bA} {r:Bool} (H:eY a0=some r):Fn Tryz.prog 190 [.agg (nN a0)] [.c (.d (.b r))]:=by
 refine fI Tryz.func190 Tryz.ntmps190 ?_
 refine iT H (fun q=>⟨[(1,tP 0),(3,tI q)],[(0,.var 50 (kM [.f] (dE a0)))],1⟩) ?_
 rintro v1 o H
 try dsimp only
 refine wI ?_
 refine cC H ?_ ?_<;>intro H
 ·refine dI ?_
  obtain⟨x2,hx2,H⟩:=ob H
  refine dA (xdT (enc:=eI) hx2) ?_
  obtain⟨r3,q3,H⟩:=ob H
  refine dA (ca (hF:=bK q3)) ?_
  obtain⟨v4,Hj,H⟩:=ob H
  refine fR ⟨[(1,tP 0),(3,tI v1),(35,tB v4)],[(0,.var 50 (kM [.f] (dE a0)))],1⟩ ?_ ?_
  ·have H:=Hj
   refine wI ?_
   refine dC H ?_ ?_<;>intro H
   ·refine wI ?_
    cases H
    exact wo
   ·refine dC H ?_ ?_<;>intro H
    ·obtain⟨x5,hx5,H⟩:=ob H
     refine dG (xdT (enc:=eI) hx5) ?_
     obtain⟨x6,hx6,H⟩:=ob H
     refine dG (xdT (enc:=eI) hx6) ?_
     refine wI ?_
     cases H
     exact wo
    ·refine wI ?_
     cases H
     exact wo
  refine wI ?_
  refine cC H ?_ ?_<;>intro H
  ·refine wI ?_
   obtain⟨r0,Hd,rfl⟩:=dnE H
   refine lT (fun hq=>?_)
   have H:=Hd.trans (congrArg some hq)
   refine wI ?_
   cases H
   exact ah
  ·refine wI ?_
   cases H
   refine ee ?_
   exact wo
 ·obtain⟨r0,Hd,rfl⟩:=dnE H
  refine ed (fun hq=>?_)
  have H:=Hd.trans (congrArg some hq)
  refine wI ?_
  obtain⟨r7,q7,H⟩:=ob H
  refine nA (ca (hF:=bK q7)) ?_
  obtain⟨v8,Hj,H⟩:=ob H
  refine jR ⟨[(2,tB v8)],[],0⟩ ?_ ?_
  ·have H:=Hj
   refine gC H ?_ ?_<;>intro H
   ·obtain⟨r9,q9,H⟩:=ob H
    refine nG (ca (hF:=bK q9)) ?_
    refine gC H ?_ ?_<;>intro H
    ·obtain⟨r10,q10,H⟩:=ob H
     refine nG (ca (hF:=bK q10)) ?_
     cases H
     exact wo
    ·cases H
     exact wo
   ·cases H
    exact wo
  cases H
  exact ah
def fD (a0:Int):Option Bool:=
 Un (cz a0 1 2147483646) fun r1=>some r1
theorem gj {a0:Int} {r:Bool} (H:fD a0=some r):Fn Tryz.prog 243 [aI a0] [.c (.d (.b r))]:=by
 refine fI Tryz.func243 Tryz.ntmps243 ?_
 obtain⟨r1,q1,H⟩:=ob H
 refine nA (ca (hF:=bK q1)) ?_
 cases H
 exact ah
def eX (a0:dy):Option Bool:=
 Un (cz a0.dL 0 3) fun r1=>Un (bif r1 then(Un (cz a0.bM 0 99) fun r3=>some r3) else(some false)) fun(v2:Bool)=>some v2
theorem ky {a0:dy} {r:Bool} (H:eX a0=some r):Fn Tryz.prog 294 [.agg (rV a0)] [.c (.d (.b r))]:=by
 refine fI Tryz.func294 Tryz.ntmps294 ?_
 obtain⟨r1,q1,H⟩:=ob H
 refine nA (ca (hF:=bK q1)) ?_
 obtain⟨v2,Hj,H⟩:=ob H
 refine jR ⟨[(2,tB v2)],[],0⟩ ?_ ?_
 ·have H:=Hj
  refine gC H ?_ ?_<;>intro H
  ·obtain⟨r3,q3,H⟩:=ob H
   refine nG (ca (hF:=bK q3)) ?_
   cases H
   exact wo
  ·cases H
   exact wo
 cases H
 exact ah
def oV (a0:aC) (a1:bA) (a2:Int):Option ag:=
 Un (ql a1) fun r1=>some {tX with bv:=a0,gN:=r1,an:=(⟨1,[]⟩:a8),bO:={yS with au:=a2}}
theorem Bp {a0:aC} {a1:bA} {a2:Int} {r:ag} (H:oV a0 a1 a2=some r):Fn Tryz.prog 194 [.agg (cm a0),.agg (nN a1),aI a2] [.agg (qM [.o,.z,.z] (cy r))]:=by
 refine fI Tryz.func194 Tryz.ntmps194 ?_
 refine zI (List.range 8) ?_
 obtain⟨r1,q1,H⟩:=ob H
 refine zA (ca (hF:=AF q1)) ?_
 refine wA (spx 100027) ?_
 cases H
 exact ah
def ta (a0:ab) (a1:Int):Option (bJ×ab):=
 Un (ix a0.aQ a1) fun x1=>bif fw a0.aQ 0 a1 then(bif fw a0.aQ (WR (a1+1)) a0.aQ.length then(bif cS 176 (([]:List bJ)++(a0.aQ.take (a1).toNat)).length then(bif cS 176 ((([]:List bJ)++(a0.aQ.take (a1).toNat))++(a0.aQ.drop (WR (a1+1)).toNat)).length then(some (x1,{a0 with aQ:=((([]:List bJ)++(a0.aQ.take (a1).toNat))++(a0.aQ.drop (WR (a1+1)).toNat))})) else none) else none) else none) else none
theorem AO {a0:ab} {a1:Int} {r:bJ×ab} (H:ta a0 a1=some r):FnV Tryz.prog 286 (nS a0) [tP 200,tI a1] (nS r.2) (.v (.agg (kM [.t] (kc r.1)))) []:=by
 refine fV Tryz.func286 Tryz.ntmps286 ?_
 obtain⟨x1,hx1,H⟩:=ob H
 refine bR (iK 193 (hne:=sv (enc:=er) hx1)) ?_
 refine nA (xwT hx1) ?_
 refine nA (oea (he:=fZ _ hx1)) ?_
 refine zI [0,1,2,3,4,5,6,7,9,10,11,12,13,14,15,8,16,17,18,19] ?_
 obtain⟨hs5,H⟩:=rq H
 refine zA (cwhT (enc:=er) hs5 (by first|rfl|simp) rfl rfl rfl rfl) ?_
 obtain⟨hs6,H⟩:=rq H
 refine zA (cwlT (enc:=er) hs6 (by first|rfl|simp) rfl rfl rfl rfl) ?_
 obtain⟨h,H⟩:=rq H
 refine wA (apx (enc:=er) (ys:=([]:List bJ)) (zs:=a0.aQ.take (a1).toNat) [212,193] h (hs:=Qb (enc:=er) hs5 rfl)) ?_
 obtain⟨h,H⟩:=rq H
 refine wA (apx (enc:=er) (ys:=(([]:List bJ)++(a0.aQ.take (a1).toNat))) (zs:=a0.aQ.drop (WR (a1+1)).toNat) [213,193] h (hs:=Qc (enc:=er) hs6 (by first|rfl|simp) rfl)) ?_
 refine wA (spx 100410) ?_
 refine jt (ds:=[212,213]) (by kernel_rfl) (by kernel_rfl) rfl ?_
 refine wI ?_
 cases H
 refine bU (N2 193 214) ?_
 refine bU ((du 193)) ?_
 exact bV
def lA (a0:cH) (a1:Int):Option Bool:=
 some (eqB a1 a0.ug)
theorem uV {a0:cH} {a1:Int} {r:Bool} (H:lA a0 a1=some r):Fn Tryz.prog 371 [.agg (qA a0),aI a1] [.c (.d (.b r))]:=by
 refine fI Tryz.func371 Tryz.ntmps371 ?_
 cases H
 exact ah
def o7 (a0:List ae) (a1:Int):Int→Option (cB (Int) (Int))
 |v1=>bif ltB v1 ((a0.length:Nat):Int) then(Un (ix a0 v1) fun x2=>bif eqB x2.cO a1 then(dn (some v1)) else(some (.next (WR (v1+1))))) else(dn (some (-1)))
def AB (a0:List ae) (a1:Int):Option Int:=
 iter (o7 a0 a1) FU 0
theorem HH {a0:List ae} {a1:Int} {r:Int} (H:AB a0 a1=some r):Fn Tryz.prog 377 [aL (a0.map aE),aI a1] [.c (.d (.i .i64 r))]:=by
 refine fI Tryz.func377 Tryz.ntmps377 ?_
 refine iT H (fun q=>⟨[(0,.v (.c (.d false (.l (a0.map aE))))),(1,tI a1),(5,tI q)],[],0⟩) ?_
 rintro v1 o H
 try dsimp only
 refine wI ?_
 refine cC H ?_ ?_<;>intro H
 ·obtain⟨x2,hx2,H⟩:=ob H
  refine nA (xdT (enc:=aE) hx2) ?_
  refine cC H ?_ ?_<;>intro H
  ·obtain⟨r0,Hd,rfl⟩:=dnE H
   refine lT (fun hq=>?_)
   have H:=Hd.trans (congrArg some hq)
   refine wI ?_
   cases H
   exact ah
  ·cases H
   refine ee ?_
   exact wo
 ·obtain⟨r0,Hd,rfl⟩:=dnE H
  refine ed (fun hq=>?_)
  have H:=Hd.trans (congrArg some hq)
  refine wI ?_
  cases H
  exact ah
def wv (a0:List Int) (a1:Int):Option Int:=
 bif ltB a1 (WR (3+(WR (Int.tdiv ((a0.length:Nat):Int) 12)))) then(some a1) else(some (WR (3+(WR (Int.tdiv ((a0.length:Nat):Int) 12)))))
theorem KL {a0:List Int} {a1:Int} {r:Int} (H:wv a0 a1=some r):Fn Tryz.prog 43 [aL (a0.map eU8),aI a1] [.c (.d (.i .i64 r))]:=by
 refine fI Tryz.func43 Tryz.ntmps43 ?_
 refine nA (iq rfl rfl rfl (by decide)) ?_
 refine cC H ?_ ?_<;>intro H
 ·cases H
  exact ah
 ·cases H
  exact ah
end Go.AM
