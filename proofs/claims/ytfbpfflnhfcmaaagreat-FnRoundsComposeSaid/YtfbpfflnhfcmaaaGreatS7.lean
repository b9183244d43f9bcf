/- A part. -/
import Derived.Test.YtfbpfflnhfcmaaaGreatS1
import Derived.Test.YtfbpfflnhfcmaaaGreatS2
import Derived.Test.YtfbpfflnhfcmaaaGreatS3
import Derived.Test.YtfbpfflnhfcmaaaGreatS4
set_option linter.unusedVariables false
open Option renaming some->ς,none->ξ
open Bool renaming true->ζ,false->η
open True renaming intro->θ
open Option renaming bind->acE
namespace Go.AM
open Go.Proofs
open Tryz
attribute [local irreducible] AWN NS AWO AWR AWC DR DZ du gr iter
set_option maxRecDepth 100000
set_option maxHeartbeats 40000000
variable{a0:Go.AM.aj}
def pA(a0:aZ)(v1:Int)(x2:dY):Int->Option (ci (Int) (ci (Int) (Bool)))
 |v4=>cond (ltB v4 (x2.cM.length:Int)) (acE (ix x2.cM v4) λx5=>acE (dD x5 0 (WR ((a0.bp.length:Int)-1))) λr6=>acE (cond (!r6) (ς ζ) (cond (eqB x5 v1) (ς ζ) (cond (ltB 0 v4) (acE (ix x2.cM (WR (v4-1))) λx8=>cond (leB x5 x8) (ς ζ) (acE (ix a0.bp x5) λx9=>acE (Ap x9.cM v1) λr10=>ς (!r10))) (acE (ix a0.bp x5) λx11=>acE (Ap x11.cM v1) λr12=>ς (!r12))))) λ(v7:Bool)=>cond v7 (dn (dn (ς η))) (ς (.next (WR (v4+1))))) (dn (ς (.next (WR (v1+1)))))
def pz(a0:aZ):Int->Option (ci (Int) (Bool))
 |v1=>cond (ltB v1 (a0.bp.length:Int)) (acE (ix a0.bp v1) λx2=>acE (dD x2.fF 0 2) λr3=>cond (!r3) (dn (ς η)) (iter (pA a0 v1 x2) FU 0)) (dn (acE (dD (a0.bp.length:Int) 1 6) λr13=>ς r13))
def rj(a0:aZ):Option Bool:=
 iter (pz a0) FU 0
instance YB{a0:aZ}{r:Bool}:FC prog (rj a0=ς r) 58 [.agg (fT a0)] [.c (.d (.b r))]:=gG func58 ntmps58 (hl 0 3) (hl 2 5) (hb 42 71)
def pD(a0:aZ)(a1:List aU)(a2:bO)(a3:Int):(Int×List aj×List ag×List aC)->Option (ci (Int×List aj×List ag×List aC) (List aj×List ag×List aC))
 |(v6,v7,v8,v9)=>cond (ltB v6 (a1.length:Int)) (acE (ix a1 v6) λx17=>cond (!eqB (a0.bp.length:Int) 0) (acE (xC (⟨x17.ID,x17.fA,x17.cX⟩:jG) (Int.tmod v6 (a0.bp.length:Int))) λr18=>cond (cW 144 (v9++[{r18 with bW:={cS with bB:=r18.bW.bB}}]).length) (acE (rr x17 a2 v6) λr19=>cond (cW 288 (v8++[{r19 with aS:=[],aK:=(⟨r19.aK.bB,[]⟩:aV)}]).length) (acE (rp a3) λr20=>cond (cW 48 (v7++[{r20 with an:=[]}]).length) (ς (.next (WR (v6+1),(v7++[{r20 with an:=[]}]),(v8++[{r19 with aS:=[],aK:=(⟨r19.aK.bB,[]⟩:aV)}]),(v9++[{r18 with bW:={cS with bB:=r18.bW.bB}}])))) ξ) ξ) ξ) ξ) (ς (.done (v7,v8,v9)))
def uR(a0:aZ)(a1:List aU)(a2:bO)(a3:Int):Option ae:=
 acE (rj a0) λr1=>acE (cond (!r1) (ς ζ) (acE (gX a2) λr3=>cond (!r3) (ς ζ) (acE (vd a1) λr4=>ς (!r4)))) λ(v2:Bool)=>cond v2 (ς {eE with d7:=(⟨[]⟩:aZ)}) (acE (ry a0) λr5=>acE (iter (pD a0 a1 a2 a3) FU (0,([]:List aj),([]:List ag),([]:List aC))) λ((v14,v15,v16):List aj×List ag×List aC)=>ς (⟨r5,v16,v15,v14,[],0,(⟨2,3⟩:bE),0,0⟩:ae))
instance AZ{a0:aZ}{a1:List aU}{a2:bO}{a3:Int}{r:ae}:FCV prog (uR a0 a1 a2 a3=ς r) 132 [] [.v (.agg [.d η (.l (a0.bp.map eL))]),.v (.c (.d η (.l (a1.map er)))),.v (.agg (kM [.f] (oO a2))),tI a3] [] (.v (.agg (kM [.n 210,.n 211,.n 212,.n 213,.z] (bF {r with aT:=[]})))) [(210,Sk r.d7.bp),(211,n67 r.ax),(212,n93 r.aJ),(213,Bp r.bD)]:=gV func132 ntmps132 (hb 15 24) (hL 0 (λ(v:Int×List aj×List ag×List aC) sl ob nx=>⟨(10,tI v.1)::xS [217,216,215,213] sl,[(215,n67 v.2.2.2),(216,n93 v.2.2.1),(217,Bp v.2.1)]++(uC 214 1 [.wn 215 v.2.2.2.length,.wn 216 v.2.2.1.length,.wn 217 v.2.1.length] ob),218⟩)) (hB 0 (λ(v:List aj×List ag×List aC) sl ob nx=>⟨(10,.any)::xS [217,216,215,213] sl,[(215,n67 v.2.2),(216,n93 v.2.1),(217,Bp v.1)]++(uC 214 1 [.wn 215 v.2.2.length,.wn 216 v.2.1.length,.wn 217 v.1.length] ob),218⟩)) (hz 10) (hx 63) (hz 9) (hz 8)
def kP(a0:aj):Int->Option (ci (Int) (Bool))
 |v1=>cond (ltB v1 (a0.an.length:Int)) (acE (ix a0.an v1) λx2=>acE (cond (ltB x2.aO 0) (ς ζ) (acE (ix a0.an v1) λx4=>acE (dD x4.ea 1 100000) λr5=>cond (!r5) (ς ζ) (cond (ltB 0 v1) (acE (ix a0.an (WR (v1-1))) λx6=>acE (ix a0.an v1) λx7=>ς (leB x7.aO x6.aO)) (ς η)))) λ(v3:Bool)=>cond v3 (dn (ς η)) (ς (.next (WR (v1+1))))) (dn (acE (dD a0.gm 0 100000) λr8=>acE (cond r8 (acE (dD a0.bK 0 a0.gm) λr10=>cond r10 (acE (dD a0.eR 0 a0.gm) λr11=>cond r11 (cond (leB (a0.an.length:Int) 8) (acE (pK a0) λr12=>ς (eqB (WR ((WR (a0.bK+a0.eR))+r12)) a0.gm)) (ς η)) (ς η)) (ς η)) (ς η)) λ(v9:Bool)=>ς v9))
def gp(a0:aj):Option Bool:=
 iter (kP a0) FU 0
instance QJ{r:Bool}:FC prog (gp a0=ς r) 111 [.agg (dh a0)] [.c (.d (.b r))]:=gG func111 ntmps111 (hl 0 3) (hb 18 47) (hb 51 2)
def fY(a0:aj)(a1:cY):Option Bool:=
 acE (gp a0) λr1=>acE (cond r1 (acE (iB a1) λr3=>cond r3 (acE (iy a0 a1.aO) λr4=>ς (eqB r4 a1.cP)) (ς η)) (ς η)) λ(v2:Bool)=>ς v2
instance KD{a1:cY}{r:Bool}:FC prog (fY a0 a1=ς r) 112 [.agg (dh a0),.agg (nE a1)] [.c (.d (.b r))]:=gG func112 ntmps112 (hb 7 4)
def GI(a0:aj)(a1:Int)(a2:Int):Option (aj×Bool):=
 acE (mw a0) λr1=>acE (gp a0) λr2=>acE (cond (!r2) (ς ζ) (acE (iy a0 a1) λr4=>acE (dD a2 0 r4) λr5=>ς (!r5))) λ(v3:Bool)=>cond v3 (ς (r1,η)) (acE (cond (ltB 0 a2) (acE (my a0 a1) λr9=>acE (CK a0.an r9 a2) λr10=>ς {r1 with eR:=WR (a0.eR+a2),an:=r10}) (ς r1)) λ(v8:aj)=>ς (v8,ζ))
instance sDebit_c{a1:Int}{a2:Int}{r:aj×Bool}:FC prog (GI a0 a1 a2=ς r) 334 [.agg (dh a0),aI a1,aI a2] [.agg (qM [.o] (cO r.1)),.c (.d (.b r.2))]:=gG func334 ntmps334 (hb 14 21) (hC 24 (λ(v:aj) sl ob nx=>⟨xS [4,2] sl,oM [.w 4] 3 107 (cO v)++fO [2] ob,5⟩)) (hz 6)
def sT(a0:aj)(a1:cY):Option (aj×cY):=
 acE (fY a0 a1) λr1=>cond (!r1) (acE (mw a0) λr2=>ς (r2,a1)) (acE (GI a0 a1.aO a1.eH) λr3=>ς (r3.1,(⟨a1.aO,WR (a1.cP-a1.eH),0⟩:cY)))
instance GP{a1:cY}{r:aj×cY}:FC prog (sT a0 a1=ς r) 314 [.agg (dh a0),.agg (nE a1)] [.agg (qM [.o] (cO r.1)),.agg (qM [] (z2 r.2))]:=gG func314 ntmps314 (hz 2) (hz 4)
def zh(a0:aj)(a1:Int)(a2:Int):Option (aj×Int):=
 acE (mw a0) λr1=>acE (gp a0) λr2=>acE (cond (!r2) (ς ζ) (cond (ltB a1 0) (ς ζ) (acE (dD a2 1 100000) λr4=>cond (!r4) (ς ζ) (cond (eqB a0.bK 0) (ς ζ) (cond (leB 8 (a0.an.length:Int)) (acE (my a0 a1) λr5=>ς (ltB r5 0)) (ς η)))))) λ(v3:Bool)=>cond v3 (ς (r1,0)) (acE (GM a2 a0.bK) λr6=>acE (EL a0.an a1 r6) λr7=>ς ({r1 with bK:=WR (a0.bK-r6),an:=r7},r6))
instance sReserve_c{a1:Int}{a2:Int}{r:aj×Int}:FC prog (zh a0 a1 a2=ς r) 336 [.agg (dh a0),aI a1,aI a2] [.agg (qM [.o] (cO r.1)),.c (.d (.i .i64 r.2))]:=gG func336 ntmps336 (hb 14 39)
def qI(a0:aj)(a1:cY)(a2:Int):Option (aj×cY):=
 acE (zh a0 a1.aO a2) λr1=>acE (fY a0 a1) λr2=>acE (cond (!r2) (ς ζ) (acE (iB {a1 with cP:=WR (a1.cP+r1.2)}) λr4=>ς (!r4))) λ(v3:Bool)=>cond v3 (acE (mw a0) λr5=>ς (r5,a1)) (ς (r1.1,{a1 with cP:=WR (a1.cP+r1.2)}))
instance T3{a1:cY}{a2:Int}{r:aj×cY}:FC prog (qI a0 a1 a2=ς r) 381 [.agg (dh a0),.agg (nE a1),aI a2] [.agg (qM [.o] (cO r.1)),.agg (qM [] (z2 r.2))]:=gG func381 ntmps381 (hb 29 33) (hz 5) (hz 6)
def zg(a0:aj)(a1:Int):Option aj:=
 acE (mw a0) λr1=>acE (iy a0 a1) λr2=>acE (gp a0) λr3=>acE (cond (!r3) (ς ζ) (ς (eqB r2 0))) λ(v4:Bool)=>cond v4 (ς r1) (acE (my a0 a1) λr5=>acE (CK a0.an r5 r2) λr6=>ς {r1 with bK:=WR (a0.bK+r2),an:=r6})
instance sRelease_c{a1:Int}{r:aj}:FC prog (zg a0 a1=ς r) 335 [.agg (dh a0),aI a1] [.agg (qM [.o] (cO r))]:=gG func335 ntmps335 (hb 15 18) (hz 6)
def D3:(Int×av×aj)->Option (ci (Int×av×aj) (av×aj))
 |(v4,v12,v13)=>cond (ltB 0 v4) (acE (bC v12 4) λr49=>acE (bC r49.2 4) λr50=>acE (cond (eqB r50.1 0) (acE (iy v13 r49.1) λr60=>acE (bC r50.2 (WR (1+r60))) λr61=>acE (GI v13 r49.1 r61.1) λr62=>ς (r61.2,r62.1)) (acE (cond (eqB r50.1 1) (acE (zg v13 r49.1) λr72=>ς (r50.2,r72)) (acE (bC r50.2 15) λr73=>acE (zh v13 r49.1 (WR (1+r73.1))) λr74=>ς (r73.2,r74.1))) λ((v70,v71):av×aj)=>ς (v70,v71))) λ((v58,v59):av×aj)=>ς (.next (WR (v4-1),v58,v59))) (ς (.done (v12,v13)))
def CL(a0:av):Option (aj×av):=
 acE (bC a0 60) λr1=>acE (rp (WR (10+r1.1))) λr2=>acE (bC r1.2 9) λr3=>acE (iter (D3) FU (r3.1,r3.2,{r2 with an:=([]:List aH)})) λ((v47,v48):av×aj)=>ς (v48,v47)
instance OG{a0:av}{r:aj×av}:FCV prog (CL a0=ς r) 277 [(200,.var 124 (kM [.f] (be a0)))] [tP 200] [(200,.var 124 (kM [.f] (be r.2)))] (.v (.agg (kM [.n 210] (cO r.1)))) [(210,n165 r.1.an)]:=gV func277 ntmps277 (hL 0 (λ(v:Int×av×aj) sl ob nx=>⟨(4,tI v.1)::xS [212] sl,oM [.n 212] 211 107 (cO v.2.2)++[(200,.var 124 (kM [.f] (be v.2.1)))]++ob,213⟩)) (hB 0 (λ(v:av×aj) sl ob nx=>⟨(4,.any)::xS [212] sl,oM [.n 212] 211 107 (cO v.2)++[(200,.var 124 (kM [.f] (be v.1)))]++ob,213⟩)) (hC 29 (λ(v:av×aj) sl ob nx=>⟨xS [213,212] sl,oM [.w 213] 211 107 (cO v.2)++[(200,.var 124 (kM [.f] (be v.1)))]++fO [212] ob,214⟩)) (hz 9) (hC 43 (λ(v:av×aj) sl ob nx=>⟨xS [213] sl,oM [.w 213] 211 107 (cO v.2)++[(200,.var 124 (kM [.f] (be v.1)))]++ob,214⟩)) (hz 7)
def EM(a0:av):Option (aj×av):=
 acE (CL a0) λr1=>acE (bC r1.2 10) λr2=>acE (cond (eqB r2.1 0) (acE (g4 r2.2 [1,-1]) λr12=>ς (r12.2,{r1.1 with bK:=WR (r1.1.bK+r12.1)})) (acE (cond (eqB r2.1 1) (acE (g4 r2.2 [-1,100000,100001]) λr20=>ς (r20.2,{r1.1 with gm:=r20.1})) (acE (cond (eqB r2.1 2) (acE (bC r2.2 4) λr26=>acE (bC r26.2 3) λr27=>cond (cW 16 (r1.1.an++[(⟨r26.1,r27.1⟩:aH)]).length) (ς ((r1.1.an++[(⟨r26.1,r27.1⟩:aH)]),r27.2)) ξ) (ς (r1.1.an,r2.2))) λ((v24,v25):List aH×av)=>ς (v25,{r1.1 with an:=v24}))) λ((v18,v19):av×aj)=>ς (v18,v19))) λ((v10,v11):av×aj)=>ς (v11,v10)
instance Tj{a0:av}{r:aj×av}:FCV prog (EM a0=ς r) 190 [(200,.var 124 (kM [.f] (be a0)))] [tP 200] [(200,.var 124 (kM [.f] (be r.2)))] (.v (.agg (kM [.n 210] (cO r.1)))) [(210,n165 r.1.an)]:=⟨λH=>by
 refine fV func190 ntmps190 ?_
 refine aa H λr1 q1 H=>sA (cwv [(200,200)] [(210,211)] 212 (OG.h q1)) ?_
 refine aa H λr2 q2 H=>sA (cw (o:=200) (cr.h q2)) ?_
 obtain⟨⟨v10,v11⟩,Hj,H⟩:=ob H
 refine jA ⟨[(2,tP 210),(3,tP 212)],(oM [.n 211] 212 107 (cO v11)++[(200,.var 124 (kM [.f] (be v10))),(210,.var 107 (kM [.z] (cO qt)))]),213⟩ ?_ ?_
 .refine cC Hj ?_ ?_<;>intro H
  .refine kx [0,1,2,3,4,5,6,7] (h:=?_)
   refine wkb ?_
   refine rE rfl (bsx (bs rfl rfl rfl rfl rfl rfl rfl rfl) rfl) ?_
   refine wkb ?_
   refine aa H λr12 q12 H=>rE rfl (cwx (o:=200) (wC.h q12)) ?_
   refine wkb ?_
   refine rE rfl (spx 101122) ?_
   refine wkb ?_
   refine wI ?_
   exact ai H
  obtain⟨⟨v18,v19⟩,Hj,H⟩:=ob H
  refine jA ⟨[(2,tP 210),(3,tP 212)],(oM [.n 211] 212 107 (cO v19)++[(200,.var 124 (kM [.f] (be v18))),(210,.var 107 (kM [.z] (cO qt)))]),213⟩ ?_ ?_
  .refine cC Hj ?_ ?_<;>intro H
   .refine aa H λr20 q20 H=>dW (dK (o:=213)) ?_
    refine dW (di (k:=20)) ?_
    refine sA (cw (o:=200) (wC.h q20)) ?_
    exact ai H
   obtain⟨⟨v24,v25⟩,Hj,H⟩:=ob H
   refine jA ⟨[(2,tP 210),(3,tP 212)],(oM [.n 211] 212 107 (cO {r1.1 with an:=v24})++[(200,.var 124 (kM [.f] (be v25))),(210,.var 107 (kM [.z] (cO qt)))]),213⟩ ?_ ?_
   .refine cC Hj ?_ ?_<;>intro H
    .refine zI (List.range 11) ?_
     refine aa H λr26 q26 H=>wA (cwx (o:=200) (cr.h q26)) ?_
     refine aa H λr27 q27 H=>wA (cwx (o:=200) (cr.h q27)) ?_
     obtain⟨h,H⟩:=rq H
     refine zB cA (kz rfl (Jp (enc:=cf) (ys:=r1.1.an) (zs:=[(⟨r26.1,r27.1⟩:aH)]) h (by first|exact List.cons_ne_nil _ _|simp) rfl (λ_=>rfl) (by first|rfl|simp) (.w rfl (by first|rfl|exact lm _|simp)) rfl rfl rfl rfl rfl rfl rfl rfl rfl rfl)) cA ?_
     refine wA (spx 101126) ?_
     cases H
     refine aP (fZ 211) ?_
     exact wo
    exact ai H
   exact ai H
  exact ai H
 cases H
 refine bM (wS 211 210) ?_
 exact dy⟩
end Go.AM
