/- A part. -/
import Derived.Test.YtigcecmbknoijaaGreatDoorS11
import Derived.Test.YtigcecmbknoijaaGreatDoorS12
import Derived.Test.YtigcecmbknoijaaGreatDoorS13
import Derived.Test.YtigcecmbknoijaaGreatDoorS14
set_option linter.unusedVariables false
open Option renaming some->ς,none->ξ
open Bool renaming true->ζ,false->η
open True renaming intro->θ
open Option renaming bind->ZU
namespace Go.AM
open Go.Proofs
open Tryz
attribute [local irreducible] AWN NS AWO AWR AWC DR DZ cM eN iter
set_option maxRecDepth 100000
set_option maxHeartbeats 40000000
def zy21(a0:Int)(a1:Int)(a2:Int)(a3:aF):Option (ab×Bool):=
 ZU (cond (!eqB a3.ag a1) (ς ζ) (cond (!eqB a3.aZ a2) (ς ζ) (ZU (nf a0 a3) λr2=>ς (!r2)))) λ(v1:Bool)=>cond v1 (ς (kV,η)) (ZU (pJ a0 a2) λr3=>ZU (xQ r3 1 0 a3.bH) λr4=>ς ((⟨r4.2.1,r4.1⟩:ab),r4.2.2))
instance UY{a0:Int}{a1:Int}{a2:Int}{a3:aF}{r:ab×Bool}:FC prog (zy21 a0 a1 a2 a3=ς r) 134 [aI a0,aI a1,aI a2,.agg (ev a3)] [.agg (qM [.d] (dR r.1)),.c (.d (.b r.2))]:=gG func134 ntmps134 (hb 17 28)
def zy22(a0:ax)(a1:aF):Option bv:=
 ZU (zy21 a0.bj a0.ag a0.aZ a1) λr1=>ZU (cond (!eqB a0.bB 2) (ς ζ) (ς (!r1.2))) λ(v2:Bool)=>cond v2 (ZU (qs a0) λr3=>ς r3) (ZU (jJ a0) λr4=>ZU (mX a0.bL r1.1) λr5=>ZU (iB a0.bj (⟨8,a0.bg,a0.ag,a0.aZ,r5.bF,c8,0⟩:aT)) λr6=>ς (⟨{r4 with bL:=r5},[r6]⟩:bv))
instance zy23{a0:ax}{a1:aF}{r:bv}:FC prog (zy22 a0 a1=ς r) 86 [.agg (eh a0),.agg (ev a1)] [.agg (qM [.d,.o,.o] (eE r))]:=gG func86 ntmps86 (hb 23 26)
def zy24(a0:ae)(a1:dF):Int->Option (cH (Int) (Bool))
 |v4=>cond (ltB v4 (a0.aV.length:Int)) (ZU (ix a0.aV v4) λx5=>ZU (nz x5 a1.bS) λr6=>cond r6 (dn (ς ζ)) (ς (.next (WR (v4+1))))) (dn (ZU (ix a0.av a1.bS.bk) λx7=>ZU (cond a1.bS.cS (ς (!a1.bS.dm)) (ς η)) λ(v8:Bool)=>cond v8 (ZU (cond (ltB a1.bS.cA.ag x7.ag) (ς ζ) (cond (eqB a1.bS.cA.ag x7.ag) (ZU (nf x7.bj a1.bS.cA) λr10=>ς (!r10)) (ς η))) λ(v9:Bool)=>ς v9) (cond a1.bS.cS (ς ζ) (cond a1.bS.dm (ZU (ix a0.aD a1.bS.bk) λx11=>ZU (nB x11 a1.bS.bh) λr12=>ς r12) (ZU (kS x7 a1.bS.bh) λr13=>ς r13)))))
def zy25(a0:ae)(a1:dF):Option Bool:=
 ZU (cond (!eqB a1.bp 13) (ς ζ) (ZU (lE a0) λr2=>cond (!r2) (ς ζ) (ZU (jw a0 a1.bS) λr3=>ς (!r3)))) λ(v1:Bool)=>cond v1 (ς ζ) (iter (zy24 a0 a1) FU 0)
instance Dy{a0:ae}{a1:dF}{r:Bool}:FC prog (zy25 a0 a1=ς r) 189 [.agg (kK a0),.agg (AF a1)] [.c (.d (.b r))]:=gG func189 ntmps189 (hb 13 23) (hl 0 6) (hb 47 44) (hb 58 4)
def zy26(a0:aj)(a1:ae):Option (dF×aj):=
 ZU (a9 a0 (a1.av.length:Int)) λr1=>ZU (ix a1.av r1.1) λx2=>ZU (a9 r1.2 (a1.d5.bI.length:Int)) λr3=>ZU (fD r3.2 2) λr4=>ZU (a9 r4.2 3) λr5=>ZU (cond (eqB r5.1 0) (ZU (a9 r5.2 9) λr30=>ZU (lY x2.bj x2.ag x2.aZ (⟨WR (1+r30.1),[9]⟩:ab)) λr31=>ς (r30.2,(⟨r1.1,η,ζ,r3.1,eB,{r31 with bH:={r31.bH with kf:=Int.tmod (WR (r31.bH.kf+1)) 2147483647}}⟩:bJ))) (ZU (cond (eqB r5.1 1) (ZU (AY r5.2 x2) λr49=>ς (η,r49.2,r49.1)) (ZU (ix a1.aD r1.1) λx50=>ZU (zy3 r5.2 x50) λr51=>ς (ζ,r51.2,r51.1))) λ((v35,v47,v48):Bool×aj×aT)=>ς (v47,(⟨r1.1,v35,η,r3.1,v48,ez⟩:bJ)))) λ((v28,v29):aj×bJ)=>ZU (zy25 a1 {dM with bp:=13,bS:=v29}) λr52=>ZU (cond (!r52) (ς 7) (ς v29.bh.bp)) λ(v53:Int)=>ς ({dM with bp:=13,bS:={v29 with bh:={v29.bh with bp:=v53}}},v28)
instance zy27{a0:aj}{a1:ae}{r:dF×aj}:FCV prog (zy26 a0 a1=ς r) 154 (oM [.t,.n 190,.n 191,.n 192,.n 193] 201 43 (bw a1)++[(200,.var 115 (kM [.f] (aO a0)))]) [tP 200,.v (.agg [.d η (.l (a1.d5.bI.map fw)),.wn 190 a1.av.length,.wn 191 a1.aD.length,.wn 192 a1.bD.length,.wn 193 a1.aV.length,.d η (.i .i64 a1.cP),.d η (.i .i64 a1.gT.ia),.d η (.i .i64 a1.gT.fZ),.d η (.i .i64 a1.lI),.d η (.i .i64 a1.Lost)])] (oM [.t,.n 190,.n 191,.n 192,.n 193] 201 43 (bw a1)++[(200,.var 115 (kM [.f] (aO r.2)))]) (.v (.agg (kM [.z,.n 210] (jp {r.1 with bm:=[]})))) [(210,n5 r.1.bS.cA.bH.bm)]:=⟨λH=>by
 refine fV func154 ntmps154 ?_
 refine aa H λr1 q1 H=>sA (cw (o:=200) (bW.h q1)) ?_
 refine aa H λx2 hx2 H=>eC (jL 190 (hne:=uq (enc:=eh) hx2)) ?_
 refine nA (xwT hx2) ?_
 refine nA (oea (he:=js _ hx2)) ?_
 refine aa H λr3 q3 H=>sA (cw (o:=200) (bW.h q3)) ?_
 refine aa H λr4 q4 H=>sA (cw (o:=200) (jh.h q4)) ?_
 refine aa H λr5 q5 H=>sA (cw (o:=200) (bW.h q5)) ?_
 obtain⟨⟨v28,v29⟩,Hj,H⟩:=ob H
 refine jA ⟨[(3,tP 210),(4,tP 211),(7,tP 213)],(oM [.t,.w 190,.n 191,.n 192,.n 193] 201 43 (bw a1)++(oM [.n 215] 213 85 (pY v29)++[(200,.var 115 (kM [.f] (aO v28))),(210,.var 43 (kM [.f,.w 190,.n 191,.n 192,.n 193] (bw a1))),(211,.var 182 (kM [.z,.z] (jp dM)))])),216⟩ ?_ ?_
 .refine cC Hj ?_ ?_<;>intro H
  .refine zI (List.range 14) ?_
   refine aa H λr30 q30 H=>wA (cwx (o:=200) (bW.h q30)) ?_
   refine aa H λr31 q31 H=>zA (ca (hF:=Gi.h q31)) ?_
   refine wA (spx 100776) ?_
   refine nA (ir rfl rfl rfl (by decide)) ?_
   cases H
   refine aJ (fE 215) ?_
   refine aJ (wB 214 [9].length) ?_
   exact wo
  obtain⟨⟨v35,v47,v48⟩,Hj,H⟩:=ob H
  refine jA ⟨[(3,tP 210),(4,tP 211),(7,tP 213)],(oM [.t,.w 190,.n 191,.n 192,.n 193] 201 43 (bw a1)++[(200,.var 115 (kM [.f] (aO v47))),(210,.var 43 (kM [.f,.w 190,.n 191,.n 192,.n 193] (bw a1))),(211,.var 182 (kM [.z,.z] (jp dM))),(213,.var 85 (kM [.z] (pY (⟨r1.1,v35,η,r3.1,v48,ez⟩:bJ))))]),214⟩ ?_ ?_
  .refine cC Hj ?_ ?_<;>intro H
   .refine aa H λr49 q49 H=>sA (cw (o:=200) (Ou.h q49)) ?_
    exact ai H
   refine aa H λx50 hx50 H=>eC (jL 191 (hne:=uq (enc:=cQ) hx50)) ?_
   refine nA (xwT hx50) ?_
   refine nA (oea (he:=js _ hx50)) ?_
   refine aa H λr51 q51 H=>sA (cw (o:=200) (zy4.h q51)) ?_
   cases H
   refine aJ (fE 191) ?_
   exact wo
  cases H
  refine aJ (eo (o:=213) (j:=19) 5 1 ζ) ?_
  refine aJ (wB 214 (([]:List Int).length)) ?_
  refine aJ (wM (nx':=216) rfl) ?_
  refine aJ (wS 215 214) ?_
  exact wo
 refine aa H λr52 q52 H=>nA (ca (hF:=Dy.h q52)) ?_
 refine aa H λv53 Hj H=>jA ⟨[(4,tP 211),(8,tP 216)],(oM [.t,.w 190,.n 191,.n 192,.n 193] 201 43 (bw a1)++(oM [.z,.n 215] 216 182 (jp {dM with bp:=13,bS:={v29 with bh:={v29.bh with bp:=v53}}})++[(200,.var 115 (kM [.f] (aO v28))),(211,.var 182 (kM [.z,.z] (jp dM)))])),217⟩ ?_ ?_
 .exact az Hj
 cases H
 refine cg (wS 215 210) ?_
 refine cg ((fE 190)) ?_
 exact dv⟩
def zy28(a0:ah)(a1:aT):Option bU:=
 ZU (kx a1) λr1=>cond (!r1) (ZU (nr a0) λr2=>ς r2) (cond (eqB a1.bp 1) (ZU (kz a0 a1) λr3=>ς r3) (cond (eqB a1.bp 3) (ZU (i9 a0 a1) λr4=>ς r4) (cond (eqB a1.bp 5) (ZU (jv a0 a1) λr5=>ς r5) (cond (eqB a1.bp 8) (ZU (zy5 a0 a1) λr6=>ς r6) (ZU (nr a0) λr7=>ς r7)))))
instance Ol{a0:ah}{a1:aT}{r:bU}:FC prog (zy28 a0 a1=ς r) 225 [.agg (cQ a0),.agg (eM a1)] [.agg (qM [.d,.d,.d,.o] (gp r))]:=gG func225 ntmps225
def zy29(a0:ae)(a1:Int):Option ae:=
 ZU (vP a0 a1) λr1=>ZU (sL r1.2 r1.1.bg) λr2=>ZU (cond (!r2) (ς {r1.2 with Lost:=WR (r1.2.Lost+1)}) (ZU (cond r1.1.dm (cond (!r1.1.cS) (ς (eqB r1.1.bh.bg r1.1.bg)) (ς η)) (ς η)) λ(v14:Bool)=>ZU (cond v14 (ZU (ix r1.2.aD r1.1.bk) λx26=>ZU (zy28 x26 r1.1.bh) λr27=>ZU (ix r1.2.aD r1.1.bk) λx28=>ZU (kD {r1.2 with aD:=(r1.2.aD.set (r1.1.bk).toNat r27.bb)} r1.1.bk η r27.cT) λr29=>ς r29) (ZU (cond r1.1.dm (ς r1.2) (ZU (ix r1.2.av r1.1.bk) λx41=>ZU (cond (!eqB x41.bg r1.1.bg) (ς {r1.2 with Lost:=WR (r1.2.Lost+1)}) (ZU (cond r1.1.cS (ZU (ix r1.2.av r1.1.bk) λx64=>ZU (zy22 x64 r1.1.cA) λr65=>ZU (iK r1.2 r1.1.bk r65) λr66=>ς r66) (ZU (ix r1.2.av r1.1.bk) λx67=>ZU (je x67 r1.1.bh) λr68=>ZU (iK r1.2 r1.1.bk r68) λr69=>ς r69)) λ(v63:ae)=>ς v63)) λ(v52:ae)=>ς v52)) λ(v40:ae)=>ς v40)) λ(v25:ae)=>ς v25)) λ(v13:ae)=>ς v13
instance TC{a0:ae}{a1:Int}{r:ae}:FCV prog (zy29 a0 a1=ς r) 193 (nS a0) [tP 200,tI a1] (nS r) (.tup []) []:=gV func193 ntmps193 (hC 25 (λ(v:ae) sl ob nx=>⟨xS [193,192,191,190] sl,nS v++fO [210] ob,nx⟩)) (hb 44 41) (hC 41 (λ(v:ae) sl ob nx=>⟨xS [193,192,191,190] sl,nS v++fO [210] ob,nx⟩)) (hz 7) (hz 6) (hC 80 (λ(v:ae) sl ob nx=>⟨xS [193,192,191,190] sl,nS v++fO [210] ob,nx⟩)) (hC 83 (λ(v:ae) sl ob nx=>⟨xS [193,192,191,190] sl,nS v++fO [210] ob,nx⟩)) (hC 103 (λ(v:ae) sl ob nx=>⟨xS [193,192,191,190] sl,nS v++ob,nx⟩)) (hz 13) (hz 2)
def zy30(a0:ae)(a1:dF):Option (Bool×ae):=
 ZU (cU a1.cZ 0 (WR ((a0.aV.length:Int)-1))) λr1=>cond (!r1) (ς (η,a0)) (cond (eqB a1.bp 2) (ZU (zy29 a0 a1.cZ) λr2=>ς (ζ,r2)) (cond (eqB a1.bp 3) (ZU (vP a0 a1.cZ) λr3=>ς (ζ,{r3.2 with Lost:=WR (r3.2.Lost+1)})) (cond (leB 200 (a0.aV.length:Int)) (ς (η,a0)) (ZU (ix a0.aV a1.cZ) λx4=>ZU (g8 a0 x4) λr5=>ς (ζ,r5)))))
instance zy31{a0:ae}{a1:dF}{r:Bool×ae}:FCV prog (zy30 a0 a1=ς r) 156 (nS a0) [tP 200,.v (.agg (kM [.t,.t] (jp a1)))] (nS r.2) (.v (.c (.d η (.b r.1)))) []:=gV func156 ntmps156 (hz 6)
end Go.AM
