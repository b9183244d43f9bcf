/- A part. -/
import Derived.Test.YtfbpfflnhfcmaaaGreatS5
import Derived.Test.YtfbpfflnhfcmaaaGreatS7
import Derived.Test.YtfbpfflnhfcmaaaGreatS8
import Derived.Test.YtfbpfflnhfcmaaaGreatS9
set_option linter.unusedVariables false
open Option renaming some->ς,none->ξ
open Bool renaming true->ζ,false->η
open True renaming intro->θ
open Option renaming bind->acE
open List renaming range->v0
namespace Go.AM
open Go.Proofs
open Tryz
attribute [local irreducible] AWN NS AWO AWR AWC DR DZ du gr iter
set_option maxRecDepth 100000
set_option maxHeartbeats 40000000
def pM(a0:Int)(a1:aD):Option Bool:=
 acE (lk a1.bL) λr1=>acE (cond r1 (cond (eqB a1.bL.dt 1) (acE (s9 a0 a1.aY) λr3=>acE (tU r3 a1.bL) λr4=>ς r4) (ς η)) (ς η)) λ(v2:Bool)=>ς v2
instance Xo{a0:Int}{a1:aD}{r:Bool}:FC prog (pM a0 a1=ς r) 32 [aI a0,.agg (dr a1)] [.c (.d (.b r))]:=gG func32 ntmps32 (hb 8 4)
def sR(a0:ag)(a1:aj)(a2:Int):Option (ag×aj):=
 acE (ju a0) λr1=>acE (pG a0 a2) λr2=>cond (leB r2 0) (acE (mw a1) λr3=>ς (r1,r3)) (acE (GL r2 a0.gB.eB) λr4=>acE (qI a1 a0.bX r4) λr5=>ς ({r1 with bX:=r5.2},r5.1))
instance GJ{a0:ag}{a1:aj}{a2:Int}{r:ag×aj}:FC prog (sR a0 a1 a2=ς r) 354 [.agg (cp a0),.agg (dh a1),aI a2] [.agg (qM [.o,.o,.o] (cU r.1)),.agg (qM [.o] (cO r.2))]:=gG func354 ntmps354 (hz 4) (hz 7) (hz 5)
def By(a0:Int)(a1:Int)(a2:Int)(a3:bw):Option (List Int×Int×Bool):=
 acE (lk a3) λr1=>acE (cond (!r1) (ς ζ) (cond (!eqB a3.dt a1) (ς ζ) (acE (tU a0 a3) λr3=>cond (!r3) (ς ζ) (ς (leB a3.gk a2))))) λ(v2:Bool)=>cond v2 (ς (([]:List Int),a2,η)) (acE (qo a0 (WR ((WR (2*a3.gk))+a3.dt))) λr4=>acE (CB r4 a3.bk) λr5=>ς (r5,a3.gk,ζ))
instance aad{a0:Int}{a1:Int}{a2:Int}{a3:bw}{r:List Int×Int×Bool}:FC prog (By a0 a1 a2 a3=ς r) 385 [aI a0,aI a1,aI a2,.agg (eg a3)] [.c (.own 5 1 (r.1.map eU8) r.1.length),.c (.d (.i .i64 r.2.1)),.c (.d (.b r.2.2))]:=gG func385 ntmps385 (hb 14 31)
def xD(a0:Int)(a1:Int)(a2:Int)(a3:aD):Option (ab×Bool):=
 acE (cond (!eqB a3.ah a1) (ς ζ) (cond (!eqB a3.aY a2) (ς ζ) (acE (pM a0 a3) λr2=>ς (!r2)))) λ(v1:Bool)=>cond v1 (ς (bY,η)) (acE (s9 a0 a2) λr3=>acE (By r3 1 0 a3.bL) λr4=>ς ((⟨r4.2.1,r4.1⟩:ab),r4.2.2))
instance aab{a0:Int}{a1:Int}{a2:Int}{a3:aD}{r:ab×Bool}:FC prog (xD a0 a1 a2 a3=ς r) 360 [aI a0,aI a1,aI a2,.agg (dr a3)] [.agg (qM [.d] (dv r.1)),.c (.d (.b r.2))]:=gG func360 ntmps360 (hb 17 28)
def ny(a0:aC)(a1:aD):Option a9:=
 acE (xD a0.bg a0.ah a0.aY a1) λr1=>acE (cond (!eqB a0.bz 2) (ς ζ) (ς (!r1.2))) λ(v2:Bool)=>cond v2 (acE (tZ a0) λr3=>ς r3) (acE (lr a0) λr4=>acE (pH a0.bW r1.1) λr5=>acE (js a0.bg (⟨8,a0.bh,a0.ah,a0.aY,r5.bB,cH,0⟩:aG)) λr6=>ς (⟨{r4 with bW:=r5},[r6]⟩:a9))
instance T2{a0:aC}{a1:aD}{r:a9}:FC prog (ny a0 a1=ς r) 319 [.agg (dF a0),.agg (dr a1)] [.agg (qM [.d,.o,.o] (dx r))]:=gG func319 ntmps319 (hb 23 26)
def tO(a0:aC):Option aC:=
 acE (lr a0) λr1=>acE (cond (eqB a0.bz 2) (ς 3) (ς r1.bz)) λ(v2:Int)=>ς {r1 with bz:=v2}
instance Z9{a0:aC}{r:aC}:FC prog (tO a0=ς r) 250 [.agg (dF a0)] [.agg (qM [.o,.o] (eW r))]:=gG func250 ntmps250 (hC 8 (λ(v:Int) sl ob nx=>⟨xS [2,3] sl,uC 4 4 [.d η (.i .i64 v)] ob,nx⟩))
def EU(a0:ae)(a1:dJ):Option (Bool×ae):=
 acE (dD a1.da 0 (WR ((a0.ax.length:Int)-1))) λr1=>cond (!r1) (ς (η,a0)) (acE (ix a0.ax a1.da) λx2=>cond (eqB a1.bu 5) (cond (!eqB x2.bz 0) (ς (η,a0)) (acE (wx x2) λr3=>acE (jF a0 a1.da r3) λr4=>ς (ζ,r4))) (cond (eqB a1.bu 6) (acE (cond (eqB a1.bh x2.bh) (ς ζ) (acE (dD a1.bh 0 (WR ((a0.d7.bp.length:Int)-1))) λr6=>ς (!r6))) λ(v5:Bool)=>cond v5 (ς (η,a0)) (acE (ro x2 a1.bh) λr7=>acE (jF a0 a1.da r7) λr8=>ς (ζ,r8))) (cond (eqB a1.bu 7) (cond (!eqB x2.bz 2) (ς (η,a0)) (acE (tO x2) λr9=>acE (ix a0.ax a1.da) λx10=>ς (ζ,{a0 with ax:=(a0.ax.set (a1.da).toNat r9)}))) (acE (ix a0.aJ a1.da) λx11=>acE (lE x11 a1.bk) λr12=>acE (ix a0.aJ a1.da) λx13=>ς (r12.2,{a0 with aJ:=(a0.aJ.set (a1.da).toNat r12.1)})))))
instance sl33Own_c{a0:ae}{a1:dJ}{r:Bool×ae}:FCV prog (EU a0 a1=ς r) 150 (nS a0) [tP 200,.v (.agg (kM [.t,.t] (g6 a1)))] (nS r.2) (.v (.c (.d η (.b r.1)))) []:=gV func150 ntmps150 (hb 67 79) (hz 20) (hz 7) (hz 6)
def gP:Option (List ab×Nat)->List ab
 |none=>[]
 |some p=>p.1.drop p.2
def wE:(Int×av×Int×List bI×Option (List ab×Nat))->Option (ci (Int×av×Int×List bI×Option (List ab×Nat)) (av×Int×List bI×Option (List ab×Nat)))
 |(v2,v9,n,dl,g)=>cond (ltB 0 v2) (acE (bC v9 4) λr22=>acE (zy (WR (n+r22.1))) λr23=>acE (nO (⟨n,gP g,dl⟩:aM) (⟨WR (n+r22.1),r23⟩:ab)) λr24=>ς (.next (WR (v2-1),r22.2,r24.1.bB,r24.1.bi,ς r24.2))) (ς (.done (v9,n,dl,g)))
def qL(a0:av):Option ((Int×List bI×Option (List ab×Nat))×av):=
 acE (bC a0 14) λr1=>acE (iter wE FU (r1.1,r1.2,1,[],ξ)) λ((v20,n,dl,g):av×Int×List bI×Option (List ab×Nat))=>ς ((n,dl,g),v20)
def rcX(o:Nat)(n:Int)(dl:List bI):Option (List ab×Nat)->List C
 |none=>[cI n,.nil,.d ζ (.l (dl.map d8))]
 |some p=>[cI n,.s o 2 p.2 (p.1.length-p.2),.d ζ (.l (dl.map d8))]
def nwX(o:Nat):Option (List ab×Nat)->Laa
 |none=>[]
 |some p=>[(o,C0 p.1)]
def slX(sl:Lab)(c:av)(n:Int)(dl:List bI):Option (List ab×Nat)->St
 |none=>⟨sl,[(200,.var 124 (kM [.f] (be c))),(210,.var 65 (kM [.z,.z] (bV cS))),(211,.var 65 [cI n,.nil,.d ζ (.l (dl.map d8))])],212⟩
 |some p=>⟨sl,[(200,.var 124 (kM [.f] (be c))),(210,.var 65 (kM [.z,.z] (bV cS))),(211,.var 65 [cI n,.s 212 2 p.2 (p.1.length-p.2),.d ζ (.l (dl.map d8))]),(212,C0 p.1)],214⟩
theorem yh{a0 c:av}{n:Int}{dl:List bI}{g:Option (List ab×Nat)}(H:qL a0=ς ((n,dl,g),c)):FnV prog 328 [(200,.var 124 (kM [.f] (be a0)))] [tP 200] [(200,.var 124 (kM [.f] (be c)))] (.v (.agg (rcX 210 n dl g))) (nwX 210 g):=by
 refine fV func328 ntmps328 ?_
 refine aa H λr1 q1 H=>sA (cw (o:=200) (cr.h q1)) ?_
 obtain⟨⟨c',n',dl',g'⟩,Hj,H⟩:=ob H
 cases H
 refine jB (slX [(2,tP 210),(3,tP 211)] c n dl g) ?_ ?_
 .refine iT Hj (λq=>slX [(0,tP 200),(2,tP 210),(3,tP 211),(4,tI q.1)] q.2.1 q.2.2.1 q.2.2.2.1 q.2.2.2.2) ?_ (by dsimp only[slX];refine aP (eS (o:=211) (j:=2)) ?_;exact wo)
  rintro⟨v2,v9,m,el,f⟩ o H
  rcases f with _|⟨F,k⟩
  .dsimp only[slX]
   refine wI ?_
   refine cC H ?_ ?_<;>intro H
   .refine zI (v0 6) ?_
    refine aa H λr22 q22 H=>wA (cwx (o:=200) (cr.h q22)) ?_
    refine zI (v0 7) ?_
    refine aa H λr23 q23 H=>zA (ca (hF:=G3.h q23)) ?_
    refine aa H λr24 q24 H=>zB cA (kz rfl (cwv [] [(210,212)] 213 (uS.h q24))) cA ?_
    refine wA (spx 100911) ?_
    cases H
    refine uj ?_
    dsimp only[slX]
    exact wo
   cases H
   refine yo (λhq=>?_)
   cases hq
   refine wI ?_
   dsimp only[slX]
   exact wo
  dsimp only[slX]
  refine wI ?_
  refine cC H ?_ ?_<;>intro H
  .refine zI (v0 6) ?_
   refine aa H λr22 q22 H=>wA (cwx (o:=200) (cr.h q22)) ?_
   refine f9 (dK (o:=212)) ?_
   refine f9 (Hm (o:=211) (j:=1) (q:=212) (ys:=F) (enc:=aX) rfl) ?_
   refine zI (v0 7) ?_
   refine aa H λr23 q23 H=>zA (ca (hF:=G3.h q23)) ?_
   refine aa H λr24 q24 H=>zB cA (kz rfl (cwv [] [(210,214)] 215 (uS.h q24))) cA ?_
   refine wA (spx 100910) ?_
   cases H
   refine uj ?_
   dsimp only[slX]
   refine aP (wS 214 212) ?_
   exact wo
  cases H
  refine yo (λhq=>?_)
  cases hq
  refine wI ?_
  dsimp only[slX]
  exact wo
 rcases g with _|⟨F,k⟩
 .dsimp only[slX]
  refine wI ?_
  exact dy
 dsimp only[slX]
 refine wI ?_
 refine bM (wS 212 210) ?_
 exact dy
def u5(a0:av):Option (aM×av):=
 acE (qL a0) λr1=>acE (bC r1.2 8) λr2=>cond (eqB r2.1 0) (acE (g4 r2.2 [1,-1]) λr10=>ς ((⟨WR (r1.1.1+r10.1),gP r1.1.2.2,r1.1.2.1⟩:aM),r10.2)) (cond (eqB r2.1 1) (acE (bC r2.2 10) λr16=>cond (cW 32 (gP r1.1.2.2++[(⟨WR (r1.1.1+r16.1),[]⟩:ab)]).length) (ς ((⟨r1.1.1,gP r1.1.2.2++[(⟨WR (r1.1.1+r16.1),[]⟩:ab)],r1.1.2.1⟩:aM),r16.2)) ξ) (ς ((⟨r1.1.1,gP r1.1.2.2,r1.1.2.1⟩:aM),r2.2)))
instance YJ{a0:av}{r:aM×av}:FCW prog (u5 a0=ς r) 274 (.var 124 (kM [.f] (be a0))) [tP 200] (.var 124 (kM [.f] (be r.2))) [.agg (qM [.d,.d] (bV r.1))]:=⟨λH=>by
 refine fW func274 ntmps274 ?_
 obtain⟨⟨⟨n,dl,g⟩,c⟩,q1,H⟩:=ob H
 dsimp only at H
 rcases g with _|⟨F,k⟩
 .refine sA (cwv [(200,200)] [] 211 (yh q1)) ?_
  refine aa H λr2 q2 H=>sA (cw (o:=200) (cr.h q2)) ?_
  refine cC H ?_ ?_<;>intro H
  .refine kx [0,1,2,3,4,5,6,7] (h:=?_)
   refine wkb ?_
   refine rE rfl (bsx (bs rfl rfl rfl rfl rfl rfl rfl rfl) rfl) ?_
   refine wkb ?_
   refine aa H λr10 q10 H=>rE rfl (cwx (o:=200) (wC.h q10)) ?_
   refine wkb ?_
   refine rE rfl (spx 100909) ?_
   refine wkb ?_
   refine wI ?_
   cases H
   refine w6 (Na (o:=210)) ?_
   exact tw
  refine cC H ?_ ?_<;>intro H
  .refine zI (v0 12) ?_
   refine aa H λr16 q16 H=>wA (cwx (o:=200) (cr.h q16)) ?_
   obtain⟨h,H⟩:=rq H
   refine zA (apN (enc:=aX) (zs:=[(⟨WR (n+r16.1),[]⟩:ab)]) [212] h (by first|exact List.cons_ne_nil _ _|simp) rfl (λ_=>rfl) rfl (.w rfl (by first|rfl|exact lm _|simp)) rfl rfl rfl rfl) ?_
   refine wA (spx 100908) ?_
   cases H
   refine w6 (dK (o:=213)) ?_
   refine w6 (dE (o:=210)) ?_
   exact tw
  cases H
  refine w6 (Na (o:=210)) ?_
  exact tw
 refine sA (cwv [(200,200)] [(210,211)] 212 (yh q1)) ?_
 refine aa H λr2 q2 H=>sA (cw (o:=200) (cr.h q2)) ?_
 refine cC H ?_ ?_<;>intro H
 .refine kx [0,1,2,3,4,5,6,7] (h:=?_)
  refine wkb ?_
  refine rE rfl (bsx (bs rfl rfl rfl rfl rfl rfl rfl rfl) rfl) ?_
  refine wkb ?_
  refine aa H λr10 q10 H=>rE rfl (cwx (o:=200) (wC.h q10)) ?_
  refine wkb ?_
  refine rE rfl (spx 100907) ?_
  refine wkb ?_
  refine wI ?_
  cases H
  refine w6 (dK (o:=211)) ?_
  refine w6 (Hm (o:=210) (j:=1) (q:=211) (ys:=F) (enc:=aX) rfl) ?_
  exact tw
 refine cC H ?_ ?_<;>intro H
 .refine zI (v0 12) ?_
  refine aa H λr16 q16 H=>wA (cwx (o:=200) (cr.h q16)) ?_
  obtain⟨h,H⟩:=rq H
  refine zB (X3 (o:=212) (j:=1)) (kz rfl (apS (enc:=aX) (ys:=F) (zs:=[(⟨WR (n+r16.1),[]⟩:ab)]) [211,213] h)) cA ?_
  refine wA (spx 100906) ?_
  cases H
  exact tw
 cases H
 refine w6 (dK (o:=211)) ?_
 refine w6 (Hm (o:=210) (j:=1) (q:=211) (ys:=F) (enc:=aX) rfl) ?_
 exact tw⟩
end Go.AM
