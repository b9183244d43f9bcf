/- A part. -/
import Derived.Test.YtigcecmbknoijaaGreatDoorS16
import Derived.Test.YtigcecmbknoijaaGreatDoorS17
import Derived.Test.YtigcecmbknoijaaGreatDoorS18
set_option linter.unusedVariables false
open Option renaming some->ς,none->ξ
open Bool renaming true->ζ,false->η
open True renaming intro->θ
open Option renaming bind->ZU
open List renaming range->v0
namespace Go.AM
open Go.Proofs
open Tryz
attribute [local irreducible] AWN NS AWO AWR AWC DR DZ cM eN iter
set_option maxRecDepth 100000
set_option maxHeartbeats 40000000
def gP:Option (List ab×Nat)->List ab
 |none=>[]
 |some p=>p.1.drop p.2
def zy43:(Int×aj×Int×List b8×Option (List ab×Nat))->Option (cH (Int×aj×Int×List b8×Option (List ab×Nat)) (aj×Int×List b8×Option (List ab×Nat)))
 |(v2,v9,n,dl,g)=>cond (ltB 0 v2) (ZU (a9 v9 4) λr22=>ZU (sX (WR (n+r22.1))) λr23=>ZU (lG (⟨n,gP g,dl⟩:aX) (⟨WR (n+r22.1),r23⟩:ab)) λr24=>ς (.next (WR (v2-1),r22.2,r24.1.bF,r24.1.a8,ς r24.2))) (ς (.done (v9,n,dl,g)))
def oA(a0:aj):Option ((Int×List b8×Option (List ab×Nat))×aj):=
 ZU (a9 a0 14) λr1=>ZU (iter zy43 FU (r1.1,r1.2,1,[],ξ)) λ((v20,n,dl,g):aj×Int×List b8×Option (List ab×Nat))=>ς ((n,dl,g),v20)
def rcX(o:Nat)(n:Int)(dl:List b8):Option (List ab×Nat)->List C
 |none=>[cI n,.nil,.d ζ (.l (dl.map er))]
 |some p=>[cI n,.s o 2 p.2 (p.1.length-p.2),.d ζ (.l (dl.map er))]
def nwX(o:Nat):Option (List ab×Nat)->Laa
 |none=>[]
 |some p=>[(o,I3 p.1)]
def slX(sl:Lab)(c:aj)(n:Int)(dl:List b8):Option (List ab×Nat)->St
 |none=>⟨sl,[(200,.var 115 (kM [.f] (aO c))),(210,.var 58 (kM [.z,.z] (bP ct))),(211,.var 58 [cI n,.nil,.d ζ (.l (dl.map er))])],212⟩
 |some p=>⟨sl,[(200,.var 115 (kM [.f] (aO c))),(210,.var 58 (kM [.z,.z] (bP ct))),(211,.var 58 [cI n,.s 212 2 p.2 (p.1.length-p.2),.d ζ (.l (dl.map er))]),(212,I3 p.1)],214⟩
theorem uD{a0 c:aj}{n:Int}{dl:List b8}{g:Option (List ab×Nat)}(H:oA a0=ς ((n,dl,g),c)):FnV prog 89 [(200,.var 115 (kM [.f] (aO a0)))] [tP 200] [(200,.var 115 (kM [.f] (aO c)))] (.v (.agg (rcX 210 n dl g))) (nwX 210 g):=by
 refine fV func89 ntmps89 ?_
 refine aa H λr1 q1 H=>sA (cw (o:=200) (bW.h q1)) ?_
 obtain⟨⟨c',n',dl',g'⟩,Hj,H⟩:=ob H
 cases H
 refine jB (slX [(2,tP 210),(3,tP 211)] c n dl g) ?_ ?_
 .refine iT Hj (λq=>slX [(0,tP 200),(2,tP 210),(3,tP 211),(4,tI q.1)] q.2.1 q.2.2.1 q.2.2.2.1 q.2.2.2.2) ?_ (by dsimp only[slX];refine aJ (eL (o:=211) (j:=2)) ?_;exact wo)
  rintro⟨v2,v9,m,el,f⟩ o H
  rcases f with _|⟨F,k⟩
  .dsimp only[slX]
   refine wI ?_
   refine cC H ?_ ?_<;>intro H
   .refine zI (v0 6) ?_
    refine aa H λr22 q22 H=>wA (cwx (o:=200) (bW.h q22)) ?_
    refine zI (v0 7) ?_
    refine aa H λr23 q23 H=>zA (ca (hF:=CI.h q23)) ?_
    refine aa H λr24 q24 H=>zB cz (kh rfl (cwv [] [(210,212)] 213 (qW.h q24))) cz ?_
    refine wA (spx 100911) ?_
    cases H
    refine qF ?_
    dsimp only[slX]
    exact wo
   cases H
   refine wQ (λhq=>?_)
   cases hq
   refine wI ?_
   dsimp only[slX]
   exact wo
  dsimp only[slX]
  refine wI ?_
  refine cC H ?_ ?_<;>intro H
  .refine zI (v0 6) ?_
   refine aa H λr22 q22 H=>wA (cwx (o:=200) (bW.h q22)) ?_
   refine fo (eG (o:=212)) ?_
   refine fo (CZ (o:=211) (j:=1) (q:=212) (ys:=F) (enc:=aY) rfl) ?_
   refine zI (v0 7) ?_
   refine aa H λr23 q23 H=>zA (ca (hF:=CI.h q23)) ?_
   refine aa H λr24 q24 H=>zB cz (kh rfl (cwv [] [(210,214)] 215 (qW.h q24))) cz ?_
   refine wA (spx 100910) ?_
   cases H
   refine qF ?_
   dsimp only[slX]
   refine aJ (wS 214 212) ?_
   exact wo
  cases H
  refine wQ (λhq=>?_)
  cases hq
  refine wI ?_
  dsimp only[slX]
  exact wo
 rcases g with _|⟨F,k⟩
 .dsimp only[slX]
  refine wI ?_
  exact dv
 dsimp only[slX]
 refine wI ?_
 refine cg (wS 212 210) ?_
 exact dv
def zy44(a0:aj):Option (aX×aj):=
 ZU (oA a0) λr1=>ZU (a9 r1.2 8) λr2=>cond (eqB r2.1 0) (ZU (fg r2.2 [1,-1]) λr10=>ς ((⟨WR (r1.1.1+r10.1),gP r1.1.2.2,r1.1.2.1⟩:aX),r10.2)) (cond (eqB r2.1 1) (ZU (a9 r2.2 10) λr16=>cond (cN 32 (gP r1.1.2.2++[(⟨WR (r1.1.1+r16.1),[]⟩:ab)]).length) (ς ((⟨r1.1.1,gP r1.1.2.2++[(⟨WR (r1.1.1+r16.1),[]⟩:ab)],r1.1.2.1⟩:aX),r16.2)) ξ) (ς ((⟨r1.1.1,gP r1.1.2.2,r1.1.2.1⟩:aX),r2.2)))
instance zy45{a0:aj}{r:aX×aj}:FCW prog (zy44 a0=ς r) 56 (.var 115 (kM [.f] (aO a0))) [tP 200] (.var 115 (kM [.f] (aO r.2))) [.agg (qM [.d,.d] (bP r.1))]:=⟨λH=>by
 refine fW func56 ntmps56 ?_
 obtain⟨⟨⟨n,dl,g⟩,c⟩,q1,H⟩:=ob H
 dsimp only at H
 rcases g with _|⟨F,k⟩
 .refine sA (cwv [(200,200)] [] 211 (uD q1)) ?_
  refine aa H λr2 q2 H=>sA (cw (o:=200) (bW.h q2)) ?_
  refine cC H ?_ ?_<;>intro H
  .refine jT [0,1,2,3,4,5,6,7] (h:=?_)
   refine wkb ?_
   refine pU rfl (bsx (bs rfl rfl rfl rfl rfl rfl rfl rfl) rfl) ?_
   refine wkb ?_
   refine aa H λr10 q10 H=>pU rfl (cwx (o:=200) (sQ.h q10)) ?_
   refine wkb ?_
   refine pU rfl (spx 100909) ?_
   refine wkb ?_
   refine wI ?_
   cases H
   refine tv (I4 (o:=210)) ?_
   exact p4
  refine cC H ?_ ?_<;>intro H
  .refine zI (v0 12) ?_
   refine aa H λr16 q16 H=>wA (cwx (o:=200) (bW.h q16)) ?_
   obtain⟨h,H⟩:=rq H
   refine zA (apN (enc:=aY) (zs:=[(⟨WR (n+r16.1),[]⟩:ab)]) [212] h (by first|exact List.cons_ne_nil _ _|simp) rfl (λ_=>rfl) rfl (.w rfl (by first|rfl|exact lm _|simp)) rfl rfl rfl rfl) ?_
   refine wA (spx 100908) ?_
   cases H
   refine tv (eG (o:=213)) ?_
   refine tv (fP (o:=210)) ?_
   exact p4
  cases H
  refine tv (I4 (o:=210)) ?_
  exact p4
 refine sA (cwv [(200,200)] [(210,211)] 212 (uD q1)) ?_
 refine aa H λr2 q2 H=>sA (cw (o:=200) (bW.h q2)) ?_
 refine cC H ?_ ?_<;>intro H
 .refine jT [0,1,2,3,4,5,6,7] (h:=?_)
  refine wkb ?_
  refine pU rfl (bsx (bs rfl rfl rfl rfl rfl rfl rfl rfl) rfl) ?_
  refine wkb ?_
  refine aa H λr10 q10 H=>pU rfl (cwx (o:=200) (sQ.h q10)) ?_
  refine wkb ?_
  refine pU rfl (spx 100907) ?_
  refine wkb ?_
  refine wI ?_
  cases H
  refine tv (eG (o:=211)) ?_
  refine tv (CZ (o:=210) (j:=1) (q:=211) (ys:=F) (enc:=aY) rfl) ?_
  exact p4
 refine cC H ?_ ?_<;>intro H
 .refine zI (v0 12) ?_
  refine aa H λr16 q16 H=>wA (cwx (o:=200) (bW.h q16)) ?_
  obtain⟨h,H⟩:=rq H
  refine zB (SY (o:=212) (j:=1)) (kh rfl (apS (enc:=aY) (ys:=F) (zs:=[(⟨WR (n+r16.1),[]⟩:ab)]) [211,213] h)) cz ?_
  refine wA (spx 100906) ?_
  cases H
  exact p4
 cases H
 refine tv (eG (o:=211)) ?_
 refine tv (CZ (o:=210) (j:=1) (q:=211) (ys:=F) (enc:=aY) rfl) ?_
 exact p4⟩
def A4(a0:aj):Option (Int×aF×aj):=
 ZU (CR a0) λr1=>ZU (a9 r1.2.2 10) λr2=>ZU (cond (eqB r2.1 0) (ZU (fg r2.2 [WR (r1.2.1.aZ+1),-1,100000,100001]) λr15=>ς (r1.1,r15.2,{r1.2.1 with aZ:=r15.1})) (ZU (cond (eqB r2.1 1) (ZU (fg r2.2 [0,-1,100001]) λr28=>ς (r1.1,r28.2,{r1.2.1 with ag:=r28.1})) (ZU (cond (eqB r2.1 2) (ZU (zy13 r2.2) λr39=>ς (r1.1,r39.2.2,{r1.2.1 with bH:=r39.2.1})) (ZU (cond (eqB r2.1 3) (ς (WR (r1.1+1))) (ς r1.1)) λ(v40:Int)=>ς (v40,r2.2,r1.2.1))) λ((v29,v37,v38):Int×aj×aF)=>ς (v29,v37,v38))) λ((v16,v26,v27):Int×aj×aF)=>ς (v16,v26,v27))) λ((v3,v13,v14):Int×aj×aF)=>ς (v3,v14,v13)
instance zy46{a0:aj}{r:Int×aF×aj}:FCW prog (A4 a0=ς r) 40 (.var 115 (kM [.f] (aO a0))) [tP 200] (.var 115 (kM [.f] (aO r.2.2))) [.c (.d (.i .i64 r.1)),.agg (qM [.o] (gF r.2.1))]:=gW func40 ntmps40 (hC 13 (λ(v:Int×aj×aF) sl ob nx=>⟨(4,tI v.1)::xS [211] sl,oM [.w 211] 212 83 (gF v.2.2)++[(200,.var 115 (kM [.f] (aO v.2.1)))]++ob,nx⟩)) (hC 22 (λ(v:Int×aj×aF) sl ob nx=>⟨(4,tI v.1)::xS [211] sl,oM [.w 211] 212 83 (gF v.2.2)++[(200,.var 115 (kM [.f] (aO v.2.1)))]++ob,nx⟩)) (hC 28 (λ(v:Int×aj×aF) sl ob nx=>⟨(4,tI v.1)::xS [213,211] sl,oM [.w 213] 212 83 (gF v.2.2)++[(200,.var 115 (kM [.f] (aO v.2.1)))]++fO [211] ob,214⟩)) (hi 36 4) (hz 11)
end Go.AM
