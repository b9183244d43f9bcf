/- A part. -/
import Derived.Test.YtfbpfflnhfcmaaaGreatS10
import Derived.Test.YtfbpfflnhfcmaaaGreatS11
import Derived.Test.YtfbpfflnhfcmaaaGreatS14
set_option linter.unusedVariables false
open Option renaming some->ς,none->ξ
open Bool renaming true->ζ,false->η
open True renaming intro->θ
open Option renaming bind->acE
namespace Go.AM
open Go.Proofs
open Tryz
attribute [local irreducible] AWN NS AWO AWR AWC DR DZ du gr iter
set_option maxRecDepth 100000
set_option maxHeartbeats 40000000
def D6:(Int×av×aC)->Option (ci (Int×av×aC) (av×aC))
 |(v15,v33,v34)=>cond (ltB 0 v15) (acE (bC v33 5) λr120=>acE (cond (eqB r120.1 0) (acE (bC r120.2 4) λr140=>acE (ro v34 r140.1) λr141=>ς (r140.2,r141.bj)) (acE (cond (eqB r120.1 1) (acE (rv v34) λr161=>ς (r120.2,r161.bj)) (acE (cond (eqB r120.1 2) (acE (tO v34) λr181=>ς (r120.2,r181)) (acE (bC r120.2 3) λr182=>acE (zy (WR (v34.bW.bB+r182.1))) λr183=>acE (qq v34.bg v34.ah v34.aY (⟨WR (v34.bW.bB+r182.1),r183⟩:ab)) λr184=>acE (ny v34 r184) λr185=>ς (r182.2,r185.bj))) λ((v179,v180):av×aC)=>ς (v179,v180))) λ((v159,v160):av×aC)=>ς (v159,v160))) λ((v138,v139):av×aC)=>ς (.next (WR (v15-1),v138,v139))) (ς (.done (v33,v34)))
def CO(a0:av):Option (aC×av):=
 acE (CT a0) λr1=>acE (bC r1.2 4) λr2=>acE (xC r1.1 r2.1) λr3=>acE (gq r2.2 5) λr4=>cond r4.1 (ς ({r3 with bW:={cS with bB:=r3.bW.bB}},r4.2)) (acE (wx {r3 with bW:={cS with bB:=r3.bW.bB}}) λr5=>acE (gq r4.2 4) λr6=>cond r6.1 (ς (r5.bj,r6.2)) (acE (bC r6.2 3) λr7=>acE (kf r5.bj.dO.ID (WR ((WR (r5.bj.dO.c8+1))+r7.1))) λr8=>acE (gY r5.bj.dO.fA r8 (WR ((WR (r5.bj.dO.c8+1))+r7.1))) λr9=>acE (ki r5.bj (⟨2,r5.bj.bh,WR ((WR (r5.bj.dO.c8+1))+r7.1),0,0,r9,0⟩:aG)) λr10=>acE (bC r7.2 3) λr11=>acE (js r10.bj.bg (⟨4,r10.bj.bh,WR ((WR (r5.bj.dO.c8+1))+r7.1),WR (1+r11.1),0,cH,0⟩:aG)) λr12=>acE (ki r10.bj r12) λr13=>acE (bC r11.2 6) λr14=>acE (iter (D6) FU (r14.1,r14.2,r13.bj)) λ((v118,v119):av×aC)=>ς (v119,v118)))
instance sl29Draw_c{a0:av}{r:aC×av}:FCW prog (CO a0=ς r) 273 (.var 124 (kM [.f] (be a0))) [tP 200] (.var 124 (kM [.f] (be r.2))) [.agg (qM [.d,.d] (eW r.1))]:=gW func273 ntmps273 (hL 0 (λ(v:Int×av×aC) sl ob nx=>⟨(5,tI v.1)::sl,[(200,.var 124 (kM [.f] (be v.2.1))),(211,.var 67 (kM [.t,.t] (eW v.2.2)))]++ob,nx⟩)) (hB 0 (λ(v:av×aC) sl ob nx=>⟨(5,.any)::sl,[(200,.var 124 (kM [.f] (be v.1))),(211,.var 67 (kM [.t,.t] (eW v.2)))]++ob,nx⟩)) (hC 86 (λ(v:av×aC) sl ob nx=>⟨sl,[(200,.var 124 (kM [.f] (be v.1))),(211,.var 67 (kM [.t,.t] (eW v.2)))]++ob,nx⟩)) (hz 17) (hC 93 (λ(v:av×aC) sl ob nx=>⟨sl,[(200,.var 124 (kM [.f] (be v.1))),(211,.var 67 (kM [.t,.t] (eW v.2)))]++ob,nx⟩)) (hC 98 (λ(v:av×aC) sl ob nx=>⟨xS [216] sl,oM [.t,.w 216] 211 67 (eW v.2)++[(200,.var 124 (kM [.f] (be v.1)))]++ob,217⟩)) (hz 15) (hz 14) (hz 9) (hz 8) (hz 7)
def EO(a0:av):Option (aC×av):=
 acE (CO a0) λr1=>acE (bC r1.2 12) λr2=>acE (cond (eqB r2.1 0) (acE (bC r2.2 6) λr22=>ς (r22.2,{r1.1 with bz:=WR (r22.1-1)})) (acE (cond (eqB r2.1 1) (acE (g4 r2.2 [-1,5,6]) λr42=>ς (r42.2,{r1.1 with bh:=r42.1})) (acE (cond (eqB r2.1 2) (acE (g4 r2.2 [0,-1,2147483647]) λr62=>ς (r62.2,{r1.1 with bg:=r62.1})) (acE (cond (eqB r2.1 3) (acE (u5 r2.2) λr82=>ς (r82.2,{r1.1 with bW:=r82.1})) (acE (cond (eqB r2.1 4) (acE (g4 r2.2 [-1,3,4]) λr90=>ς (r90.2,{r1.1 with eU:=r90.1})) (acE (cond (eqB r2.1 5) (acE (g4 r2.2 [-1,999999,1000000]) λr96=>ς (r96.1,r96.2)) (ς (r1.1.aY,r2.2))) λ((v94,v95):Int×av)=>ς (v95,{r1.1 with aY:=v94}))) λ((v88,v89):av×aC)=>ς (v88,v89))) λ((v80,v81):av×aC)=>ς (v80,v81))) λ((v60,v61):av×aC)=>ς (v60,v61))) λ((v40,v41):av×aC)=>ς (v40,v41))) λ((v20,v21):av×aC)=>ς (v21,v20)
instance Tm{a0:av}{r:aC×av}:FCW prog (EO a0=ς r) 188 (.var 124 (kM [.f] (be a0))) [tP 200] (.var 124 (kM [.f] (be r.2))) [.agg (qM [.d,.d] (eW r.1))]:=gW func188 ntmps188 (hC 8 (λ(v:av×aC) sl ob nx=>⟨sl,[(200,.var 124 (kM [.f] (be v.1))),(211,.var 67 (kM [.t,.t] (eW v.2)))]++ob,nx⟩)) (hC 14 (λ(v:av×aC) sl ob nx=>⟨sl,[(200,.var 124 (kM [.f] (be v.1))),(211,.var 67 (kM [.t,.t] (eW v.2)))]++ob,nx⟩)) (hC 20 (λ(v:av×aC) sl ob nx=>⟨sl,[(200,.var 124 (kM [.f] (be v.1))),(211,.var 67 (kM [.t,.t] (eW v.2)))]++ob,nx⟩)) (hC 26 (λ(v:av×aC) sl ob nx=>⟨sl,[(200,.var 124 (kM [.f] (be v.1))),(211,.var 67 (kM [.t,.t] (eW v.2)))]++ob,nx⟩)) (hC 31 (λ(v:av×aC) sl ob nx=>⟨sl,[(200,.var 124 (kM [.f] (be v.1))),(211,.var 67 (kM [.t,.t] (eW v.2)))]++ob,nx⟩)) (hC 37 (λ(v:Int×av) sl ob nx=>⟨sl,[(200,.var 124 (kM [.f] (be v.2)))]++(uC 211 8 [.d η (.i .i64 v.1)] ob),nx⟩))
end Go.AM
