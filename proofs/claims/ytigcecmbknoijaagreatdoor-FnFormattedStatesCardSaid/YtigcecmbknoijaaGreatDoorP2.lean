/- A part. -/
import Derived.Test.YtigcecmbknoijaaGreatDoorP1
import Derived.Lib.ItoaLen
import Derived.Lib.Join
set_option linter.unusedVariables false
set_option linter.unusedSimpArgs false
set_option maxHeartbeats 4000000
open Option renaming some->ς,none->ξ
open Bool renaming true->ζ,false->η
open True renaming intro->θ
open Option renaming bind_some->ZY,bind->ZW,toList_some->aaB
open List renaming length_cons->Yk,length_nil->Z0,size_toArray->aau,mem_append->Yi,mem_or_eq_of_mem_set->aav,mem_singleton->Y9,getElem?_eq_some_iff->Yg,getElem?_eq_getElem->Yf,mem_of_getElem?->Yh,mem_map->Y7,map_cons->Yu,take_length->aax,mem_of_mem_drop->aay,map_nil->Zb,length_append->YF,not_mem_nil->aaA,length_set->aaz,map_append->Zc,mem_cons->Yl,take_add_one->Z7,getElem_mem->Z4,length_map->YE,nil_append->Y8,foldl_cons->aaa
open Int renaming toNat_natCast->ZZ,tmod->ZX,tdiv->aaw,natAbs_tdiv->aaD
open Bool renaming and_eq_true->hV,or_eq_false_iff->Yt,or_eq_true->YA,and_eq_false_iff->aaC,not_eq_false'->Z3
namespace Go.AM
open Go.Proofs
attribute [local simp] bE bz zy62
variable{s:Go.AM.ah}{B:Int}{n:Go.AM.ae}{α:Type}{a:Go.AM.an}{m:Go.AM.aT}{f:Go.AM.bJ}
abbrev zy445{α:Type}(r:α×aj):Prop:=bA r.2
abbrev zy446{α:Type}(r:aj×α):Prop:=bA r.1
theorem zy447{c:aj}(h:bA c):Wp (ud c) zy445:=by
 unfold ud
 refine Wp.call (zy400 h oaa) λr1 h1=>Wp.cond (λ_=>Wp.call (zy401 h1 (by simp)) λr2 h2=>Wp.some h2.1) (λ_=>?_)
 refine Wp.call (zy400 h1 oaa) λr3 h3=>Wp.cond (λ_=>Wp.call (zy401 h3 (by simp)) λr2 h2=>Wp.some h2.1) (λ_=>?_)
 exact Wp.call (bK h3 oaa) λr5 h5=>Wp.call (bK h5.1 oaa) λr6 h6=>Wp.some h6.1
theorem w5Seq{c:aj}(h:bA c):Wp (Gs c) zy445:=by
 unfold Gs
 refine Wp.call (zy400 h oaa) λr1 h1=>Wp.cond (λ_=>Wp.call (zy401 h1 (by simp)) λr2 h2=>Wp.some h2.1) (λ_=>?_)
 exact Wp.call (bK h1 oaa) λr5 h5=>Wp.some h5.1
theorem w5Vec{c:aj}(h:bA c):Wp (wF c) zy445:=by
 unfold wF
 refine Wp.call (wKey h) λr1 h1=>Wp.call (bK h1 oaa) λr2 h2=>Wp.call (w5Seq h2.1) λr3 h3=>?_
 rw[zy193]
 simp only[ZY]
 refine Wp.call (bK h3 oaa) λr5 h5=>?_
 refine Wp.call (P:=zy446) ?_ λx hx=>Wp.some hx
 refine Wp.cond (λ_=>Wp.call (zy447 h5.1) λr h=>Wp.some h) (λ_=>?_)
 refine Wp.call (P:=zy446) ?_ λx hx=>Wp.some hx
 refine Wp.cond (λ_=>Wp.call (zy401 h5.1 (by simp)) λr h=>Wp.some h.1) (λ_=>?_)
 refine Wp.call (P:=λ_=>True) (Wp.cond (λ_=>Wp.some trivial) (λ_=>Wp.some trivial)) λx _=>Wp.some h5.1
theorem w30{c:aj}(h:bA c)(hs:SP s):Wp (zy3 c s) (λr=>bA r.2/\SgC r.1):=by
 have g1:=hs.gn
 have g2:=hs.ps
 unfold zy3
 refine Wp.call (bK h oaa) λr1 h1=>Wp.call (bK h1.1 oaa) λr2 h2=>Wp.call (bK h2.1 oaa) λr3 h3=>Wp.call (bK h3.1 oaa) λr4 h4=>?_
 refine Wp.call (P:=λx=>bA x.1/\SgC x.2) ?_ λx hx=>?_
 .refine Wp.cond (λ_=>Wp.some ⟨h4.1,by simp only[];omega,by simp only[];omega,zy437 _⟩) (λ_=>?_)
  refine Wp.call (P:=zy445) ?_ λx hx=>Wp.some ⟨hx,by simp only[];omega,by simp only[];omega,zy437 _⟩
  refine Wp.cond (λ_=>?_) (λ_=>Wp.some h4.1)
  refine Wp.call (bK h4.1 oaa) λr17 h17=>Wp.call (bK h17.1 oaa) λr18 h18=>?_
  rw[L0];exact Wp.some h18.1
 obtain⟨v10,v11⟩:=x
 obtain⟨hx,hg⟩:=hx
 simp only[yh,ZY]
 replace hx:bA _:=hx
 replace hg:SgC (zy186 s.bj v11):=hg
 refine Wp.call (bK hx oaa) λr21 h21=>?_
 refine Wp.call (P:=λx=>bA x.1/\SgC x.2) ?_ λx hx=>Wp.some hx
 refine Wp.cond (λ_=>Wp.call (zy447 h21.1) λr h=>Wp.some ⟨h,hg⟩) (λ_=>?_)
 refine Wp.call (P:=SgC) ?_ λx hx=>Wp.some ⟨h21.1,hx⟩
 refine Wp.cond (λ_=>Wp.some hg) (λ_=>?_)
 exact Wp.call (P:=R64) (Wp.cond (λ_=>Wp.some (zy437 _)) (λ_=>Wp.some hg.2.1)) λx hx=>Wp.some ⟨hg.1,hx,hg.2.2⟩
theorem w29{c:aj}(h:bA c){d:ax}(hd:DP d):Wp (AY c d) (λr=>bA r.2/\SgC r.1):=by
 have g1:=hd.gn
 have g2:=hd.ep
 have g3:=hd.ce
 unfold AY
 refine Wp.call (bK h oaa) λr1 h1=>?_
 refine Wp.call (P:=λx=>bA x.1/\SgC x.2) ?_ λx hx=>?_
 .refine Wp.cond (λ_=>?_) (λ_=>?_)
  .rw[zy195]
   simp only[ZY]
   rw[zy193]
   simp only[ZY]
   refine Wp.call (zy400 h1.1 oaa) λr20 h20=>?_
   refine Wp.call (P:=λx=>bA x.1/\SgC x.2) ?_ λx hx=>Wp.some hx
   exact Wp.cond (λ_=>Wp.call (w5Vec h20) λr h=>Wp.some ⟨h,by simp only[];omega,zy437 _,by simp only[];omega⟩) (λ_=>Wp.some ⟨h20,by simp only[];omega,zy437 _,by simp only[];omega⟩)
  refine Wp.call (P:=λx=>bA x.2/\R64 x.1) ?_ λx hx=>Wp.some ⟨hx.1,by simp only[];omega,by simp only[];omega,hx.2⟩
  exact Wp.cond (λ_=>Wp.call (bK h1.1 oaa) λr h=>Wp.some ⟨h.1,by simp only[];omega⟩) (λ_=>Wp.some ⟨h1.1,by simp only[];omega⟩)
 obtain⟨v16,v17⟩:=x
 obtain⟨hx,hg⟩:=hx
 simp only[yh,ZY]
 replace hx:bA _:=hx
 replace hg:SgC (zy186 d.bj v17):=hg
 refine Wp.call (bK hx oaa) λr39 h39=>?_
 refine Wp.call (P:=λx=>bA x.1/\SgC x.2) ?_ λx hx=>Wp.some hx
 refine Wp.cond (λ_=>Wp.call (zy447 h39.1) λr h=>Wp.some ⟨h,hg⟩) (λ_=>?_)
 refine Wp.call (P:=λx=>bA x.1/\SgC x.2) ?_ λx hx=>Wp.some hx
 refine Wp.cond (λ_=>Wp.call (bK h39.1 oaa) λr h=>Wp.some ⟨h.1,zy437 _,hg.2⟩) (λ_=>?_)
 exact Wp.call (P:=R64) (Wp.cond (λ_=>Wp.some (zy437 _)) (λ_=>Wp.some hg.2.1)) λx hx=>Wp.some ⟨h39.1,hg.1,hx,hg.2.2⟩
theorem zy448{y:aF}(h:zy358 y)(i c:Int)(k:Int):zy91 ⟨i,η,ζ,c,eB,{y with bH:={y.bH with kf:=k}}⟩/\okB y.bH.bm:=⟨⟨Nat.le_trans h.2 (by decide),λ_ _=>trivial⟩,h.1⟩
abbrev FR(f:bJ):Prop:=zy91 f/\okB f.cA.bH.bm
abbrev FP2(d:ax)(i:Int)(x:aj×bJ):Prop:=bA x.1/\(FR x.2/\RgF x.2)/\(x.2.bk=i)/\((x.2.cS=ζ/\x.2.dm=η/\zy433 d x.2.cA=ζ/\x.2.cA.ag=d.ag/\zy173 d.bj x.2.cA=η)\/x.2.cS=η)
theorem UM{d:ax}{y:aF}{k i cell:Int}{c:aj}(hc:bA c)(h:zy358 y)(hh:zy433 d {y with bH:={y.bH with kf:=k}}=ζ)(hg:y.ag=d.ag)(hv:zy173 d.bj {y with bH:={y.bH with kf:=k}}=η)(hr:RaR y)(hi:R64 i)(hce:R64 cell):
 Wp (ς (c,(⟨i,η,ζ,cell,eB,{y with bH:={y.bH with kf:=k}}⟩:bJ))) (FP2 d i):=
 Wp.some ⟨hc,⟨zy448 h _ _ _,hi,hce,R64.z,⟨R64.z,R64.z⟩,hr⟩,rfl,.inl ⟨rfl,rfl,hh,hg,hv⟩⟩
theorem zy449(d:ax)(x:ab):zy173 d.bj {zy183 d.bj d.ag d.aZ x with bH:={(zy183 d.bj d.ag d.aZ x).bH with kf:=ZX (WR ((zy183 d.bj d.ag d.aZ x).bH.kf+1)) 2147483647}}=false:=by
 have hin:∀k (m:bC),0<=mac k m/\mac k m<2147483647:=λk m=>zy161 _ _
 have key:∀a:Int,0<=a->a<2147483647->ZX (WR (a+1)) 2147483647≠a:=by
  intro a h0 h1 h
  rw[bM oaa,Int.tmod_eq_emod_of_nonneg oaa] at h
  omega
 simp only[zy183,zy182,zy173]
 rw[aaC];right
 rw[aaC];right
 refine eqB_f.2 ?_
 simp only[mac]
 exact key _ (hin _ ⟨1,x.c9,zy178 (zy162 (zy167 d.bj d.aZ) (2*x.c9+1)) x.bm,0⟩).1 (hin _ ⟨1,x.c9,zy178 (zy162 (zy167 d.bj d.aZ) (2*x.c9+1)) x.bm,0⟩).2
theorem zy450(d:ax)(x:ab):zy433 d {zy183 d.bj d.ag d.aZ x with bH:={(zy183 d.bj d.ag d.aZ x).bH with kf:=ZX (WR ((zy183 d.bj d.ag d.aZ x).bH.kf+1)) 2147483647}}=true:=by
 rw[zy433,zy449 d x]
 simp[zy183,bz]
theorem zy451(h:NP B n)(hd:1<=n.av.length){c:aj}(hc:bA c):Wp (zy26 c n) (λr=>bA r.2/\EP r.1/\zy435 n r.1=ζ/\RgF r.1.bS/\(r.1.bS.cS=ζ->r.1.bS.dm=η/\∃d,n.av[r.1.bS.bk.toNat]?=ς d/\r.1.bS.cA.ag=d.ag/\zy173 d.bj r.1.bS.cA=η)):=by
 have hm6:=zy328 h.map
 have hls:=h.ls
 have hld:=h.ld
 unfold zy26
 refine Wp.call (bK hc oaa) λr1 h1=>?_
 obtain⟨i,hi⟩:∃i:Nat,r1.1=i:=⟨r1.1.toNat,by omega⟩
 obtain⟨d,s,a,zy131,e2,e3,hm⟩:=h.at_ (i:=i) oaa
 simp only[hi,zy62,zy131,e2,ZY]
 refine Wp.call (bK h1.1 oaa) λr3 h3=>Wp.call (zy400 h3.1 oaa) λr4 h4=>Wp.call (bK h4 oaa) λr5 h5=>?_
 refine Wp.call (P:=FP2 d (i:Int)) ?_ ?_
 .refine Wp.cond (λ_=>?_) (λ_=>?_)
  .refine Wp.call (bK h5.1 oaa) λr30 h30=>?_
   have hs:=zy184 (x:=⟨WR (1+r30.1),[9]⟩) (by show 0<=WR (1+r30.1);rw[bM oaa];omega) (by show WR (1+r30.1)<=1000000;rw[bM oaa];omega) (λx hx=>by simp at hx;subst hx;simp[zy69]) (by simp) d.bj d.ag d.aZ
   have hr:=zy359 d.bj d.ag d.aZ (x:=⟨WR (1+r30.1),[9]⟩) (by simp)
   have hh:=zy450 d ⟨WR (1+r30.1),[9]⟩
   have hv:=zy449 d ⟨WR (1+r30.1),[9]⟩
   have hg:(zy183 d.bj d.ag d.aZ ⟨WR (1+r30.1),[9]⟩).ag=d.ag:=rfl
   have hq:RaR (zy183 d.bj d.ag d.aZ ⟨WR (1+r30.1),[9]⟩):=⟨zy437 _,by have:=hm.dp.ep;simp only[zy183];omega⟩
   generalize zy183 d.bj d.ag d.aZ ⟨WR (1+r30.1),[9]⟩=y at hs hr hh hv hg hq
   rw[hs]
   exact UM h30.1 hr hh hg hv hq oaa oaa
  refine Wp.call (P:=λx=>bA x.2.1/\SgC x.2.2) ?_ λx hx=>Wp.some ⟨hx.1,⟨⟨zy336,λx hx=>by simp[ez,fQ] at hx⟩,by simp only[];omega,by simp only[];omega,hx.2.1,hx.2.2,R64.z,R64.z⟩,rfl,.inr rfl⟩
  exact Wp.cond (λ_=>Wp.call (w29 h5.1 hm.dp) λr h=>Wp.some h) (λ_=>Wp.call (w30 h5.1 hm.sg.sp) λr h=>Wp.some h)
 rintro⟨c2,f⟩ ⟨k1,k2,k3,k4⟩
 simp only at k1 k2 k3 k4
 have he:EP {dM with bp:=13,bS:=f}:=⟨λx hx=>by simp[dM] at hx,k2.1.1,k2.1.2⟩
 rw[zy436 h he]
 simp only[ZY]
 refine Wp.call (P:=λk=>k=bif zy435 n {dM with bp:=13,bS:=f} then f.bh.bp else 7) ?_ ?_
 .cases zy435 n {dM with bp:=13,bS:=f}<;>exact Wp.some rfl
 rintro k rfl
 refine Wp.some ⟨k1,⟨λx hx=>by simp[dM] at hx,k2.1.1,k2.1.2⟩,?_,⟨k2.2.d,k2.2.c,k2.2.k,k2.2.s,k2.2.r⟩,λhr=>by
  simp_all⟩
 cases hh:zy435 n {dM with bp:=13,bS:=f}
 .simp only[cond_false,zy435]
  rw[YA,YA,YA];right;right;right
  simp only[zy434,k3,ZZ,zy131,e2]
  rcases k4 with⟨q1,q2,q3,_,_⟩|q1
  .simp_all
  rw[q1]
  have z:∀k:Int,k≠7->eqB 7 k=false:=λk hk=>eqB_f.2 (Ne.symm hk)
  cases f.dm<;>simp only[hUp,Lx,z _ (show(2:Int)≠7 by omega),z _ (show(3:Int)≠7 by omega),z _ (show(4:Int)≠7 by omega),z _ (show(5:Int)≠7 by omega),z _ (show(6:Int)≠7 by omega),z _ (show(8:Int)≠7 by omega),Bool.or_self,au]
 simp only[cond_true]
 omega
theorem Cw(n:ae)(f:bJ):(zy329 n f).av.length=n.av.length:=by rw[(zy332 n f).1]
theorem zy452:∀(c i:Nat) (n:ae),(zy356 c i n).av.length=n.av.length
 |0,_,_=>rfl
 |c+1,i,n=>by
  rw[zy356]
  cases n.av[i]? with
  |none=>rfl
  |some d=>simp only;rw[zy452,(zy355 _ _ _).1]
theorem zy453:∀(c i:Nat) (n:ae),(zy366 c i n).av.length=n.av.length
 |0,_,_=>rfl
 |c+1,i,n=>by
  rw[zy366]
  cases n.aD[i]? with
  |none=>rfl
  |some s=>cases n.bD[i]? with
   |none=>rfl
   |some a=>simp only;rw[zy453,(zy364 _ _ _).1]
theorem JK(n:ae)(k:Nat):(zy352 n k).av.length=n.av.length:=by
 rw[zy352]
 cases n.aV[k]? with
 |none=>rfl
 |some f=>
  simp only
  cases zy349 (zy347 n k) f.bg
  .rfl
  simp only[au]
  cases f.dm
  .simp only[cond_false]
   cases hd:(zy347 n k).av[f.bk.toNat]? with
   |none=>rfl
   |some d=>
    simp only
    cases eqB d.bg f.bg
    .rfl
    simp only[au];rw[(zy355 _ _ _).1];rfl
  simp only[cond_true]
  cases f.cS||!eqB f.bh.bg f.bg
  .simp only[cond_false]
   cases hs:(zy347 n k).aD[f.bk.toNat]? with
   |none=>rfl
   |some s=>simp only[Ag];rw[(zy333 _ _).1];rfl
  rfl
theorem zy454(n:ae)(e:dF):(zy394 n e).2.av.length=n.av.length:=by
 rw[zy394]
 split
 .rw[zy367]
  cases leB 100000 n.lI
  .simp only[cond_false];rw[zy453,zy452]
  rfl
 split
 .rw[zy389]
  cases inR e.cZ 0 ((n.aV.length:Int)-1)
  .rfl
  simp only[au]
  cases eqB e.bp 2
  .simp only[cond_false]
   cases eqB e.bp 3
   .simp only[cond_false]
    cases leB 200 (n.aV.length:Int)
    .simp only[cond_false]
     cases n.aV[e.cZ.toNat]? with
     |none=>rfl
     |some f=>exact Cw n f
    rfl
   rfl
  exact JK n _
 split
 .rw[DH]
  cases inR e.cZ 0 ((n.av.length:Int)-1)
  .rfl
  simp only[au]
  cases n.av[e.cZ.toNat]? with
  |none=>rfl
  |some d=>cases n.aD[e.cZ.toNat]? with
   |none=>rfl
   |some s=>
    simp only
    cases eqB e.bp 5
    .simp only[cond_false]
     cases eqB e.bp 6
     .grind
     simp only[cond_true]
     cases eqB e.bg d.bg||!zy134 n.d5 e.bg
     .exact(zy355 _ _ _).1
     rfl
    simp only[cond_true]
    cases eqB d.bB 0
    .rfl
    exact(zy355 _ _ _).1
 split
 .rw[zy391];grind
 split
 .rw[zy382]
  grind
 split
 .rw[zy392];cases xA n e.bS
  .rfl
  exact Cw n _
 rfl
abbrev NQ(n:ae)(r:dF×aj):Prop:=bA r.2/\EP r.1/\zy435 n r.1=ζ/\FS n r.1
theorem wPl{c:aj}(h:bA c){k i cell:Int}{b:List Int}(hb:okB b)(hk:k≠13):Wp (ς ((⟨k,i,cell,b,fN⟩:dF),c)) (NQ n):=
 Wp.some ⟨h,zy442 hb,zy443 n hk,zy440 n hk⟩
theorem lK:okB []:=λx hx=>by simp at hx
theorem wNo{b:Bool}{x y:α}{β:Type}{f:α->Option β}{Q:β->Prop}(h:∀z,Wp (f z) Q):Wp (ZW (bif b then ς x else ς y) f) Q:=by
 grind
theorem zy455{c':aj}(hc:bA c'):Wp (ZW (bif ltB 0 (n.aV.length:Int) then(ZW (fD c' 4) λr21=>ς (!r21.1,r21.2)) else(ς (η,c'))) λ((v16,v20):Bool×aj)=>bif v16 then(ZW (Cs (n.aV.length:Int) 3) λr22=>ZW (a9 v20 r22) λr23=>ZW (a9 r23.2 12) λr24=>bif eqB r24.1 0 then(ς ({dM with bp:=3,cZ:=r23.1},r24.2)) else(bif eqB r24.1 1 then(ς ({dM with bp:=4,cZ:=r23.1},r24.2)) else(ς ({dM with bp:=2,cZ:=r23.1},r24.2)))) else(ς ({dM with bp:=1},v20))) (NQ n):=by
 refine Wp.call (P:=λx=>bA x.2/\(x.1=ζ->0<n.aV.length)) ?_ ?_
 .refine Wp.cond (λhb=>?_) (λ_=>Wp.some ⟨hc,λh=>by simp at h⟩)
  have hb:=zy77 hb
  exact Wp.call (zy400 hc oaa) λr21 h21=>Wp.some ⟨h21,λ_=>by omega⟩
 rintro⟨v16,v20⟩ ⟨k1,k2⟩
 simp only at k1 k2
 refine Wp.cond (λhb=>?_) (λ_=>wPl k1 lK oaa)
 have:=k2 hb
 rw[zy242]
 simp only[ZY]
 have hm:1<=zy240 (n.aV.length:Int) 3:=by unfold zy240;split<;>omega
 refine Wp.call (bK k1 hm) λr23 h23=>Wp.call (bK h23.1 oaa) λr24 h24=>?_
 exact Wp.cond (λ_=>wPl h24.1 lK oaa) (λ_=>Wp.cond (λ_=>wPl h24.1 lK oaa) (λ_=>wPl h24.1 lK oaa))
theorem wNext(h:NP B n)(hd:1<=n.av.length){c:aj}(hc:bA c):Wp (zh c n) (NQ n):=by
 have hm6:=zy328 h.map
 have hl:=h.ld
 unfold zh
 rw[L0]
 simp only[ZY]
 have hmx:1<=zy243 1 (n.av.length:Int):=by unfold zy243;split<;>omega
 have hw:WR ((n.d5.bI.length:Int)+1)=(n.d5.bI.length:Int)+1:=bM oaa
 refine Wp.call (bK hc hmx) λr2 h2=>Wp.call (bK h2.1 oaa) λr3 h3=>?_
 refine Wp.cond (λ_=>wPl h3.1 lK oaa) (λ_=>wNo λ_=>?_)
 refine Wp.cond (λ_=>Wp.call (bK h3.1 oaa) λr5 h5=>wPl h5.1 lK oaa) (λ_=>?_)
 refine Wp.cond (λ_=>wPl h3.1 lK oaa) (λ_=>wNo λ_=>?_)
 refine Wp.cond (λ_=>Wp.call (bK h3.1 oaa) λr7 h7=>Wp.call (zy402 h7.1 h7.2.1 oaa) λr8 h8=>wPl h8.1 h8.2.1 oaa) (λ_=>?_)
 refine Wp.cond (λ_=>Wp.call (bK h3.1 oaa) λr9 h9=>wPl h9.1 lK oaa) (λ_=>wNo λ_=>?_)
 refine Wp.cond (λ_=>Wp.call (bK h3.1 oaa) λr9 h9=>wPl h9.1 lK oaa) (λ_=>?_)
 refine Wp.cond (λ_=>Wp.call (bK h3.1 oaa) λr9 h9=>wPl h9.1 lK oaa) (λ_=>?_)
 refine Wp.cond (λ_=>Wp.call (bK h3.1 oaa) λr9 h9=>wPl h9.1 lK oaa) (λ_=>wNo λ_=>?_)
 refine Wp.cond (λ_=>Wp.cond (λ_=>?_) (λ_=>zy455 h3.1)) (λ_=>zy455 h3.1)
 refine Wp.call (zy451 h hd h3.1) λr15 h15=>Wp.some ⟨h15.1,⟨lK,h15.2.1.f,h15.2.1.r⟩,?_,λ_=>h15.2.2.2⟩
 exact h15.2.2.1
theorem RN.apply{B l:Nat}(h:RN B l n){e:dF}(he:EP e)(hh:zy435 n e=ζ)(hf:FS n e):RN (B+1) l (zy394 n e).2:=by
 obtain⟨k,h1,h2,h3⟩:=h
 exact⟨k+1,h1.step he hh hf,by omega,by rw[zy454];exact h3⟩
theorem RN.mono{B B' l:Nat}(h:RN B l n)(hb:B<=B'):RN B' l n:=by
 obtain⟨k,h1,h2,h3⟩:=h;exact⟨k,h1,by omega,h3⟩
theorem zy456{c:aj}(h:bA c){most:Int}(hm:1<=most/\most<=150):Wp (A8 c most) (λr=>bA r.2.2.2/\∃l,(1<=l/\l<=3)/\RN 40 l r.1/\RN (42+most.toNat) l r.2.2.1/\(r.2.1.length<=160/\∀e∈r.2.1,EP e)):=by
 unfold A8
 refine Wp.call (X2 h) λr1 h1=>?_
 obtain⟨h11,l,hl,hr⟩:=h1
 obtain⟨b,hn,hb⟩:=hr.np oaa
 rw[zy150 hn.okN]
 simp only[ZY]
 refine Wp.call (bK h11 hm.1) λr3 h3=>?_
 have hw:WR (3+r3.1)=3+r3.1:=bM oaa
 refine Wp.call (P:=λx=>bA x.2.1/\RN (42+most.toNat) l x.2.2/\(x.1.length<=160/\∀e∈x.1,EP e)) ?_ λx hx=>Wp.some ⟨hx.1,l,hl,hr,hx.2.1,hx.2.2⟩
 refine Wp.iterF (λx=>(0<=x.1/\x.1<=2+most)/\bA x.2.2.1/\RN (40+(2+most-x.1).toNat) l x.2.2.2/\((x.2.1.length:Int)<=160-x.1/\∀e∈x.2.1,EP e)) (λx=>x.1.toNat) ⟨⟨by omega,by omega⟩,h3.1,hr.mono oaa,by grind,by simp⟩ oaa ?_
 rintro⟨v4,v8,v19,n⟩ ⟨⟨i0,i1⟩,i2,i3,i4,i5⟩
 simp only at i0 i1 i2 i3 i4 i5
 simp only[zy49]
 refine Wp.cond (λhb=>?_) (λhb=>Wp.some ⟨i2,i3.mono oaa,by grind,i5⟩)
 have hb:=zy77 hb
 obtain⟨b',hn',hb'⟩:=i3.np oaa
 have hdl:n.av.length=l:=i3.choose_spec.2.2
 refine Wp.call (wNext hn' oaa i2) λr51 h51=>?_
 refine Wp.ok (dS (by simp;omega) (by simp;omega)) ?_
 have ha:=zy395 hn' h51.2.1 oaa
 rw[zy150 hn'.okN]
 simp only[ZY]
 rw[ha.1]
 simp only[ZY]
 have hst:=i3.apply h51.2.1 h51.2.2.1 h51.2.2.2
 have hst:RN (40+(2+most-v4).toNat+1) l (zy394 n r51.1).2:=hst
 have hnn:RN (40+(2+most-v4).toNat+1) l n:=i3.mono oaa
 cases(zy394 n r51.1).1
 all_goals
  simp only[au]
  refine Wp.some ⟨⟨⟨?_,?_⟩,h51.1,?_,?_,?_⟩,?_⟩
  all_goals simp only[bM (show-9223372036854775808<=v4-1/\v4-1<=9223372036854775807 by omega)]
 any_goals omega
 any_goals grind
def LO(r:aP)(g:Int):Int:=(vec r.gS (JB r.ID g) g).gS
def BN(l:List b8)(k:Nat):Int:=((l.take k).map λp=>(p.bm.length:Int)).sum
def zy457(w:be):Int:=w.bF-1-w.aM.length
structure SI(d:ax)(s:ah)(a:an):Prop where
 zy458:d.dZ.dq<=s.b7.c9
 pq:s.bO<=s.b7.c9
 pg:0<s.bO->s.ag<s.bO
 pv:0<s.bO->s.aA=vec s.b7.gS (JB s.b7.ID s.bO) s.bO
 sg:s.ag<=s.b7.c9
 s1:s.bB=1->0<s.ag
 sk:0<s.ag->s.bj=LO s.b7 s.ag
 dg:d.ag<=d.dZ.dq
 zy162:0<d.ag->d.bj=LO s.b7 d.ag
 pr:d.bL.a8<+:s.aU
 pe:∀x∈d.bL.aA,s.aU[(x.c9-1).toNat]?=ς ⟨x.bm⟩/\x.c9<s.aK.bF
 nx:d.bL.bF<=s.aK.bF
 wn:∀x∈s.aK.aM,s.aU[(x.c9-1).toNat]?=ς ⟨x.bm⟩
 ak:zy457 s.aK<d.bL.bF
 ch:a.fj+s.ci.fK=BN s.aU (zy457 s.aK).toNat
def Wa(s:ah)(x:aF):Prop:=∃(k g e:Int) (b:List Int),0<g/\(1<=k/\k<s.aK.bF)/\s.aU[(k-1).toNat]?=ς ⟨b⟩/\x=zy183 (LO s.b7 g) g e ⟨k,b⟩
def RadB(d:ax)(x:aF):Prop:=x.ag<d.ag\/(x.ag=d.ag/\zy173 d.bj x=η)
def AskG(s:ah)(m:aT):Prop:=∃q,(1<=q/\q<=s.b7.c9)/\m.ag=q/\m.cj=vec s.b7.gS (JB s.b7.ID q) q
def AskB(d:ax)(m:aT):Prop:=zy194 d.dZ.gS d.dZ.dq m.cj=1\/zy194 d.dZ.gS d.dZ.dq m.cj=2
def AckB(s:ah)(m:aT):Prop:=m.ag<s.ag\/(m.ag=s.ag/\zy187 s.bj m=η)
structure FI(d:ax)(s:ah)(f:bJ):Prop where
 up:f.dm=ζ->f.cS=η->f.bh.bp=8->f.bh.bZ<=d.bL.bF\/AckB s f.bh
 rd:f.dm=η->f.cS=ζ->Wa s f.cA\/RadB d f.cA
 dn:f.dm=η->f.cS=η->f.bh.bp=2->AskG s f.bh\/AskB d f.bh
structure TG(d:ax)(s:ah)(d':ax)(s':ah):Prop where
 ck:d'.dZ.gS=d.dZ.gS
 zy458:d.dZ.dq<=d'.dZ.dq
 dg:d.ag<d'.ag\/(d'.ag=d.ag/\d'.bj=d.bj)
 rn:d.bL.bF<=d'.bL.bF
 ri:s'.b7.ID=s.b7.ID
 rk:s'.b7.gS=s.b7.gS
 rs:s.b7.c9<=s'.b7.c9
 sg:s.ag<s'.ag\/(s'.ag=s.ag/\s'.bj=s.bj)
 su:s.aU<+:s'.aU
 wn:s.aK.bF<=s'.aK.bF
structure PI(n:ae):Prop where
 si:∀(i:Nat) d s a,n.av[i]?=ς d->n.aD[i]?=ς s->n.bD[i]?=ς a->SI d s a
 fi:∀f∈n.aV,∀d s,n.av[f.bk.toNat]?=ς d->n.aD[f.bk.toNat]?=ς s->FI d s f
structure DevS(d:ax)(s:ah)(a:an)(r:bv):Prop where
 mo:TG d s r.bk s
 si:SI r.bk s a
 sg:∀m∈r.cT,m.bp=8->m.bZ<=r.bk.bL.bF
section
variable{d:ax}{s:ah}{a:an}(h:SI d s a)
include h
end
structure SesS(d:ax)(s:ah)(a:an)(r:bU):Prop where
 mo:TG d s d r.bb
 si:SI d r.bb a
 sg:∀m∈r.cT,m.bp=2->AskG r.bb m
section
variable{d:ax}{s:ah}{a:an}(h:SI d s a)(g:SG s a)
include h
include g
end
structure TrS(d:ax)(s:ah)(a:an)(s':ah)(a':an)(r:List aF):Prop where
 rc:s'.b7=s.b7
 gn:s'.ag=s.ag
 rk:s'.bj=s.bj
 su:s'.aU=s.aU
 st:s'.bB=s.bB
 wn:s.aK.bF<=s'.aK.bF
 si:SI d s' a'
 rd:∀x∈r,Wa s' x
section
variable{B:Int}{n:ae}(h:NP B n){i:Nat}{d:ax}{s:ah}{a:an}(hd:n.av[i]?=ς d)(hs:n.aD[i]?=ς s)(ha:n.bD[i]?=ς a)
include h hd hs ha
end
structure Paid(d:ax)(s:ah)(a:an):Prop where
 le:d.bL.a8.length<=s.aU.length
 eq:s.aU.take d.bL.a8.length=d.bL.a8
 ch:a.fj+s.ci.fK<=BN s.aU d.bL.a8.length
 to:a.fj+s.ci.fK<=a.fL
structure Good(n:ae):Prop where
 np:∃B:Int,NP B n/\B<=100000000
 pi:PI n
 dl:1<=n.av.length/\n.av.length<=3
 re:∃k,zy439 k n/\k<=200
 ru:∃k,zy441 k n/\k<=200
def zy459(r:aP)(g:Int):Int:=if g=0 then 0 else LO r g
def RadS(s:ah)(x:aF):Prop:=Wa s x\/zy173 (zy459 s.b7 x.ag) x=η
structure PR(n:ae):Prop where
 dz:∀d∈n.av,d.ag=0->d.bj=0
 sz:∀s∈n.aD,s.ag=0->s.bj=0
 rd:∀f∈n.aV,f.cS=ζ->f.dm=η/\∀s,n.aD[f.bk.toNat]?=ς s->RadS s f.cA
section
variable{B:Int}{n:ae}(hn:NP B n)(h:PR n){i:Nat}{d:ax}{s:ah}{a:an}(hd:n.av[i]?=ς d)(hs:n.aD[i]?=ς s)(ha:n.bD[i]?=ς a)
include hn h hd hs ha
end
section
variable{B:Int}{n:ae}(hn:NP B n)(p:PI n)(h:PR n){i:Nat}{s:ah}(hs:n.aD[i]?=ς s)
include hn p h hs
end
structure LI(K:Int)(d:ax)(s:ah):Prop where
 de:d.aZ<=K
 se:s.aZ<=K
 sd:s.ag<=d.ag
 cn:2<=d.bB->s.bB=1/\s.ag=d.ag/\0<d.ag/\s.aZ<=d.aZ
 cc:d.bB=2->s.aZ=d.aZ->s.bg=d.bg
 pc:d.bB=2->d.dx=ζ->s.aZ=d.aZ
def Vv(K:Int)(d:ax)(m:aT):Prop:=m.aZ<=K/\(m.ag<d.ag\/(m.ag=d.ag/\2<=d.bB/\m.aZ<=d.aZ/\(d.bB=2->m.aZ=d.aZ->m.bg=d.bg)))
def AccB(d:ax)(m:aT):Prop:=m.ag<d.ag\/(m.ag=d.ag/\zy187 d.bj m=η)
def AccG(K:Int)(d:ax)(s:ah)(m:aT):Prop:=
 m.aZ<=K/\0<m.ag/\(m.ag<s.ag\/(m.ag=s.ag/\s.bB=1/\(d.bB<=1->d.ag=s.ag->s.aZ=m.aZ/\s.bg=m.bg)))
def PakG(s:ah)(m:aT):Prop:=m.ag<s.ag\/(m.ag=s.ag/\m.aZ<=s.aZ)
def RespB(s:ah)(m:aT):Prop:=m.ag<=s.b7.c9/\(0<s.bO->m.ag≠s.bO\/m.bZ≠s.aA.uH)
structure LF(K:Int)(d:ax)(s:ah)(f:bJ):Prop where
 pa:f.dm=ζ->f.cS=η->f.bh.bp=5->AckB s f.bh\/Vv K d f.bh
 re:f.dm=ζ->f.cS=η->f.bh.bp=3->RespB s f.bh\/f.bh.ag<=d.ag
 ac:f.dm=η->f.cS=η->f.bh.bp=4->AccB d f.bh\/AccG K d s f.bh
 ka:f.dm=η->f.cS=η->f.bh.bp=6->AccB d f.bh\/PakG s f.bh
structure DevK(d d':ax)(s:ah):Prop where
 mo:TG d s d' s
 pa:d.ag<d'.ag\/(2<=d.bB->2<=d'.bB/\d.aZ<=d'.aZ/\(d'.bB=2->d'.aZ=d.aZ->d.bB=2/\d'.bg=d.bg))
 ac:d'.bB<=1->d'.ag=s.ag->d.bB<=1/\d.ag=s.ag
structure SesK(d:ax)(s s':ah):Prop where
 mo:TG d s d s'
 ac:s.ag<s'.ag\/(s'.ag=s.ag/\(s.bB=1->s'.bB=1)/\s.aZ<=s'.aZ/\(d.bB<=1->d.ag=s.ag->s'.aZ=s.aZ/\s'.bg=s.bg))
 rb:0<s'.bO->s.b7.c9<s'.bO\/(s'.bO=s.bO/\s'.aA=s.aA)
structure DevL(K:Int)(d:ax)(s:ah)(r:bv):Prop where
 li:LI (K+1) r.bk s
 k:DevK d r.bk s
 sg:∀m∈r.cT,(m.bp=5->Vv (K+1) r.bk m)/\(m.bp=3->m.ag<=r.bk.ag)
section
variable{K:Int}{d:ax}{s:ah}{a:an}
variable(h:LI K d s)(si:SI d s a)
include h si
end
structure SesL(K:Int)(d:ax)(s:ah)(r:bU):Prop where
 li:LI (K+1) d r.bb
 k:SesK d s r.bb
 sg:∀m∈r.cT,(m.bp=4->AccG (K+1) d r.bb m)/\(m.bp=6->PakG r.bb m)
section
variable{K:Int}{d:ax}{s:ah}{a:an}(h:LI K d s)(si:SI d s a)(g:SG s a)
include h si
include g
end
structure LN(K:Int)(n:ae):Prop where
 li:∀(i:Nat) d s,n.av[i]?=ς d->n.aD[i]?=ς s->LI K d s
 lf:∀f∈n.aV,∀d s,n.av[f.bk.toNat]?=ς d->n.aD[f.bk.toNat]?=ς s->LF K d s f
section
variable{K:Int}{n:ae}(h:LN K n){i:Nat}{d:ax}{s:ah}(hd:n.av[i]?=ς d)(hs:n.aD[i]?=ς s)
include h hd hs
end
def attF(i:Nat)(f:bJ):Bool:=f.dm&&(!f.cS&&(eqB f.bh.bp 1&&decide (f.bk.toNat=i)))
def natt(l:List bJ)(i:Nat):Int:=(l.countP (attF i):Nat)
def GB(G:Int)(n:ae):Prop:=∀(i:Nat) s,n.aD[i]?=ς s->s.b7.c9+natt n.aV i<=G
def outD(i:Nat)(d:ax):List bJ:=(nW d).cT.map (iM i ζ)
def outS(i:Nat)(t:cp):List bJ:=t.nJ.map (iM i η)++t.cA.map (sB i t.bb.bg)
def J0(i:Nat)(n:ae):List bJ:=n.aV.filter λf=>decide (f.bk.toNat=i)
structure TickAt(i:Nat)(n:ae)(d0:ax)(s0:ah)(a0:an)(n':ae):Prop where
 d:n'.av[i]?=ς (nW d0).bk
 s:n'.aD[i]?=ς (zy302 s0 a0 n.d5).bb
 a:n'.bD[i]?=ς (zy302 s0 a0 n.d5).fk
 f:J0 i n'=outD i d0++outS i (zy302 s0 a0 n.d5)
 m:n'.d5=n.d5
 w:n'.cP=n.cP
def zy460(u:Int->Bool)(i:Nat)(f:bJ)(d:ax)(s:ah):ax×ah×List bJ:=
 bif !u f.bg then(d,s,[]) else
 bif f.dm then(bif f.cS||!eqB f.bh.bg f.bg then(d,s,[]) else(d,(sUp s f.bh).bb,(sUp s f.bh).cT.map (iM i η)))
 else bif !eqB d.bg f.bg then(d,s,[]) else
  ((bif f.cS then xN d f.cA else xO d f.bh).bk,s,(bif f.cS then xN d f.cA else xO d f.bh).cT.map (iM i ζ))
def upF(m:bi)(w:Int)(c:Int):Bool:=zy134 m c&&eqB (uL .i64 (Ap .i64 w c) 1) 0
structure DelAt(i:Nat)(n:ae)(d:ax)(s:ah)(f:bJ)(n':ae):Prop where
 own:f.bk.toNat=i->n'.av[i]?=ς (zy460 (upF n.d5 n.cP) i f d s).1/\n'.aD[i]?=ς (zy460 (upF n.d5 n.cP) i f d s).2.1/\J0 i n'=(J0 i n).tail++(zy460 (upF n.d5 n.cP) i f d s).2.2/\J0 i n=f::(J0 i n).tail
 oth:f.bk.toNat≠i->n'.av[i]?=ς d/\n'.aD[i]?=ς s/\J0 i n'=J0 i n
 a:n'.bD=n.bD
 m:n'.d5=n.d5
 w:n'.cP=n.cP
 t:n'.lI=n.lI
structure EnvS(K G:Int)(nc i:Nat)(d:ax)(s:ah)(a:an)(F:List bJ):Prop where
 mp:MP nc i d s a
 si:SI d s a
 li:LI K d s
 sq:s.b7.c9<=G
 fi:∀f∈F,FI d s f
 lf:∀f∈F,LF K d s f
def OwnR(i:Int)(l:List aG):Prop:=∀x∈l,x.aH=i
def Vo(s:ah)(a:an):Int:=a.fj+a.bN+s.ci.cV
def RA(n:ae):Prop:=∀(i:Nat) a,n.bD[i]?=ς a->OwnR i a.aC
structure EQ(r:Nat)(n:ae):Prop where
 np:∃B:Int,NP B n/\B+14000*r<=1000000000000
 pi:PI n
 ln:∃K:Int,LN K n/\K+4100*r<=900000
 gb:∃G:Int,GB G n/\G+r<=900
 ra:RA n
 nw:n.lI+r<=100000
theorem zy461(n:ae)(k:Nat):(zy352 n k).d5=n.d5/\(zy352 n k).cP=n.cP/\(zy352 n k).lI=n.lI/\(zy352 n k).av.length=n.av.length:=by
 rw[zy352]
 cases n.aV[k]? with
 |none=>simp_all
 |some f=>
  simp only
  cases zy349 (zy347 n k) f.bg
  .exact⟨rfl,rfl,rfl,rfl⟩
  simp only[au]
  cases f.dm
  .simp only[cond_false]
   cases(zy347 n k).av[f.bk.toNat]? with
   |none=>exact⟨rfl,rfl,rfl,rfl⟩
   |some d=>
    simp only
    cases eqB d.bg f.bg
    .exact⟨rfl,rfl,rfl,rfl⟩
    simp only[au]
    have hk:=zy333 ((bif f.cS then xN d f.cA else xO d f.bh).cT.map (iM (f.bk.toNat:Int) ζ)) {zy347 n k with av:=(zy347 n k).av.set f.bk.toNat (bif f.cS then xN d f.cA else xO d f.bh).bk}
    exact⟨hk.2.2.2.1,hk.2.2.2.2.1,hk.2.2.2.2.2.2,by rw[zy339,hk.1];simp[zy347]⟩
  simp only[cond_true]
  cases f.cS||!eqB f.bh.bg f.bg
  .simp only[cond_false]
   cases(zy347 n k).aD[f.bk.toNat]? with
   |none=>exact⟨rfl,rfl,rfl,rfl⟩
   |some s=>
    have hk:=zy333 ((sUp s f.bh).cT.map (iM (f.bk.toNat:Int) η)) {zy347 n k with aD:=(zy347 n k).aD.set f.bk.toNat (sUp s f.bh).bb}
    exact⟨hk.2.2.2.1,hk.2.2.2.2.1,hk.2.2.2.2.2.2,by simp only[Ag];rw[hk.1];rfl⟩
  exact⟨rfl,rfl,rfl,rfl⟩
theorem zy462:∀(c i:Nat) (n:ae),(zy366 c i n).d5=n.d5/\(zy366 c i n).cP=n.cP/\(zy366 c i n).lI=n.lI/\(zy366 c i n).av.length=n.av.length
 |0,_,n=>⟨rfl,rfl,rfl,rfl⟩
 |c+1,i,n=>by
  rw[zy366]
  cases n.aD[i]? with
  |none=>simp_all
  |some s=>cases n.bD[i]? with
   |none=>simp_all
   |some a=>
    have k1:=zy333 ((zy302 s a n.d5).nJ.map (iM i η)) {n with aD:=n.aD.set i (zy302 s a n.d5).bb,bD:=n.bD.set i (zy302 s a n.d5).fk}
    have k2:=zy333 ((zy302 s a n.d5).cA.map (sB i (zy302 s a n.d5).bb.bg)) (sends {n with aD:=n.aD.set i (zy302 s a n.d5).bb,bD:=n.bD.set i (zy302 s a n.d5).fk} ((zy302 s a n.d5).nJ.map (iM i η)))
    have ih:=zy462 c (i+1) (zy363 n i (zy302 s a n.d5))
    simp only[zy363] at ih ⊢
    simp_all
theorem zy463:∀(c i:Nat) (n:ae),(zy356 c i n).d5=n.d5/\(zy356 c i n).cP=n.cP/\(zy356 c i n).lI=n.lI/\(zy356 c i n).av.length=n.av.length
 |0,_,n=>⟨rfl,rfl,rfl,rfl⟩
 |c+1,i,n=>by
  rw[zy356]
  cases n.av[i]? with
  |none=>simp_all
  |some d=>
   have hk:=zy333 ((nW d).cT.map (iM i ζ)) {n with av:=n.av.set i (nW d).bk}
   have ih:=zy463 c (i+1) (zy339 n i (nW d))
   simp only[zy339] at ih ⊢
   simp_all
theorem zy464(hw:n.lI<100000):(zy367 n).2.d5=n.d5/\(zy367 n).2.cP=n.cP/\(zy367 n).2.lI=n.lI+1/\(zy367 n).2.av.length=n.av.length:=by
 rw[zy367,leB_f.2 hw]
 simp only[cond_false]
 have h1:=zy463 n.av.length 0 {n with lI:=n.lI+1}
 have h2:=zy462 (zy356 n.av.length 0 {n with lI:=n.lI+1}).aD.length 0 (zy356 n.av.length 0 {n with lI:=n.lI+1})
 simp_all
structure KP(d0:ax)(s0:ah)(d:ax)(s:ah):Prop where
 c:d.bg=d0.bg
 u:s.aU=s0.aU
 g:s.ci.cV=s0.ci.cV
 i:s.ci.aH=s0.ci.aH
structure Kept(n:ae)(i:Nat)(d:ax)(s:ah)(a:an)(d':ax)(s':ah)(a':an):Prop where
 c:d'.bg=d.bg
 u:s'.aU=s.aU
 t:Vo s' a'=Vo s a
def noise(f:bJ):Prop:=f.dm=η/\(f.cS=ζ\/f.bh.bp=7)
structure Match(d:ax)(s:ah):Prop where
 st:d.bB=2
 ep:s.aZ=d.aZ
def okM(f:bJ):Prop:=(f.dm=ζ/\f.cS=η/\(f.bh.bp=5\/f.bh.bp=8))\/(f.dm=η/\(f.cS=ζ\/f.bh.bp=6\/f.bh.bp=7))
structure Conn(d d':ax):Prop where
 st:d'.bB=2
 ep:d'.aZ=d.aZ
 ce:d'.bg=d.bg
 gn:d'.ag=d.ag
 rk:d'.bj=d.bj
structure Link(d0:ax)(i:Nat)(w:Int)(d:ax)(s:ah)(F:List bJ):Prop where
 cn:Conn d0 d
 ok:∀f∈F,okM f
 st:Match d s\/iM i ζ (zy211 d)∈F\/d.hP<=w
structure Idle(d1:ax)(s1:ah)(i:Nat)(b:Prop)(d:ax)(s:ah)(F:List bJ):Prop where
 st:(d=d1/\s=s1/\(∀f∈F,noise f/\(f.cS=η->f=iM i η (zy296 f.bg)/\0<=f.bg/\f.bg<=5))/\(b->iM i η (zy296 d1.bg)∈F))\/(d.bg=d1.bg/\Link d i (-1) d s F)
structure Aff(s:ah)(a:an):Prop where
 ch:a.fj+s.ci.fK=BN s.aU (zy457 s.aK).toNat
 co:BN s.aU s.aU.length<=Vo s a
 ow:OwnR s.ci.aH a.aC
 wn:∀x∈s.aK.aM,s.aU[(x.c9-1).toNat]?=ς ⟨x.bm⟩
def zy465(r:aX)(k:Int):Prop:=k<r.bF\/∃y∈r.aA,y.c9=k
def radS(i:Nat)(d:ax)(x:ab):bJ:=sB i d.bg (zy183 d.bj d.ag d.aZ x)
structure MR(i:Nat)(d1:ax)(s1:ah)(S:List ab)(pg:Prop)(d:ax)(s:ah)(F:List bJ):Prop where
 cn:Conn d1 d
 ok:∀f∈F,okM f
 rd:∀f∈F,f.cS=ζ->∃x∈S,f=radS i d1 x
 ep:s.aZ=d.aZ
 nx:s.aK.bF=s1.aK.bF
 got:∀x∈S,zy465 d.bL x.c9\/radS i d1 x∈F
 mo:∀k,k<=24->zy465 d1.bL k->zy465 d.bL k
 ack:((∀x∈S,radS i d1 x∈F)/\∀f∈F,f.dm=ζ->f.bh.bp=5)\/zy457 s.aK=d.bL.bF-1\/iM i ζ (TY d d.bL)∈F
 am:zy457 s1.aK<=zy457 s.aK
 tm:(s.eg=s1.eg/\s.d9=s1.d9/\s.jn=s1.jn)\/(s.eg=0/\s.d9=0)\/(S≠[]/\s.eg=0/\s.d9=s1.d9/\s.jn=s1.jn)
 na:S=[]->∀f∈F,f.dm=ζ->f.bh.bp=5
 pd:pg->iM i η (zy296 d1.bg)∈F\/iM i ζ (zy211 d1)∈F\/(s.eg=0/\s.d9=0)
structure Served(d:ax)(s:ah):Prop where
 d:d.bL.a8.length=s.aU.length
 a:zy457 s.aK=s.aU.length
structure At(R:Nat)(n:ae)(i:Nat)(d0:ax)(s0:ah)(a0:an):Prop where
 q:EQ R n
 f:n.aV=[]
 d:n.av[i]?=ς d0
 s:n.aD[i]?=ς s0
 a:n.bD[i]?=ς a0
 u:upF n.d5 n.cP d0.bg=ζ
 c:BN s0.aU s0.aU.length<=Vo s0 a0
section
variable{R i:Nat}{n:ae}{d:ax}{s:ah}{a:an}
end
def zy466(m:Int)(d:ax)(s:ah):Prop:=∃N0,(∀k,N0<=k->k<s.aK.bF->zy465 d.bL k)/\N0-1<=zy457 s.aK+m
theorem CB(n:ae)(i:Nat)(r:bv):(zy339 n i r).lI=n.lI:=(zy355 n i r).2.2.2.2
theorem zy467(e:dF)(h:n.lI<=99999):(zy394 n e).2.lI<=n.lI+1:=by
 rw[zy394]
 split
 .rw[(zy464 (n:=n) oaa).2.2.1];omega
 split
 .rw[zy389]
  cases inR e.cZ 0 ((n.aV.length:Int)-1)
  .grind
  simp only[au]
  cases eqB e.bp 2
  .simp only[cond_false]
   cases eqB e.bp 3
   .simp only[cond_false]
    cases leB 200 (n.aV.length:Int)
    .simp only[cond_false]
     cases n.aV[e.cZ.toNat]? with
     |none=>grind
     |some f=>simp only;rw[(zy332 n f).2.2.2.2.2.2];omega
    grind
   simp only[cond_true,zy351,zy347];omega
  simp only[cond_true];rw[(zy461 n _).2.2.1];omega
 split
 .rw[DH]
  cases inR e.cZ 0 ((n.av.length:Int)-1)
  .grind
  simp only[au]
  cases n.av[e.cZ.toNat]? with
  |none=>grind
  |some d=>cases n.aD[e.cZ.toNat]? with
   |none=>grind
   |some s=>
    simp only
    cases eqB e.bp 5
    .simp only[cond_false]
     cases eqB e.bp 6
     .grind
     simp only[cond_true]
     cases eqB e.bg d.bg||!zy134 n.d5 e.bg
     .simp only[cond_false];rw[CB];omega
     grind
    simp only[cond_true]
    cases eqB d.bB 0
    .grind
    simp only[au];rw[CB];omega
 split
 .rw[zy391];grind
 split
 .rw[zy382];grind
 split
 .rw[zy392];cases xA n e.bS
  .grind
  simp only[au];rw[(zy332 n _).2.2.2.2.2.2];omega
 grind
theorem zy439.now:∀{k:Nat} {n:ae},zy439 k n->k<=90000->n.lI<=k
 |_,_,.new h hm hp hl hq,_=>by simp[zy417]
 |_,_,.step (k:=k) (e:=e) h he hh,hk=>by
  have h1:=h.now oaa
  have:=zy467 e (Int.le_trans h1 (show(_:Int)<=(99999:Int) by omega))
  omega
theorem wFmt{n:Int}(h: -9223372036854775808<=n/\n<=9223372036854775807):Wp (fC n) (λr=>r.size<=25):=by
 unfold fC
 refine Wp.cond (λ_=>Wp.some (by decide)) (λ_=>?_)
 refine Wp.call (P:=λr=>r.size<=20) ?_ λr hr=>Wp.cond (λ_=>Wp.ok ?_ (Wp.some ?_)) (λ_=>Wp.some oaa)
 .refine Wp.iterF (λx=>(-9223372036854775808<=x.2/\x.2<=9223372036854775807)/\∃k,x.2.natAbs<10^k/\x.1.size+k<=20) (λx=>20-x.1.size) ⟨h,19,by simp only[Nat.reducePow];omega,by simp only[];decide⟩ (by simp only[];omega) ?_
  rintro⟨v1,v2⟩ ⟨i0,k,i1,i2⟩
  simp only at i0 i1 i2
  simp only[jO]
  refine Wp.cond (λhb=>?_) (λ_=>Wp.some oaa)
  have hb:v2≠0:=by simpa using hb
  have hk:k≠0:=by rintro rfl;simp at i1;omega
  obtain⟨k,rfl⟩:=Nat.exists_eq_succ_of_ne_zero hk
  have ht:(aaw v2 10).natAbs=v2.natAbs/10:=aaD v2 10
  have hw:WR (aaw v2 10)=aaw v2 10:=bM oaa
  refine Wp.call (P:=λ_=>True) (Wp.cond (λ_=>Wp.some trivial) (λ_=>Wp.some trivial)) λv _=>?_
  have hs:(mz [IntKind.u8.wrap (WR (48+v))]).size=1:=rfl
  refine Wp.ok (by simp only[eT,hs,decide_eq_true_eq];omega) (Wp.some ⟨⟨by simp only[];rw[hw];omega,k,?_,?_⟩,?_⟩)
  .simp only[];rw[hw,ht];rw[Nat.pow_succ] at i1;omega
  .simp only[ByteArray.size_append,hs];omega
  simp only[ByteArray.size_append,hs];omega
 .have hs:(⟨#[45]⟩:ByteArray).size=1:=rfl
  simp only[eT,hs,decide_eq_true_eq];omega
 have hs:(⟨#[45]⟩:ByteArray).size=1:=rfl
 simp only[ByteArray.size_append,hs];omega
theorem zy468(n:Int):Wp (sX n) (λr=>okB r/\r.length<=25):=by
 unfold sX
 refine Wp.call (wFmt (zy437 _)) λr hr=>Wp.some ⟨λx hx=>?_,?_⟩
 .obtain⟨c,_,rfl⟩:=Y7.1 hx
  have:=c.toNat_lt
  unfold zy69;omega
 simp only[obS,YE,Array.length_toList]
 exact hr
theorem zy469(F:List ab)(hF:F.length<=1000):∀(m k:Nat) (n:Int) (dl:List b8) (fu:Nat),m=F.length-k->k<=F.length->dl.length<=24->0<=n->n+m<=2000000->m<fu->
 ∃k',iter (g7 F) fu (n,k,dl)=ς ((zy202 (F.drop k) n dl).bF,k',(zy202 (F.drop k) n dl).a8)/\(zy202 (F.drop k) n dl).aA=F.drop k'
 |0,k,n,dl,fu,h1,h2,h3,h4,h5,h6=>by
  cases fu with
  |zero=>omega
  |succ fu=>
   have e:F.drop k=[]:=List.drop_eq_nil_of_le oaa
   refine⟨k,?_,by rw[e];rfl⟩
   rw[iter,e]
   simp[g7,<-h1,zy202]
 |m+1,k,n,dl,fu,h1,h2,h3,h4,h5,h6=>by
  cases fu with
  |zero=>omega
  |succ fu=>
   have e:F.drop k=F[k]::F.drop (k+1):=List.drop_eq_getElem_cons oaa
   have hx:ix (F.drop k) 0=ς F[k]:=by rw[e];exact zy62 _ 0
   have hl:ltB 0 ((F.length-k:Nat):Int)=true:=ltB_t.2 oaa
   have hd:(F.drop k).length=F.length-k:=by simp
   rw[iter,e,zy202,<-e]
   by_cases c:F[k].c9=n/\dl.length<24
   .rw[if_pos c]
    obtain⟨k',zy131,e2⟩:=zy469 F hF m (k+1) (n+1) (dl++[⟨F[k].bm⟩]) fu oaa oaa (by simp;omega) oaa oaa oaa
    refine⟨k',?_,e2⟩
    have a1:cN 24 (dl++[(⟨F[k].bm⟩:b8)]).length=true:=cE oaa (by simp;omega)
    have a2:fa (F.drop k) 1 ((F.drop k).length:Nat)=true:=by simp[fa];omega
    have a3:ltB (dl.length:Int) 24=true:=ltB_t.2 oaa
    simp only[g7,hl,hx,c.1,bz,a1,a2,a3,bM (show-9223372036854775808<=n+1/\n+1<=9223372036854775807 by omega),au]
    exact zy131
   rw[if_neg c]
   refine⟨k,?_,by rw[e]⟩
   have:(bif eqB F[k].c9 n then ς (ltB (dl.length:Int) 24) else ς η)=ς false:=by
    cases he:eqB F[k].c9 n
    .rfl
    have:=zy80 he
    simp[ltB];omega
   simp only[g7,hl,hx,this,au]
theorem zy470{r:aX}(h:zy85 r){x:ab}:∃F k,lG r x=ς (o4 r x,F,k)/\(o4 r x).aA=F.drop k:=by
 obtain⟨q,hq,hq2⟩:=zy205 h.1.1 x.c9
 have hw:zy107 r=ζ->inR x.c9 r.bF (WR (WR (r.bF+8)-1))=inR x.c9 r.bF (r.bF+7):=λhv=>by
  have:=zy206 hv
  rw[bM (n:=r.bF+8) oaa,bM oaa,show r.bF+8-1=r.bF+7 by omega]
 have hl:(bif !zy107 r then ς ζ else(bif ltB 60 (x.bm.length:Int) then ς ζ else(bif !(inR x.c9 r.bF (WR (WR (r.bF+8)-1))) then ς ζ else(bif leB 0 q then ς ζ else ς (leB 24 (r.a8.length:Int))))))=ς (zy203 r x):=by
  rw[hq2,zy209]
  cases hv:zy107 r
  .simp[zy203,hv]
  rw[hw hv];simp[zy203,hv]
 simp only[lG,Kj h,zy109 h.2.1 h.1.1,zy97,hq,ZY,hl]
 rw[o4]
 cases hlt:zy203 r x
 .simp only[zy203,Yt,Z3] at hlt
  obtain⟨l1,l2,l3,l4,l5⟩:=hlt
  have hv:=zy206 l1
  have l2:=zy78 l2
  have l5:=zy79 l5
  have hw2:=zy197 (zy200 x.c9) r.aA
  have hrun:=zy199 (L:=eK x r) r.aA (zy200 x.c9) oaa (λk y hy=>by
   have hk:=(Yg.1 hy).1
   simp[eK,zy65 hk,hy,zy200]) (by simp[eK])
  have hxs:([]:List ab)++r.aA.take ((((r.aA.takeWhile (zy200 x.c9)).length:Nat):Int)).toNat++[(⟨x.c9,[]++x.bm⟩:ab)]++r.aA.drop ((((r.aA.takeWhile (zy200 x.c9)).length:Nat):Int)).toNat=zy201 x r.aA:=by
   simp[zy198,yk,zy201]
  have a1:fa r.aA 0 (((r.aA.takeWhile (zy200 x.c9)).length:Nat):Int)=true:=by simp[fa];omega
  have a2:fa r.aA (((r.aA.takeWhile (zy200 x.c9)).length:Nat):Int) (r.aA.length:Int)=true:=by simp[fa];omega
  have a3:cN 1 (([]:List Int)++x.bm).length=true:=cE oaa (by simp;omega)
  have a4:cN 32 (([]:List ab)++r.aA.take ((((r.aA.takeWhile (zy200 x.c9)).length:Nat):Int)).toNat).length=true:=cE oaa (by simp;omega)
  have a5:cN 32 (([]:List ab)++r.aA.take ((((r.aA.takeWhile (zy200 x.c9)).length:Nat):Int)).toNat++[(⟨x.c9,[]++x.bm⟩:ab)]).length=true:=cE oaa (by simp;omega)
  simp only[hrun,a1,a2,a3,a4,a5,au]
  obtain⟨k',zy131,e2⟩:=zy469 (zy201 x r.aA) (by grind) (zy201 x r.aA).length 0 r.bF r.a8 FU oaa oaa oaa oaa (by grind) (by have:=jU;grind)
  rw[List.drop_zero] at zy131 e2
  rw[hxs,cE oaa (show(zy201 x r.aA).length<=1048577 by grind),zy131]
  have hd:=zX (zy201 x r.aA) r.bF r.a8 oaa
  simp only[zy208,au]
  rw[show eqB (((zy202 (zy201 x r.aA) r.bF r.a8).a8.length:Nat):Int) 24=leB 24 (((zy202 (zy201 x r.aA) r.bF r.a8).a8.length:Nat):Int) from by rw[Bool.eq_iff_iff];simp[eqB,leB];omega]
  cases leB 24 (((zy202 (zy201 x r.aA) r.bF r.a8).a8.length:Nat):Int)
  .exact⟨_,_,by simp only[cond_false];rw[<-e2],e2⟩
  exact⟨[],0,rfl,rfl⟩
 exact⟨_,0,rfl,rfl⟩
structure RB(r:aX):Prop where
 ok:zy85 r
 b1:∀x∈r.aA,okB x.bm
 b2:∀p∈r.a8,okB p.bm
theorem RP.rb{r:aX}(h:RP r):RB r:=⟨h.ok,h.b1,h.b2⟩
theorem RP.zero:RP ⟨1,[],[]⟩:=⟨⟨⟨by simp,by simp⟩,⟨by simp,by simp⟩⟩,by simp[zy107,zJ,zy93,eqB,leB,zy423],by simp,by simp⟩
theorem RP.next{r:aX}(h:RP r):1<=r.bF/\r.bF<=25:=by
 have:=zy206 h.v
 omega
theorem ST{c:aj}(h:bA c):Wp (oA c) (λr=>bA r.2/\RP ⟨r.1.1,gP r.1.2.2,r.1.2.1⟩):=by
 unfold oA
 refine Wp.call (bK h oaa) λr1 h1=>?_
 refine Wp.call (P:=λx=>bA x.1/\RP ⟨x.2.1,gP x.2.2.2,x.2.2.1⟩) ?_ λx hx=>Wp.some hx
 refine Wp.iterF (λx=>x.1<=100/\bA x.2.1/\RP ⟨x.2.2.1,gP x.2.2.2.2,x.2.2.2.1⟩) (λx=>x.1.toNat) ⟨by have:=h1.2;simp only[];omega,h1.1,RP.zero⟩ (by have:=h1.2;simp only[];omega) ?_
 rintro⟨v2,v9,n,dl,g⟩ ⟨i1,i2,i3⟩
 simp only at i1 i2 i3
 simp only[zy43]
 refine Wp.cond (λhb=>?_) (λhb=>Wp.some ⟨i2,i3⟩)
 have hb:=zy77 hb
 refine Wp.call (bK i2 oaa) λr22 h22=>?_
 refine Wp.call (zy468 _) λr23 h23=>?_
 obtain⟨F,k,zy131,e2⟩:=zy470 i3.ok (x:=⟨WR (n+r22.1),r23⟩)
 have hw:WR (v2-1)=v2-1:=bM oaa
 refine Wp.eq zy131 (Wp.some ⟨⟨by simp only[];omega,h22.1,?_⟩,by simp only[];omega⟩)
 simp only[gP]
 rw[<-e2]
 exact zy317 i3 h23.1
theorem zy471{c:aj}(h:bA c):Wp (zy44 c) (λr=>bA r.2/\RB r.1):=by
 unfold zy44
 refine Wp.call (ST h) λr1 h1=>?_
 refine Wp.call (bK h1.1 oaa) λr2 h2=>?_
 have hb:=h1.2.rb
 have hl:=zy206 h1.2.v
 simp only at hl
 refine Wp.cond (λ_=>?_) (λ_=>Wp.cond (λ_=>?_) (λ_=>Wp.some ⟨h2.1,hb⟩))
 .exact Wp.call (zy401 h2.1 (by simp)) λr10 h10=>Wp.some ⟨h10.1,⟨hb.ok,hb.b1,hb.b2⟩⟩
 refine Wp.call (bK h2.1 oaa) λr16 h16=>Wp.ok (dS (by simp;omega) (by simp;omega)) (Wp.some ⟨h16.1,⟨⟨⟨by simp;omega,?_⟩,hb.ok.2⟩,?_,hb.b2⟩⟩)
 .intro x hx
  rcases Yi.1 hx with hx|hx
  .exact hb.ok.1.2 x hx
  rw[Y9.1 hx];exact⟨by simp,by simp⟩
 intro x hx
 rcases Yi.1 hx with hx|hx
 .exact hb.b1 x hx
 rw[Y9.1 hx];intro y hy;simp at hy
theorem zy472{c:aj}(h:bA c):Wp (o5 c) (λr=>bA r.2/\zy98 r.1=ζ):=by
 unfold o5
 exact Wp.call (bK h oaa) λr1 h1=>Wp.some ⟨h1.1,zy73.2 (by rw[bM oaa];omega)⟩
theorem zy473{c:aj}(h:bA c):Wp (zf c) (λr=>bA r.2/\(GY r.1.ID=ζ/\zy98 r.1.gS=ζ)/\0<=r.1.dq/\r.1.dq<=39):=by
 unfold zf
 refine Wp.call (P:=λr=>bA r.2/\GY r.1=ζ) ?_ λr1 h1=>Wp.call (zy472 h1.1) λr2 h2=>Wp.call (bK h2.1 oaa) λr3 h3=>Wp.some ⟨h3.1,⟨h1.2,h2.2⟩,h3.2.1,by have:=h3.2.2;simp only[];omega⟩
 unfold Kv
 refine Wp.call (bK h oaa) λr1 h1=>Wp.call (bK h1.1 oaa) λr2 h2=>Wp.some ⟨h2.1,?_⟩
 simp only[GY,hV,zy73]
 omega
theorem Vr{c:aj}(h:bA c):Wp (y8 c) (λr=>bA r.2/\DP r.1):=by
 unfold y8
 refine Wp.call (zy473 h) λr1 h1=>Wp.call (bK h1.1 oaa) λr2 h2=>?_
 rw[zy420,ZY]
 obtain⟨h10,h11,h12⟩:=h1
 have hd:DP (⟨r1.1,0,r2.1,0,0,0,η,0,⟨1,[],[]⟩⟩:ax):=⟨by simp only[xH,hV];exact⟨h11.1,h11.2,zy73.2 oaa⟩,by simp,by simp only[];omega,by simp,by simp,by simp,by simp,by simp,RP.zero⟩
 refine Wp.call (zy400 h2.1 oaa) λr4 h4=>Wp.cond (λ_=>Wp.some ⟨h4,hd⟩) λ_=>?_
 refine Wp.eq (WY hd.ok) ?_
 have h5:=PC hd
 refine Wp.call (zy400 h4 oaa) λr6 h6=>Wp.cond (λ_=>Wp.some ⟨h6,h5⟩) λ_=>?_
 refine Wp.call (bK h6 oaa) λr7 h7=>Wp.eq (zy195 _ _) (Wp.eq (zy193 _ _ _) (Wp.eq (Sj h5.ok h5.card h5.ep _) ?_))
 have h10:=zy312 h5
 refine Wp.call (bK h7.1 oaa) λr11 h11=>Wp.eq (yh _ _) (Wp.eq (Sj (h10 _).ok (h10 _).card (h10 _).ep _) ?_)
 refine Wp.call (bK h11.1 oaa) λr14 h14=>?_
 refine Wp.call (P:=λx=>bA x.1/\DP x.2) ?_ λx hx=>Wp.some hx
 refine Wp.iterF (λx=>x.1<=100/\bA x.2.1/\DP x.2.2) (λx=>x.1.toNat) ⟨by have:=h14.2;simp only[];omega,h14.1,zy312 (h10 _) _⟩ (by have:=h14.2;simp only[];omega) ?_
 rintro⟨v15,c,d⟩ ⟨i1,i2,i3⟩
 simp only at i1 i2 i3
 simp only[zy35]
 refine Wp.cond (λhb=>?_) (λ_=>Wp.some ⟨i2,i3⟩)
 have hb:=zy77 hb
 have hw:WR (v15-1)=v15-1:=bM oaa
 refine Wp.call (bK i2 oaa) λr hr=>?_
 refine Wp.call (P:=λx=>bA x.1/\DP x.2) ?_ (λx hx=>Wp.some ⟨⟨by simp only[];omega,hx.1,hx.2⟩,by simp only[];omega⟩)
 refine Wp.cond (λ_=>Wp.call (bK hr.1 oaa) λr2 h2=>Wp.eq (zy218 i3.ok i3.ep _) (Wp.some ⟨h2.1,BW i3 _⟩)) λ_=>?_
 refine Wp.call (P:=λx=>bA x.1/\DP x.2) ?_ (λx hx=>Wp.some hx)
 refine Wp.cond (λ_=>Wp.eq (Sz i3.ok i3.wt.2) (Wp.some ⟨hr.1,zy308 i3⟩)) λ_=>?_
 refine Wp.call (P:=λx=>bA x.1/\DP x.2) ?_ (λx hx=>Wp.some hx)
 refine Wp.cond (λ_=>Wp.eq (zy221 i3.ok) (Wp.some ⟨hr.1,Hy i3⟩)) λ_=>?_
 have hn:=i3.rc.next
 refine Wp.call (bK hr.1 oaa) λr2 h2=>Wp.call (zy468 _) λt ht=>?_
 have hq:WR (d.bL.bF+r2.1)=d.bL.bF+r2.1:=bM oaa
 exact Wp.eq (zy184 (by simp only[];omega) (by simp only[];omega) ht.1 (by have:=ht.2;simp only[];omega) _ _ _) (Wp.eq (VR i3.ok (zy359 _ _ _ (by have:=ht.2;simp only[];omega)).1) (Wp.some ⟨h2.1,zy318 i3 _⟩))
theorem Er{x:Int}{xs:List Int}(h:x∈xs)(hs:∀y∈xs,R64 y):R64 x:=hs x h
structure DB(d:ax):Prop where
 rb:RB d.bL
 n:R64 d.dZ.ID.dE/\R64 d.dZ.ID.bZ
 c:R64 d.bg
 e:R64 d.aZ
theorem DP.db{d:ax}(h:DP d):DB d:=by
 have h1:=h.card
 simp only[xH,GY,hV,zy73] at h1
 have h2:=h.ce
 have h3:=h.ep
 exact⟨h.rc.rb,⟨⟨by omega,by omega⟩,⟨by omega,by omega⟩⟩,⟨by omega,by omega⟩,⟨by omega,by omega⟩⟩
theorem SU{c:aj}(h:bA c):Wp (y7 c) (λr=>bA r.2/\DB r.1):=by
 unfold y7
 refine Wp.call (Vr h) λr1 h1=>Wp.call (bK h1.1 oaa) λr2 h2=>?_
 have hb:=h1.2.db
 refine Wp.call (P:=λx=>bA x.1/\DB x.2) ?_ (λx hx=>Wp.some hx)
 refine Wp.cond (λ_=>Wp.call (bK h2.1 oaa) λr h=>Wp.some ⟨h.1,⟨hb.rb,hb.n,hb.c,hb.e⟩⟩) λ_=>?_
 refine Wp.call (P:=λx=>bA x.1/\DB x.2) ?_ (λx hx=>Wp.some hx)
 refine Wp.cond (λ_=>Wp.call (zy401 h2.1 (by simp)) λr h=>Wp.some ⟨h.1,⟨hb.rb,hb.n,Er h.2 (by simp[R64]),hb.e⟩⟩) λ_=>?_
 refine Wp.call (P:=λx=>bA x.1/\DB x.2) ?_ (λx hx=>Wp.some hx)
 refine Wp.cond (λ_=>Wp.call (zy401 h2.1 (by simp)) λr h=>Wp.some ⟨h.1,⟨hb.rb,hb.n,hb.c,hb.e⟩⟩) λ_=>?_
 refine Wp.call (P:=λx=>bA x.1/\DB x.2) ?_ (λx hx=>Wp.some hx)
 refine Wp.cond (λ_=>Wp.call (zy471 h2.1) λr h=>Wp.some ⟨h.1,h.2,hb.n,hb.c,hb.e⟩) λ_=>?_
 refine Wp.call (P:=λx=>bA x.1/\DB x.2) ?_ (λx hx=>Wp.some hx)
 refine Wp.cond (λ_=>Wp.call (zy401 h2.1 (by simp)) λr h=>Wp.some ⟨h.1,⟨hb.rb,hb.n,hb.c,hb.e⟩⟩) λ_=>?_
 refine Wp.call (P:=λx=>bA x.2/\R64 x.1) ?_ (λx hx=>Wp.some ⟨hx.1,hb.rb,hb.n,hb.c,hx.2⟩)
 exact Wp.cond (λ_=>Wp.call (zy401 h2.1 (by simp)) λr h=>Wp.some ⟨h.1,Er h.2 (by simp[R64])⟩) λ_=>Wp.some ⟨h2.1,hb.e⟩
structure SB(s:ah):Prop where
 ok:zy88 s
 b1:∀p∈s.aU,okB p.bm
 b2:∀x∈s.aK.aM,okB x.bm
 ce:R64 s.bg
 ep:R64 s.aZ
theorem SG.sb(h:SG s a):SB s:=⟨h.sp.ok,h.b1,h.b2,by have:=h.sp.ce;exact⟨by omega,by omega⟩,by have:=h.sp.ep;exact⟨by omega,by omega⟩⟩
structure WB(w:be):Prop where
 ok:WOK w
 b:∀x∈w.aM,okB x.bm
theorem WB.any{w:be}(h:WB w){b:List Int}(hb:okB b)(hl:b.length<=60):Wp (iA w b) (λr=>WB r.1):=by
 have ok:=h.ok.ok
 have hn:=h.ok.n
 have hw:WR (w.bF+1)=w.bF+1:=bM oaa
 have hlen:=h.ok.l
 have hok2:iL ⟨w.bF+1,w.aM++[(⟨w.bF,b⟩:ab)]⟩:=⟨by simp;omega,λx hx=>by
  rcases Yi.1 hx with hx|hx
  .exact ok.2 x hx
  rw[Y9.1 hx];exact⟨by simp only[];omega,λ_ _=>trivial⟩⟩
 unfold iA
 refine Wp.eq (vO ok) (Wp.ok (dS (by simp;omega) (by simp;omega)) (Wp.ok (dS (by simp;omega) (by simp;omega)) (Wp.ok (dS (by simp;omega) (by simp;omega)) ?_)))
 simp only[Y8,hw]
 refine Wp.eq (zy116 hok2) ?_
 cases hv:zy115 ⟨w.bF+1,w.aM++[(⟨w.bF,b⟩:ab)]⟩
 .exact Wp.eq (vO ok) (Wp.some h)
 refine Wp.some ⟨zy247.1 hv,λx hx=>?_⟩
 rcases Yi.1 hx with hx|hx
 .exact h.b x hx
 rw[Y9.1 hx];exact hb
theorem X3{c:aj}(h:bA c):Wp (A3 c) (λr=>bA r.2.2/\zy101 {r.2.1 with c9:=r.1.dq}=ζ):=by
 unfold A3
 refine Wp.call (zy473 h) λr1 h1=>Wp.call (bK h1.1 oaa) λr2 h2=>Wp.call (bK h2.1 oaa) λr3 h3=>?_
 refine Wp.call (P:=λx=>bA x.2.2/\0<=x.2.1/\x.2.1<=999999) ?_ λx hx=>Wp.some ⟨hx.1,?_⟩
 .refine Wp.cond (λ_=>Wp.call (zy401 h3.1 (by simp)) λr h=>Wp.some ⟨h.1,by simp only[];omega,by simp only[];omega⟩) λ_=>?_
  refine Wp.call (P:=λx=>bA x.2/\0<=x.1/\x.1<=999999) ?_ λx hx=>Wp.some hx
  refine Wp.cond (λ_=>Wp.call (zy401 h3.1 (by simp)) λr h=>Wp.some ⟨h.1,?_⟩) λ_=>Wp.some ⟨h3.1,by simp only[];omega,by simp only[];omega⟩
  have:=h.2
  simp at this
  rcases this with e|e|e<;>rw[e]<;>decide
 simp only[zy101,hV]
 exact⟨h1.2.1.1,h1.2.1.2,zy73.2 hx.2⟩
theorem X1{c:aj}(h:bA c){x:aP}(hx:zy101 x=ζ){p:bY}(hp:qQ p=ζ)(hl:p.bX.length<=4){k:Int}(hk:0<=k):SG (⟨x,p,0,⟨0,0,0,0,0⟩,0,0,0,0,0,0,⟨0,0,0⟩,[],⟨1,[]⟩,0,⟨k,0,0⟩⟩:ah) (zy416 0):=by
 have hq:zy105 (⟨k,0,0⟩:dy)=true:=by simp[zy105,leB];omega
 have hok:zy88 (⟨x,p,0,⟨0,0,0,0,0⟩,0,0,0,0,0,0,⟨0,0,0⟩,[],⟨1,[]⟩,0,⟨k,0,0⟩⟩:ah):=⟨⟨by show p.bX.length<=1048576;omega,λ_ _=>trivial⟩,⟨by simp,by simp⟩,⟨by simp,by simp⟩⟩
 refine⟨(zy250 hok).1 ?_,by simp,by simp,zy272.1 ?_⟩
 .simp only[zy121,hx,hp,hq,Bool.true_and]
  have hz:zy119 (⟨x,p,0,⟨0,0,0,0,0⟩,0,0,0,0,0,0,⟨0,0,0⟩,[],⟨1,[]⟩,0,⟨k,0,0⟩⟩:ah)=true:=by
   simp[zy119,Kn,hq,zy111,zy422,leB]
  rw[hz]
  simp[inR,leB,ltB,zy98,zy102,zy115,zy120,zJ,zy93,eqB,zy423]
 have ha:zy127 (zy416 0)=true:=by decide+kernel
 simp only[zy416] at ha
 simp[wi,ha,hq,zy129,zy416,eqB]
theorem zy474(h:SG s a)(hc:0<=m.bg/\m.bg<=5):SG (zy254 s m).bb a:=by
 rw[zy254]
 cases hb:leB s.bO 0||(!eqB m.ag s.bO||(!eqB m.bZ s.aA.uH||leB 999999 s.aZ))
 .simp only[Yt] at hb
  exact zy324 h hc (zy79 hb.1) (zy79 hb.2.2.2)
 exact h
theorem zy475{c:aj}(h:bA c):Wp (zy38 c) (λr=>bA r.2/\SB r.1):=by
 unfold zy38
 refine Wp.call (X3 h) λr1 h1=>Wp.call (zy438 h1.1) λr2 h2=>Wp.call (bK h2.1 oaa) λr3 h3=>?_
 rw[zy419 (p:=r2.1) ⟨by omega,λ_ _=>trivial⟩,ZY]
 have hs:=X1 h h1.2 h2.2.2 h2.2.1 h3.2.1
 refine Wp.call (bK h3.1 oaa) λr5 h5=>?_
 refine Wp.call (P:=λx=>bA x.1/\SG x.2 (zy416 0)) ?_ λx hx=>?_
 .refine Wp.iterF (λx=>x.1<=100/\bA x.2.1/\SG x.2.2 (zy416 0)) (λx=>x.1.toNat) ⟨by have:=h5.2;simp only[];omega,h5.1,hs⟩ (by have:=h5.2;simp only[];omega) ?_
  rintro⟨v,c,s⟩ ⟨i1,i2,i3⟩
  simp only at i1 i2 i3
  simp only[xo]
  refine Wp.cond (λhb=>?_) (λ_=>Wp.some ⟨i2,i3⟩)
  have hb:=zy77 hb
  have hw:WR (v-1)=v-1:=bM oaa
  refine Wp.call (bK i2 oaa) λr hr=>Wp.call (zy402 hr.1 hr.2.1 oaa) λt ht=>Wp.eq (Sp i3.sp.ok) (Wp.some ⟨⟨by simp only[];omega,ht.1,zy325 i3 ht.2.1⟩,by simp only[];omega⟩)
 obtain⟨x1,s⟩:=x
 obtain⟨hx1,hs⟩:=hx
 simp only at hx1 hs
 refine Wp.call (zy400 hx1 oaa) λr83 h83=>Wp.cond (λ_=>Wp.some ⟨h83,hs.sb⟩) λ_=>?_
 refine Wp.call (bK h83 oaa) λr84 h84=>Wp.eq (zy264 hs.sp _) ?_
 have ha:=λm=>zy323 hs m
 refine Wp.call (zy400 h84.1 oaa) λr86 h86=>Wp.cond (λ_=>Wp.some ⟨h86,(ha _).sb⟩) λ_=>?_
 refine Wp.call (bK h86 oaa) λr87 h87=>Wp.eq (zy265 (ha _).sp _) ?_
 refine Wp.call (bK h87.1 oaa) λr89 h89=>Wp.call (bK h89.1 oaa) λr90 h90=>?_
 have hr:=zy474 (ha {eB with bp:=1,bg:=r84.1}) (m:=⟨3,r87.1,(zy252 s {eB with bp:=1,bg:=r84.1}).bb.bO,0,(zy252 s {eB with bp:=1,bg:=r84.1}).bb.aA.uH,c8,0⟩) ⟨h87.2.1,by have:=h87.2.2;simp only[];omega⟩
 refine Wp.call (P:=λx=>SB x) ?_ λx hx=>Wp.some ⟨h90.1,hx⟩
 refine Wp.iterF (λx=>x.1<=100/\SB x.2/\WB x.2.aK/\∀p∈x.2.aU,p.bm.length<=60) (λx=>x.1.toNat) ⟨by have:=h90.2;simp only[];omega,⟨hr.sp.ok,hr.b1,hr.b2,hr.sb.ce,hr.sb.ep⟩,⟨hr.sp.win,hr.b2⟩,hr.sp.sd⟩ (by have:=h90.2;simp only[];omega) ?_
 rintro⟨v,s⟩ ⟨i1,i2,i3,i4⟩
 simp only at i1 i2 i3 i4
 simp only[zy37]
 refine Wp.call (P:=λb=>b=ζ->0<v/\s.aK.bF<=s.aU.length) (Wp.cond (λhb=>Wp.some λhc=>⟨zy77 hb,vi hc⟩) λ_=>Wp.some (by simp)) λb hb=>?_
 refine Wp.cond (λhb2=>?_) (λ_=>Wp.some i2)
 obtain⟨hv,hn⟩:=hb hb2
 have hw:WR (v-1)=v-1:=bM oaa
 have hn0:=i3.ok.n
 have hw2:WR (s.aK.bF-1)=s.aK.bF-1:=bM oaa
 refine Wp.ix oaa oaa λx hx _=>Wp.call (i3.any (i2.b1 x hx) (i4 x hx)) λr hr=>?_
 refine Wp.cond (λ_=>?_) (λ_=>Wp.some ⟨⟨by simp only[];omega,i2,i3,i4⟩,by simp only[];omega⟩)
 have hrl:=hr.ok.l
 refine Wp.eq (zy112 oaa) (Wp.eq (zy113 _) (Wp.call (P:=λx=>SB x/\WB x.aK/\∀p∈x.aU,p.bm.length<=60) (Wp.cond (λ_=>Wp.some ⟨⟨⟨i2.ok.1,i2.ok.2.1,hr.ok.ok⟩,i2.b1,hr.b,i2.ce,i2.ep⟩,hr,i4⟩) λ_=>Wp.some ⟨i2,i3,i4⟩) λx hx=>Wp.some ⟨⟨by simp only[];omega,hx⟩,by simp only[];omega⟩))
theorem DY{c:aj}(h:bA c):Wp (nk c) (λr=>bA r.2/\WB r.1):=by
 unfold nk
 refine Wp.call (bK h oaa) λr1 h1=>?_
 refine Wp.call (P:=λx=>bA x.1/\WB x.2) ?_ λx hx=>Wp.some hx
 refine Wp.iterF (λx=>x.1<=100/\bA x.2.1/\WB x.2.2) (λx=>x.1.toNat) ⟨by have:=h1.2;simp only[];omega,h1.1,⟨by simp,by simp,by simp,by simp⟩,by simp⟩ (by have:=h1.2;simp only[];omega) ?_
 rintro⟨v,c,w⟩ ⟨i1,i2,i3⟩
 simp only at i1 i2 i3
 simp only[ro]
 refine Wp.cond (λhb=>?_) (λ_=>Wp.some ⟨i2,i3⟩)
 have hb:=zy77 hb
 have hw:WR (v-1)=v-1:=bM oaa
 refine Wp.call (zy400 i2 oaa) λr hr=>Wp.call (P:=λx=>bA x.1/\WB x.2) ?_ λx hx=>Wp.some ⟨⟨by simp only[];omega,hx⟩,by simp only[];omega⟩
 refine Wp.cond (λ_=>Wp.call (bK hr oaa) λr2 h2=>Wp.eq (Pb i3.ok _) (Wp.some ⟨h2.1,BA i3.ok _,λx hx=>?_⟩)) λ_=>?_
 .refine i3.b x ?_
  simp only[zy257] at hx
  revert hx
  cases ltB w.bF (WR (w.bF-r2.1))
  .exact λhx=>(List.mem_filter.1 hx).1
  exact λhx=>hx
 refine Wp.call (bK hr oaa) λr2 h2=>Wp.call (zy402 h2.1 h2.2.1 oaa) λt ht=>Wp.call (i3.any ht.2.1 (by have:=ht.2.2;have:=h2.2.2;omega)) λr3 h3=>Wp.cond (λ_=>Wp.some ⟨ht.1,h3⟩) λ_=>Wp.some ⟨ht.1,h3⟩
theorem zy476{c:aj}(h:bA c):Wp (zy14 c) (λr=>bA r.2/\iL r.1/\∀x∈r.1.aM,okB x.bm):=by
 unfold zy14
 refine Wp.call (DY h) λr1 h1=>Wp.call (bK h1.1 oaa) λr2 h2=>?_
 have ok:=h1.2.ok.ok
 have hl:=h1.2.ok.l
 have hb:=h1.2.b
 refine Wp.call (P:=λx=>bA x.1/\iL x.2/\∀y∈x.2.aM,okB y.bm) ?_ λx hx=>Wp.some hx
 refine Wp.cond (λ_=>Wp.call (zy401 h2.1 (by simp)) λr h=>Wp.some ⟨h.1,ok,hb⟩) λ_=>?_
 refine Wp.call (P:=λx=>bA x.2/\okL zy83 x.1/\∀y∈x.1,okB y.bm) ?_ λx hx=>Wp.some hx
 refine Wp.cond (λ_=>Wp.call (bK h2.1 oaa) λr16 h16=>Wp.ok (dS (by simp;omega) (by simp;omega)) (Wp.some ⟨h16.1,⟨by simp;omega,?_⟩,?_⟩)) λ_=>Wp.some ⟨h2.1,ok,hb⟩
 .intro x hx
  rcases Yi.1 hx with hx|hx
  .exact ok.2 x hx
  rw[Y9.1 hx];exact⟨by simp,by simp⟩
 intro x hx
 rcases Yi.1 hx with hx|hx
 .exact hb x hx
 rw[Y9.1 hx];intro y hy;simp at hy
theorem SV{c:aj}(h:bA c):Wp (zy40 c) (λr=>bA r.2/\SB r.1):=by
 unfold zy40
 refine Wp.call (zy475 h) λr1 h1=>Wp.call (bK h1.1 oaa) λr2 h2=>?_
 have hb:∀x:ah,x.jj=r1.1.jj->x.aU=r1.1.aU->x.aK=r1.1.aK->R64 x.bg->R64 x.aZ->SB x:=λx zy131 e2 e3 e4 e5=>⟨⟨by rw[zy131];exact h1.2.ok.1,by rw[e2];exact h1.2.ok.2.1,by rw[e3];exact h1.2.ok.2.2⟩,by rw[e2];exact h1.2.b1,by rw[e3];exact h1.2.b2,e4,e5⟩
 have hce:=h1.2.ce
 have hep:=h1.2.ep
 refine Wp.call (P:=λx=>bA x.1/\SB x.2) ?_ (λx hx=>Wp.some hx)
 refine Wp.cond (λ_=>Wp.call (bK h2.1 oaa) λr h=>Wp.some ⟨h.1,hb _ rfl rfl rfl hce hep⟩) λ_=>?_
 refine Wp.call (P:=λx=>bA x.1/\SB x.2) ?_ (λx hx=>Wp.some hx)
 refine Wp.cond (λ_=>Wp.call (zy401 h2.1 (by simp)) λr h=>Wp.some ⟨h.1,hb _ rfl rfl rfl hce hep⟩) λ_=>?_
 refine Wp.call (P:=λx=>bA x.1/\SB x.2) ?_ (λx hx=>Wp.some hx)
 refine Wp.cond (λ_=>Wp.call (zy401 h2.1 (by simp)) λr h=>Wp.some ⟨h.1,hb _ rfl rfl rfl hce hep⟩) λ_=>?_
 refine Wp.call (P:=λx=>bA x.1/\SB x.2) ?_ (λx hx=>Wp.some hx)
 refine Wp.cond (λ_=>Wp.call (zy401 h2.1 (by simp)) λr h=>Wp.some ⟨h.1,hb _ rfl rfl rfl hce (Er h.2 (by simp[R64]))⟩) λ_=>?_
 refine Wp.call (P:=λx=>bA x.1/\SB x.2) ?_ (λx hx=>Wp.some hx)
 refine Wp.cond (λ_=>Wp.call (zy401 h2.1 (by simp)) λr h=>Wp.some ⟨h.1,hb _ rfl rfl rfl hce hep⟩) λ_=>?_
 refine Wp.call (P:=λx=>bA x.1/\SB x.2) ?_ (λx hx=>Wp.some hx)
 refine Wp.cond (λ_=>Wp.call (zy476 h2.1) λr h=>Wp.some ⟨h.1,⟨h1.2.ok.1,h1.2.ok.2.1,h.2.1⟩,h1.2.b1,h.2.2,hce,hep⟩) λ_=>?_
 refine Wp.call (P:=λx=>bA x.1/\SB x.2) ?_ (λx hx=>Wp.some hx)
 refine Wp.cond (λ_=>Wp.call (bK h2.1 oaa) λr h=>Wp.some ⟨h.1,hb _ rfl rfl rfl hce hep⟩) λ_=>?_
 refine Wp.call (P:=λx=>bA x.2/\R64 x.1) ?_ (λx hx=>Wp.some ⟨hx.1,hb _ rfl rfl rfl hx.2 hep⟩)
 exact Wp.cond (λ_=>Wp.call (zy401 h2.1 (by simp)) λr h=>Wp.some ⟨h.1,Er h.2 (by simp[R64])⟩) λ_=>Wp.some ⟨h2.1,hce⟩
theorem zy477(ok:zy227 a)(i:Int):gE a i=ς (zy129 a i):=by
 have hfind:kC a i=ς (nT (λx=>eqB x.aH i) 0 a.aC):=zy234 ok λv=>rfl
 rw[gE,hfind,ZY]
 rcases zy230 ok.o i with⟨t,m,d,e,h1,h2⟩|⟨t,d,e,h1,h2⟩
 .rw[zy232 e h1,e,zy236 h1,ltB_f.2 oaa]
  simp
 rw[zy233 (λx hx=>by rw[e] at hx;exact zy269 h1 h2 x hx),e,zy237 h1 h2]
 simp[ltB]
theorem zy478(ok:zy227 a)(i:Int):∃b,vk a i=ς b/\zy227 b:=by
 have hv:=yr.2 ok
 have ht:=ok.t
 have hav:=ok.v
 have hs:=ok.s
 have hl:=ok.l
 have he:=ok.e
 have hfind:kC a i=ς (nT (λx=>eqB x.aH i) 0 a.aC):=zy234 ok λv=>rfl
 rcases zy230 ok.o i with⟨t,m,d,e,h1,h2⟩|⟨t,d,e,h1,h2⟩
 .have hm:=ok.r ⟨i,m⟩ (by rw[e];simp)
  have hsum:=(nP ok.r).2.2 ⟨i,m⟩ (by rw[e];simp)
  simp only at hm hsum
  have htl:t.length+1+d.length=a.aC.length:=by rw[e];simp;omega
  have ho:=ok.o
  rw[e] at ho
  have hs1:=nP (h:=t) λx hx=>ok.r x (by rw[e];simp[hx])
  have hs2:=nP (h:=d) λx hx=>ok.r x (by rw[e];simp[hx])
  have he':a.bN+a.fj+(zy226 t+(m+zy226 d))=a.fL:=by
   rw[e,nO,sumR_cons] at he;exact he
  refine⟨{a with bN:=a.bN+m,aC:=t++d},?_,⟨ht,by simp only;omega,hs,by simp;omega,λx hx=>ok.r x (by rw[e];rcases Yi.1 hx with hx|hx<;>simp[hx]),ho.sublist (by simp),by simp only[nO];omega⟩⟩
  have hc:=zy238 ok e h1 (n:=m) oaa
  have hx:nT (λx=>eqB x.aH i) 0 a.aC=(t.length:Int):=by rw[e];exact zy236 h1
  rw[e,zy231 h1,if_neg oaa,<-e] at hc
  simp only[vk,zy147 ok.ok,zy477 ok,zy128 ok.ok,hv,hfind,hx,hc,zy232 e h1,eqB_f.2 (show m≠0 by omega),bM (n:=a.bN+m) oaa,au]
 refine⟨a,?_,ok⟩
 simp only[vk,zy147 ok.ok,zy477 ok,zy128 ok.ok,hv,zy233 (λx hx=>by rw[e] at hx;exact zy269 h1 h2 x hx),bz,au]
theorem TI(b:Int):zy227 (zy416 b):=by
 have h:=zy425 b
 refine⟨?_,?_,?_,?_,?_,?_,?_⟩<;>simp[zy416,zy226]<;>omega
theorem M2{c:aj}(h:bA c):Wp (yW c) (λr=>bA r.2/\zy227 r.1):=by
 unfold yW
 refine Wp.call (bK h oaa) λr1 h1=>Wp.eq (zy418 _) (Wp.call (bK h1.1 oaa) λr3 h3=>?_)
 refine Wp.call (P:=λx=>bA x.1/\zy227 x.2) ?_ λx hx=>Wp.some hx
 refine Wp.iterF (λx=>x.1<=100/\bA x.2.1/\zy227 x.2.2) (λx=>x.1.toNat) ⟨by have:=h3.2;simp only[];omega,h3.1,TI _⟩ (by have:=h3.2;simp only[];omega) ?_
 rintro⟨v,c,a⟩ ⟨i1,i2,i3⟩
 simp only at i1 i2 i3
 simp only[Ah]
 refine Wp.cond (λhb=>?_) (λ_=>Wp.some ⟨i2,i3⟩)
 have hb:=zy77 hb
 have hw:WR (v-1)=v-1:=bM oaa
 refine Wp.call (bK i2 oaa) λr hr=>Wp.call (bK hr.1 oaa) λr2 h2=>Wp.call (P:=λx=>bA x.1/\zy227 x.2) ?_ λx hx=>Wp.some ⟨⟨by simp only[];omega,hx⟩,by simp only[];omega⟩
 refine Wp.cond (λ_=>Wp.eq (zy477 i3 _) ?_) λ_=>?_
 .have hq:=Ak i3 r.1
  rw[bM (n:=1+zy129 a r.1) oaa]
  refine Wp.call (bK h2.1 oaa) λr3 h3=>?_
  have hd:0<=r3.1/\r3.1<=zy129 a r.1:=by omega
  exact Wp.eq (zy245 i3 hd) (Wp.some ⟨h3.1,(zy271 i3 hd).1⟩)
 refine Wp.call (P:=λx=>bA x.1/\zy227 x.2) ?_ λx hx=>Wp.some hx
 refine Wp.cond (λ_=>?_) λ_=>Wp.call (bK h2.1 oaa) λr3 h3=>Wp.eq (zy244 i3 _ _) (Wp.some ⟨h3.1,(zy270 i3 _ _).1⟩)
 obtain⟨b,e,hb⟩:=zy478 i3 r.1
 exact Wp.eq e (Wp.some ⟨h2.1,hb⟩)
theorem XX{c:aj}(h:bA c):Wp (tY c) (λr=>bA r.2/\zy89 r.1):=by
 unfold tY
 refine Wp.call (M2 h) λr1 h1=>Wp.call (bK h1.1 oaa) λr2 h2=>?_
 have ok:=h1.2.ok
 have hl:=h1.2.l
 refine Wp.call (P:=λx=>bA x.1/\zy89 x.2) ?_ λx hx=>Wp.some hx
 refine Wp.cond (λ_=>Wp.call (zy401 h2.1 (by simp)) λr h=>Wp.some ⟨h.1,ok⟩) λ_=>?_
 refine Wp.call (P:=λx=>bA x.1/\zy89 x.2) ?_ λx hx=>Wp.some hx
 refine Wp.cond (λ_=>Wp.call (zy401 h2.1 (by simp)) λr h=>Wp.some ⟨h.1,ok⟩) λ_=>?_
 refine Wp.call (P:=λx=>bA x.2/\x.1.length<=1000) ?_ λx hx=>Wp.some ⟨hx.1,by show x.1.length<=1048576;omega,λ_ _=>trivial⟩
 exact Wp.cond (λ_=>Wp.call (bK h2.1 oaa) λr h=>Wp.call (bK h.1 oaa) λr3 h3=>Wp.ok (dS (by simp;omega) (by simp;omega)) (Wp.some ⟨h3.1,by simp;omega⟩)) λ_=>Wp.some ⟨h2.1,by simp only[];omega⟩
theorem XZ{c:aj}(h:bA c):Wp (AW c) (λr=>bA r.2):=by
 unfold AW CF
 refine Wp.call (P:=λx=>bA x.2) ?_ λr1 h1=>Wp.call (bK h1 oaa) λr2 h2=>?_
 .refine Wp.call (bK h oaa) λr1 h1=>?_
  obtain⟨k,hk,hk2⟩:∃k:Nat,r1.1=k/\k<=5:=⟨r1.1.toNat,by omega,by omega⟩
  have hp:∀k∈List.range 6,1<=my .i64 1 (WR (1+(k:Int)))/\leB 0 (WR (1+(k:Int)))=true:=by decide+kernel
  have:=hp k (List.mem_range.2 oaa)
  rw[hk]
  exact Wp.ok this.2 (Wp.call (bK h1.1 this.1) λr2 h2=>Wp.some h2.1)
 refine Wp.call (P:=λx=>bA x.1) ?_ λx hx=>Wp.some hx
 refine Wp.cond (λ_=>Wp.call (zy401 h2.1 (by simp)) λr h=>Wp.some h.1) λ_=>?_
 refine Wp.call (P:=λx=>bA x.2) ?_ λx hx=>Wp.some hx
 exact Wp.cond (λ_=>Wp.call (zy401 h2.1 (by simp)) λr h=>Wp.some h.1) λ_=>Wp.some h2.1
theorem XW{c:aj}(h:bA c):Wp (AT c) (λr=>bA r.2/\zy82 r.1):=by
 unfold AT
 refine Wp.call (zy404 h) λr1 h1=>?_
 obtain⟨h11,h12,h13⟩:=h1
 have hm:∀x∈r1.1.map λe=>(⟨e.1,e.2⟩:d6),Gl x:=(Cz h12.2 (λe he=>by have:=h13 e he;omega)).2
 refine Wp.call (bK h11 oaa) λr2 h2=>Wp.call (bK h2.1 oaa) λr3 h3=>?_
 refine Wp.call (P:=λx=>bA ⟨x.2.1,x.2.2.1,x.2.2.2⟩/\zy82 ⟨x.1⟩) ?_ λx hx=>Wp.some hx
 have hset:∀(y:d6),Gl y->zy82 ⟨(r1.1.map λe=>(⟨e.1,e.2⟩:d6)).set r2.1.toNat y⟩:=λy hy=>⟨by simp;omega,λx hx=>by
  rcases aav hx with hx|rfl
  .exact hm x hx
  exact hy⟩
 refine Wp.cond (λ_=>Wp.call (zy401 h3.1 (by simp)) λr4 h4=>Wp.ix h2.2.1 (by simp;omega) λx hx _=>Wp.some ⟨h4.1,hset _ (hm x hx)⟩) λ_=>?_
 refine Wp.cond (λ_=>Wp.ix h2.2.1 oaa λx hx _=>?_) λ_=>?_
 .have hxl:=h13 x hx
  refine Wp.call (bK h3.1 oaa) λr4 h4=>Wp.ok (dS (by simp;omega) (by simp;omega)) (Wp.some ⟨h4.1,Cz (by simp;omega) λe he=>?_⟩)
  rcases aav he with he|rfl
  .have:=h13 e he;omega
  simp;omega
 refine Wp.cond (λ_=>Wp.ix h2.2.1 (by simp;omega) λx hx _=>Wp.some ⟨h3.1,hset _ ⟨by simp,by simp⟩⟩) λ_=>?_
 exact Wp.cond (λ_=>Wp.some ⟨h3.1,⟨by simp,by simp⟩⟩) λ_=>Wp.some ⟨h3.1,by simp only[YE];omega,hm⟩
structure NA(Q:bJ->Prop)(n:ae):Prop where
 ok:zy92 n
 by_:BY n
 lo: -1<=n.Lost/\n.Lost<=10000000000
 nw:0<=n.lI/\n.lI<=90000
 q:∀f∈n.aV,Q f
theorem SX{Q:bJ->Prop}(hq:∀{k:Nat} {n:ae},zy441 k n->k<=1000->∀f∈n.aV,Q f)(hz:∀a b,R64 a->R64 b->Q {fN with bk:=a,bg:=b}){c:aj}(h:bA c){most:Int}(hm:1<=most/\most<=100):Wp (zy56 c most) (λr=>bA r.2/\NA Q r.1):=by
 unfold zy56 zy50
 refine Wp.call (P:=λx=>bA x.2/\(NA Q x.1/\1<=x.1.av.length)/\x.1.aD.length=x.1.av.length/\x.1.bD.length=x.1.av.length/\x.1.aV.length<=200) ?_ λr1 h1=>?_
 .refine Wp.call (zy456 h oaa) λr hr=>?_
  obtain⟨hc,l,hl,h0,hr,_⟩:=hr
  obtain⟨B,hn,hB⟩:=hr.np oaa
  obtain⟨k,h1,h2,h3⟩:=hr
  have hw:=h1.re.now oaa
  have hlo:=hn.lo
  have hnw:=hn.nw
  exact Wp.some ⟨hc,⟨⟨hn.okN,hn.by_,by simp only[];omega,by simp only[];omega,hq h1 oaa⟩,by simp only[];omega⟩,hn.ls,hn.la,hn.fl⟩
 obtain⟨hc,⟨hn,hl⟩,hs,ha,hf⟩:=h1
 have ok:=hn.ok
 refine Wp.call (bK hc oaa) λr2 h2=>?_
 refine Wp.call (P:=λx=>bA x.1/\NA Q x.2) ?_ λx hx=>Wp.some hx
 refine Wp.cond (λ_=>Wp.call (XW h2.1) λr h=>Wp.some ⟨h.1,⟨h.2,ok.2⟩,⟨hn.by_.d1,hn.by_.d2,hn.by_.s1,hn.by_.s2,hn.by_.f⟩,hn.lo,hn.nw,hn.q⟩) λ_=>?_
 refine Wp.call (P:=λx=>bA x.1/\NA Q x.2) ?_ λx hx=>Wp.some hx
 refine Wp.cond (λ_=>Wp.call (XZ h2.1) λr h=>Wp.some ⟨h,ok,⟨hn.by_.d1,hn.by_.d2,hn.by_.s1,hn.by_.s2,hn.by_.f⟩,hn.lo,hn.nw,hn.q⟩) λ_=>?_
 refine Wp.call (P:=λx=>bA x.1/\NA Q x.2) ?_ λx hx=>Wp.some hx
 refine Wp.cond (λ_=>Wp.call (zy401 h2.1 (by simp)) λr h=>Wp.some ⟨h.1,ok,⟨hn.by_.d1,hn.by_.d2,hn.by_.s1,hn.by_.s2,hn.by_.f⟩,hn.lo,hn.nw,hn.q⟩) λ_=>?_
 refine Wp.call (P:=λx=>bA x.1/\NA Q x.2) ?_ λx hx=>Wp.some hx
 refine Wp.cond (λ_=>Wp.call (SU h2.1) λr h=>Wp.ix oaa oaa λ_ _ _=>Wp.some ⟨h.1,⟨ok.1,⟨by simp only[aaz];exact ok.2.1.1,λx hx=>?_⟩,ok.2.2⟩,⟨λx hx=>?_,λx hx=>?_,hn.by_.s1,hn.by_.s2,hn.by_.f⟩,hn.lo,hn.nw,hn.q⟩) λ_=>?_
 .rcases aav hx with hx|rfl
  .exact ok.2.1.2 x hx
  exact h.2.rb.ok
 .rcases aav hx with hx|rfl
  .exact hn.by_.d1 x hx
  exact h.2.rb.b1
 .rcases aav hx with hx|rfl
  .exact hn.by_.d2 x hx
  exact h.2.rb.b2
 refine Wp.call (P:=λx=>bA x.1/\NA Q x.2) ?_ λx hx=>Wp.some hx
 refine Wp.cond (λ_=>Wp.call (SV h2.1) λr h=>Wp.ix oaa oaa λ_ _ _=>Wp.some ⟨h.1,⟨ok.1,ok.2.1,⟨by simp only[aaz];exact ok.2.2.1.1,λx hx=>?_⟩,ok.2.2.2⟩,⟨hn.by_.d1,hn.by_.d2,λx hx=>?_,λx hx=>?_,hn.by_.f⟩,hn.lo,hn.nw,hn.q⟩) λ_=>?_
 .rcases aav hx with hx|rfl
  .exact ok.2.2.1.2 x hx
  exact h.2.ok
 .rcases aav hx with hx|rfl
  .exact hn.by_.s1 x hx
  exact h.2.b1
 .rcases aav hx with hx|rfl
  .exact hn.by_.s2 x hx
  exact h.2.b2
 refine Wp.call (P:=λx=>bA x.1/\NA Q x.2) ?_ λx hx=>Wp.some hx
 refine Wp.cond (λ_=>Wp.call (XX h2.1) λr h=>Wp.ix oaa oaa λ_ _ _=>Wp.some ⟨h.1,⟨ok.1,ok.2.1,ok.2.2.1,⟨by simp only[aaz];exact ok.2.2.2.1.1,λx hx=>?_⟩,ok.2.2.2.2⟩,⟨hn.by_.d1,hn.by_.d2,hn.by_.s1,hn.by_.s2,hn.by_.f⟩,hn.lo,hn.nw,hn.q⟩) λ_=>?_
 .rcases aav hx with hx|rfl
  .exact ok.2.2.2.1.2 x hx
  exact h.2
 refine Wp.call (P:=λx=>bA x.1/\NA Q x.2) ?_ λx hx=>Wp.some hx
 refine Wp.cond (λ_=>Wp.ok (by simp[fa];omega) (Wp.some ⟨h2.1,⟨ok.1,ok.2.1,⟨by have:=ok.2.2.1.1;simp;omega,λx hx=>ok.2.2.1.2 x (aay hx)⟩,ok.2.2.2⟩,⟨hn.by_.d1,hn.by_.d2,λx hx=>hn.by_.s1 x (aay hx),λx hx=>hn.by_.s2 x (aay hx),hn.by_.f⟩,hn.lo,hn.nw,hn.q⟩)) λ_=>?_
 refine Wp.call (P:=λx=>bA x.1/\NA Q x.2) ?_ λx hx=>Wp.some hx
 refine Wp.cond (λ_=>Wp.call (bK h2.1 oaa) λr h=>Wp.call (bK h.1 oaa) λr3 h3=>Wp.ok (dS (by simp;omega) (by simp;omega)) (Wp.some ⟨h3.1,⟨ok.1,ok.2.1,ok.2.2.1,ok.2.2.2.1,⟨by simp;omega,λx hx=>?_⟩⟩,⟨hn.by_.d1,hn.by_.d2,hn.by_.s1,hn.by_.s2,λx hx=>?_⟩,hn.lo,hn.nw,λx hx=>?_⟩)) λ_=>?_
 .rcases Yi.1 hx with hx|hx
  .exact ok.2.2.2.2.2 x hx
  rw[Y9.1 hx];exact zy336
 .rcases Yi.1 hx with hx|hx
  .exact hn.by_.f x hx
  rw[Y9.1 hx];intro y hy;simp[fN,ez,fQ] at hy
 .rcases Yi.1 hx with hx|hx
  .exact hn.q x hx
  rw[Y9.1 hx];exact hz _ _ (zy437 _) (zy437 _)
 refine Wp.call (P:=λx=> -1<=x/\x<=10000000000) (Wp.cond (λ_=>Wp.some oaa) λ_=>Wp.some hn.lo) λx hx=>Wp.some ⟨h2.1,ok,⟨hn.by_.d1,hn.by_.d2,hn.by_.s1,hn.by_.s2,hn.by_.f⟩,hx,hn.nw,hn.q⟩
theorem zy479{n:Int}(h: -9223372036854775808<=n/\n<=9223372036854775807):rgI .i64 n:=by
 simp[rgI,Lit.wf,IntKind.min,IntKind.max,IntKind.signed,IntKind.bits];omega
theorem zy480(n:Int):rgI .i64 (WR n):=zy479 (zy437 n)
theorem Mw{α:Type}(g:Int->α->Int):∀(xs:List α) (a:Int),rgI .i64 a->rgI .i64 (xs.foldl (λs x=>WR (g s x)) a)
 |[],a,h=>h
 |x::xs,a,_=>by rw[aaa];exact Mw g xs _ (zy480 _)
theorem Bs(a:an):rgI .i64 (GV a):=Mw (λs (x:aG)=>s+x.dV) a.aC 0 (zy479 oaa)
def mkB(l:List UInt8):ByteArray:=⟨l.toArray⟩
theorem L3(a b:List UInt8):mkB a++mkB b=mkB (a++b):=by
 apply ByteArray.ext
 simp[mkB]
theorem zy481(a:ByteArray):a=mkB a.data.toList:=by simp[mkB]
theorem zy482(l:List UInt8):(mkB l).size=l.length:=by simp[mkB,ByteArray.size]
theorem zy483(a:Array UInt8):(ByteArray.mk a).size=a.size:=rfl
def zy484(n:Int):ByteArray:=mkB (Lib.itoa n)
theorem zy485{n:Int}(h:rgI .i64 n):(zy484 n).size<=21:=by
 have:=zy76 h
 rw[zy484,zy482];exact Lib.itoa_length_le n this.1 this.2
theorem zy486{n:Int}(h:rgI .i64 n):dP n=ς (zy484 n):=by
 have:=zy76 h
 unfold dP Lg
 rw[show(leB (-9223372036854775808) n&&leB n 9223372036854775807)=ζ from by simp[this.1,this.2]]
 rfl
def dig(u:Nat):List UInt8:=if u=0 then [] else Lib.decDigits u
theorem zy487{u:Nat}(h:u≠0):dig u=dig (u/10)++[UInt8.ofNat (48+u%10)]:=by
 unfold dig
 rw[if_neg h]
 by_cases h10:u<10
 .rw[Lib.decDigits,dif_pos h10,if_pos oaa,Nat.mod_eq_of_lt h10];rfl
 rw[if_neg oaa]
 conv=>lhs;rw[Lib.decDigits,dif_neg h10]
theorem Wf(k:Nat)(h:k<10):mz [IntKind.u8.wrap (WR (48+(k:Int)))]=mkB [UInt8.ofNat (48+k)]:=by
 have h1:WR (48+(k:Int))=48+(k:Int):=bM oaa
 have h2:IntKind.u8.wrap (48+(k:Int))=((48+k:Nat):Int):=by
  rw[show(48+(k:Int))=((48+k:Nat):Int) from by omega]
  simp only[IntKind.wrap,IntKind.bits,IntKind.signed,Bool.false_and,Bool.false_eq_true,if_false]
  omega
 rw[h1,h2]
 apply ByteArray.ext
 simp only[mz,mkB,List.foldl,ZZ]
 rfl
theorem zy488:∀(k u:Nat),u<10^k->(dig u).length<=k:=by
 intro k
 induction k with
 |zero=>
  intro u h
  have:u=0:=by simpa using h
  subst this;simp[dig]
 |succ k ih=>
  intro u h
  by_cases h0:u=0
  .subst h0;simp[dig]
  rw[zy487 h0,YF]
  have:=ih (u/10) (by rw[Nat.pow_succ] at h;omega)
  simp;omega
theorem zy489:∀(k m:Nat) (s:List UInt8) (x:Int),x.natAbs<10^k->k<m->s.length+k<=1000->x.natAbs<=9223372036854775808->iter jO m (mkB s,x)=ς (mkB (dig x.natAbs++s)):=by
 intro k
 induction k with
 |zero=>
  intro m s x h hm hs hx
  have hx0:x=0:=by
   have:x.natAbs=0:=by simpa using h
   omega
  subst hx0
  cases m with
  |zero=>omega
  |succ m=>simp[iter,jO,eqB,dig]
 |succ k ih=>
  intro m s x h hm hs hx
  cases m with
  |zero=>omega
  |succ m=>
   by_cases hx0:x=0
   .subst hx0;simp[iter,jO,eqB,dig]
   have hu:x.natAbs≠0:=by omega
   have ht:(ZX x 10).natAbs=x.natAbs%10:=by rw[Int.natAbs_tmod];rfl
   have hq:(aaw x 10).natAbs=x.natAbs/10:=by rw[aaD];rfl
   have hd:(bif ltB (ZX x 10) 0 then ς (WR (0-ZX x 10)) else ς (ZX x 10))=ς (((x.natAbs%10:Nat):Int)):=by
    by_cases hn:ZX x 10<0
    .rw[show ltB (ZX x 10) 0=ζ from by simp[ltB,hn],cond_true,bM oaa];congr 1;omega
    rw[show ltB (ZX x 10) 0=η from by simp[ltB];omega,cond_false];congr 1;omega
   have hw:WR (aaw x 10)=aaw x 10:=bM oaa
   have hk:x.natAbs%10<10:=Nat.mod_lt _ oaa
   simp only[iter,jO]
   rw[show eqB x 0=η from by simp[eqB,hx0]]
   simp only[au]
   rw[hd]
   simp only[ZY]
   rw[Wf _ hk,show eT (mkB [UInt8.ofNat (48+x.natAbs%10)]) (mkB s)=ζ from by simp[eT,zy482];omega,cond_true,hw,L3]
   simp only[]
   rw[ih m _ (aaw x 10) (by rw[hq];rw[Nat.pow_succ] at h;omega) oaa (by simp;omega) oaa]
   rw[hq,zy487 hu]
   simp
theorem u7{n:Int}(h:rgI .i64 n):fC n=ς (zy484 n):=by
 have hr:=zy76 h
 unfold fC
 by_cases h0:n=0
 .subst h0
  rw[show eqB 0 0=ζ from by simp,cond_true]
  congr 1
  unfold zy484 Lib.itoa
  rw[if_neg oaa,Lib.decDigits,dif_pos (by decide)]
  rfl
 rw[show eqB n 0=η from by simp[eqB,h0],cond_false]
 have hx9:n.natAbs<10^19:=by
  have:n.natAbs<=9223372036854775808:=by omega
  have e:(10:Nat)^19=10000000000000000000:=by decide
  omega
 have hl:=zy489 19 FU [] n hx9 (by have:=jU;omega) (by simp) oaa
 rw[show(⟨#[]⟩:ByteArray)=mkB [] from rfl,hl]
 simp only[ZY,List.append_nil]
 have hdl:=zy488 19 n.natAbs hx9
 by_cases hn:n<0
 .rw[show ltB n 0=ζ from by simp[ltB,hn],cond_true]
  rw[show(⟨#[45]⟩:ByteArray)=mkB [45] from rfl,show eT (mkB [45]) (mkB (dig n.natAbs))=ζ from by simp[eT,zy482];omega,cond_true,L3]
  congr 1
  unfold zy484 Lib.itoa dig
  rw[if_pos hn,if_neg oaa];rfl
 rw[show ltB n 0=η from by simp[ltB];omega,cond_false]
 congr 1
 unfold zy484 Lib.itoa dig
 rw[if_neg hn,if_neg oaa,show n.toNat=n.natAbs from by omega]
attribute [irreducible] zy484
theorem zy490(xs:List ByteArray)(sep:ByteArray):gZ xs sep=mkB (Lib.join (xs.map (·.data.toList)) sep.data.toList):=rfl
theorem sT(a:ByteArray):mkB a.data.toList=a:=(zy481 a).symm
theorem zy491(a b:ByteArray):(a++b).data.toList=a.data.toList++b.data.toList:=by simp
theorem zy492(sep:ByteArray):gZ [] sep=⟨#[]⟩:=rfl
theorem En(x sep:ByteArray):gZ [x] sep=x:=by
 rw[zy490,Yu,Zb,Lib.join_one,sT]
theorem xY(xs:List ByteArray)(x y sep:ByteArray):gZ (x::xs++[y]) sep=gZ (x::xs) sep++sep++y:=by
 have e:∀a b c:ByteArray,a++b++c=mkB (a.data.toList++b.data.toList++c.data.toList):=λa b c=>by
  rw[<-zy491,<-zy491,sT]
 rw[zy490,e,zy490]
 congr 1
 rw[Zc,Yu,Yu,Zb,List.cons_append,Lib.join_cons,Lib.join_cons]
 simp[Lib.joinTail,mkB]
theorem Ia(x y z sep:ByteArray):gZ [x,y,z] sep=x++sep++y++sep++z:=by
 rw[show [x,y,z]=x::[y]++[z] from rfl,xY,show x::[y]=x::[]++[y] from rfl,xY,En]
theorem zy493{a b:ByteArray}(h:a.size+b.size<=9223372036854775807):eT a b=true:=by simp[eT,h]
theorem zy494{xs:List Int}(hl:xs.length<=2097152)(h:∀x∈xs,rgI .i64 x)(sep:ByteArray):nV xs sep=w8 (xs.map zy484) sep:=by
 unfold nV
 rw[show u6 16 (xs.length:Int) (xs.length:Int)=ζ from by simp[u6];omega,cond_true,ZZ]
 rw[zy66 zy484 (⟨#[]⟩:ByteArray) xs oaa (λk x v hx hv=>by
  have hk:=(Yg.1 hx).1
  simp only[tE,zy65 hk,zy62,hx,zy486 (h x (Yh hx)),Yf (show k<v.length by omega),WRs (k:=k),ZZ,au]) (λv=>by simp[tE])]
 simp only[ZY]
 cases w8 (xs.map zy484) sep<;>rfl
theorem zy495{x y z:Int}(hx:rgI .i64 x)(hy:rgI .i64 y)(hz:rgI .i64 z){sep:ByteArray}(hs:sep.size<=10):nV [x,y,z] sep=ς (zy484 x++sep++zy484 y++sep++zy484 z):=by
 have s1:=zy485 hx;have s2:=zy485 hy;have s3:=zy485 hz
 rw[zy494 (by simp) (by simp[hx,hy,hz])]
 simp only[Yu,Zb]
 unfold w8
 rw[Ia,show(Nat.ble [zy484 x,zy484 y,zy484 z].length 140737488355328&&Nat.ble (zy484 x++sep++zy484 y++sep++zy484 z).size 140737488355328)=ζ from by
  simp only[hV,Nat.ble_eq,ByteArray.size_append,Yk,Z0];omega]
 rfl
structure ARf(x:an):Prop where
 a:rgI .i64 x.bN
 s:rgI .i64 x.fj
 t:rgI .i64 x.fL
def accT(a:an):ByteArray:=zy484 a.bN++⟨#[43]⟩++zy484 (GV a)++⟨#[43]⟩++zy484 a.fj++⟨#[61]⟩++zy484 a.fL
theorem Wc(h:zy89 a)(r:ARf a):mF a=ς (accT a):=by
 have s1:=zy485 r.a;have s2:=zy485 r.s;have s3:=zy485 r.t;have s4:=zy485 (Bs a)
 simp only[mF,XS h,zy495 r.a (Bs a) r.s (sep:=⟨#[43]⟩) (by simp[zy483]),zy486 r.t,ZY]
 simp(disch:=((try simp only[ByteArray.size_append,zy483,aau,Yk,Z0]);omega)) only[zy493,cond_true]
 rfl
theorem zy496(a:ByteArray):(⟨#[]⟩:ByteArray)++a=a:=by
 apply ByteArray.ext;simp
theorem zy497(xs:List α)(wd:α->ByteArray)(sep:ByteArray){k:Nat}{x:α}(hx:xs[k]?=ς x):
 gZ ((xs.take (k+1)).map wd) sep=(if k=0 then gZ ((xs.take k).map wd) sep else gZ ((xs.take k).map wd) sep++sep)++wd x:=by
 have hk:=(Yg.1 hx)
 obtain⟨hk1,hk2⟩:=hk
 rw[Z7,hx,aaB,Zc,Yu,Zb]
 cases k with
 |zero=>simp only[List.take_zero,Zb,Y8,En,if_true,zy492,zy496]
 |succ k=>
  rw[if_neg oaa]
  cases xs with
  |nil=>simp at hk1
  |cons y ys=>rw[List.take_succ_cons,Yu];exact xY _ _ _ _
theorem Hg{step:ByteArray×Int->Option (cH (ByteArray×Int) ByteArray)}(xs:List α)(wd:α->ByteArray)(sep:ByteArray)(B:Nat)(hl:xs.length<=9223372036854775806)(hB:xs.length*B<=1000000000000000)(hw:∀x∈xs,(wd x).size+sep.size<=B)(hs:∀(k:Nat) (x:α) (s:ByteArray),xs[k]?=ς x->k<xs.length->s.size<=1000000000000000->step (s,(k:Int))=ς (.next ((if k=0 then s else s++sep)++wd x,((k+1:Nat):Int))))(he:∀s,step (s,(xs.length:Int))=ς (.done s)):
 iter step FU (⟨#[]⟩,0)=ς (gZ (xs.map wd) sep)/\(gZ (xs.map wd) sep).size<=xs.length*B:=by
 have key:∀(n m k:Nat),k+n=xs.length->n<m->(gZ ((xs.take k).map wd) sep).size<=k*B->iter step m (gZ ((xs.take k).map wd) sep,(k:Int))=ς (gZ (xs.map wd) sep)/\(gZ (xs.map wd) sep).size<=xs.length*B:=by
  intro n
  induction n with
  |zero=>
   intro m k hk hm hsz
   cases m with
   |zero=>omega
   |succ m=>
    have:k=xs.length:=by omega
    subst this
    rw[aax] at hsz ⊢
    refine⟨?_,hsz⟩
    simp only[iter,he]
  |succ n ih=>
   intro m k hk hm hsz
   cases m with
   |zero=>omega
   |succ m=>
    have hkl:k<xs.length:=by omega
    have hx:=Yf hkl
    have hkB:k*B<=xs.length*B:=Nat.mul_le_mul_right _ oaa
    have hn:=zy497 xs wd sep hx
    have hwx:=hw _ (Z4 hkl)
    have hsz':(gZ ((xs.take (k+1)).map wd) sep).size<=(k+1)*B:=by
     rw[hn,ByteArray.size_append,Nat.add_mul]
     split
     .omega
     rw[ByteArray.size_append];omega
    simp only[iter]
    rw[hs k _ _ hx hkl oaa,<-hn]
    exact ih m (k+1) oaa oaa hsz'
 have:=key xs.length FU 0 oaa (by have:=jU;omega) (by simp[zy492,zy483])
 simpa [zy492] using this
theorem xT{xs:List ByteArray}{sep:ByteArray}(h1:xs.length<=140737488355328)(h2:(gZ xs sep).size<=140737488355328):w8 xs sep=ς (gZ xs sep):=by
 unfold w8
 rw[show(Nat.ble xs.length 140737488355328&&Nat.ble (gZ xs sep).size 140737488355328)=ζ from by simp[h1,h2]]
 rfl
structure LR(x:bV):Prop where
 a:rgI .i64 x.GP
 b:rgI .i64 x.GO
 c:rgI .i64 x.dV
def zy498(x:bV):ByteArray:=zy484 x.GP++⟨#[62]⟩++zy484 x.GO++⟨#[58]⟩++zy484 x.dV
theorem Ep{x:bV}(r:LR x):(zy498 x).size<=65:=by
 have s1:=zy485 r.a;have s2:=zy485 r.b;have s3:=zy485 r.c
 simp only[zy498,ByteArray.size_append,zy483,aau,Yk,Z0];omega
theorem zy499(xs:List α)(wd:α->ByteArray)(sep:ByteArray)(B:Nat)(hw:∀x∈xs,(wd x).size+sep.size<=B):(gZ (xs.map wd) sep).size<=xs.length*B:=by
 suffices H:∀k,k<=xs.length->(gZ ((xs.take k).map wd) sep).size<=k*B by
  have:=H xs.length (Nat.le_refl _)
  rwa [aax] at this
 intro k
 induction k with
 |zero=>intro _;simp[zy492,zy483]
 |succ k ih=>
  intro hk
  have hx:=Yf (show k<xs.length by omega)
  have:=hw _ (Z4 (show k<xs.length by omega))
  have i:=ih oaa
  rw[zy497 xs wd sep hx,Nat.add_mul]
  rw[ByteArray.size_append]
  split<;>(try rw[ByteArray.size_append])<;>omega
theorem stm_i{xs:List bV}(hl:xs.length<=1048576)(r:∀x∈xs,LR x):kN xs=(bif eqB (xs.length:Int) 0 then ς ⟨#[45]⟩ else ς (gZ (xs.map zy498) ⟨#[32]⟩)):=by
 unfold kN
 cases eqB (xs.length:Int) 0
 .simp only[cond_false]
  rw[show u6 16 (xs.length:Int) (xs.length:Int)=ζ from by simp[u6];omega,cond_true,ZZ]
  rw[zy66 zy498 (⟨#[]⟩:ByteArray) xs oaa (λk x v hx hv=>by
   have hk:=(Yg.1 hx).1
   have q:=r x (Yh hx)
   have s1:=zy485 q.a;have s2:=zy485 q.b;have s3:=zy485 q.c
   simp only[kZ,zy65 hk,zy62,hx,zy486 q.a,zy486 q.b,zy486 q.c,Yf (show k<v.length by omega),WRs (k:=k),ZZ,zy498,au]
   simp(disch:=((try simp only[ByteArray.size_append,zy483,aau,Yk,Z0]);omega)) only[zy493,cond_true,ZY]) (λv=>by simp[kZ])]
  simp only[ZY]
  rw[xT (by simp;omega) (by have:=zy499 xs zy498 ⟨#[32]⟩ 66 (λx hx=>by have:=Ep (r x hx);simp only[zy483,aau,Yk,Z0];omega);omega)]
  rfl
 rfl
theorem zy500{β:Type}{step:Int×List β->Option (cH (Int×List β) (List β))}(xs:List α)(f:α->β)(a0:List β)(hl:xs.length<=1048576)(ha:a0.length<=1000)(hs:∀(k:Nat) (x:α) (a:List β),xs[k]?=ς x->k<xs.length->a.length<=2000000->step ((k:Int),a)=ς (.next (((k+1:Nat):Int),a++[f x])))(he:∀a,step ((xs.length:Int),a)=ς (.done a)):iter step FU (0,a0)=ς (a0++xs.map f):=by
 have key:∀(n m k:Nat),k+n=xs.length->n<m->iter step m ((k:Int),a0++(xs.take k).map f)=ς (a0++xs.map f):=by
  intro n
  induction n with
  |zero=>
   intro m k hk hm
   cases m with
   |zero=>omega
   |succ m=>
    have:k=xs.length:=by omega
    subst this
    rw[aax]
    simp only[iter,he]
  |succ n ih=>
   intro m k hk hm
   cases m with
   |zero=>omega
   |succ m=>
    have hkl:k<xs.length:=by omega
    simp only[iter]
    rw[hs k _ _ (Yf hkl) hkl (by simp;omega)]
    have:=ih m (k+1) oaa oaa
    rw[Z7,Yf hkl,aaB,Zc,<-List.append_assoc] at this
    exact this
 have:=key xs.length FU 0 oaa (by have:=jU;omega)
 simpa using this
def zy501(n:ae):List Int:=[n.lI,(n.aV.length:Int),n.Lost]++n.av.map λd=>(d.bL.a8.length:Int)
theorem ap8{m:Nat}(h:m<=3000000):cN 8 m=true:=by simp[cN];omega
theorem sum_i(h:zy92 n):yt n=ς (zy501 n):=by
 unfold yt
 rw[zy500 n.av (λd=>(d.bL.a8.length:Int)) _ h.2.1.1 (by simp) (λk x a hx hk ha=>by
  have:=h.2.1.1
  simp only[uU,zy65 hk,zy62,hx,WRs (k:=k),ap8 (show(a++[(x.bL.a8.length:Int)]).length<=3000000 by simp;omega),au]) (λa=>by simp[uU])]
 rfl
theorem sum_s(h:zy92 n):yR n=ς (zy501 n):=by
 unfold yR
 rw[zy500 n.av (λd=>(d.bL.a8.length:Int)) _ h.2.1.1 (by simp) (λk x a hx hk ha=>by
  have:=h.2.1.1
  simp only[vu,zy65 hk,zy62,hx,WRs (k:=k),ap8 (show(a++[(x.bL.a8.length:Int)]).length<=3000000 by simp;omega),au]) (λa=>by simp[vu])]
 rfl
theorem zy502{x:Int}{xs:List Int}(h:x∈xs)(hs:∀y∈xs,R64 y):rgI .i64 x:=zy479 (hs x h)
theorem zy227.ar(h:zy227 a):ARf a:=by
 have h1:=h.t;have h2:=h.v;have h3:=h.s
 exact⟨zy479 oaa,zy479 oaa,zy479 oaa⟩
theorem zy503{c:aj}(h:bA c):Wp (tY c) (λr=>zy89 r.1/\ARf r.1):=by
 unfold tY
 refine Wp.call (M2 h) λr1 h1=>Wp.call (bK h1.1 oaa) λr2 h2=>?_
 have ok:=h1.2.ok
 have hl:=h1.2.l
 have ar:=h1.2.ar
 refine Wp.call (P:=λx=>zy89 x.2/\ARf x.2) ?_ λx hx=>Wp.some hx
 refine Wp.cond (λ_=>Wp.call (zy401 h2.1 (by simp)) λr h=>Wp.some ⟨ok,zy480 _,ar.s,ar.t⟩) λ_=>?_
 refine Wp.call (P:=λx=>zy89 x.2/\ARf x.2) ?_ λx hx=>Wp.some hx
 refine Wp.cond (λ_=>Wp.call (zy401 h2.1 (by simp)) λr h=>Wp.some ⟨ok,ar.a,ar.s,zy502 h.2 (by simp[R64])⟩) λ_=>?_
 refine Wp.call (P:=λx=>x.1.length<=1000) ?_ λx hx=>Wp.some ⟨⟨by show x.1.length<=1048576;omega,λ_ _=>trivial⟩,ar.a,ar.s,ar.t⟩
 exact Wp.cond (λ_=>Wp.call (bK h2.1 oaa) λr h=>Wp.call (bK h.1 oaa) λr3 h3=>Wp.ok (dS (by simp;omega) (by simp;omega)) (Wp.some (by simp;omega))) λ_=>Wp.some (by simp only[];omega)
theorem zy504{c:aj}(h:bA c):Wp (wE c) (λr=>r.1.length<=60/\∀x∈r.1,LR x):=by
 unfold wE
 refine Wp.call (bK h oaa) λr1 h1=>?_
 refine Wp.call (P:=λx=>bA x.2/\x.1.length<=50/\∀y∈x.1,LR y) ?_ λx hx=>?_
 .refine Wp.iterF (λx=>(x.1<=40/\(x.2.1.length:Int)+x.1<=40)/\x.2.1.length<=45/\bA x.2.2/\∀y∈x.2.1,LR y) (λx=>x.1.toNat) ⟨⟨by have:=h1.2;simp only[];omega,by have:=h1.2;simp only[Z0];omega⟩,by simp,h1.1,by simp⟩ (by have:=h1.2;simp only[];omega) ?_
  rintro⟨v,l,c⟩ ⟨⟨i0,i1⟩,i2,i3,i4⟩
  simp only at i0 i1 i2 i3 i4
  simp only[y9]
  refine Wp.cond (λhb=>?_) (λ_=>Wp.some ⟨i3,by simp only[];omega,i4⟩)
  have hb:=zy77 hb
  have hw:WR (v-1)=v-1:=bM oaa
  refine Wp.call (bK i3 oaa) λr h=>Wp.call (bK h.1 oaa) λr2 h2=>Wp.call (bK h2.1 oaa) λr3 h3=>Wp.ok (dS (by simp;omega) (by simp;omega)) (Wp.some ⟨⟨⟨by simp only[];omega,by simp;omega⟩,by simp;omega,h3.1,λy hy=>?_⟩,by simp only[];omega⟩)
  rcases Yi.1 hy with hy|hy
  .exact i4 y hy
  rw[Y9.1 hy];exact⟨zy479 (by simp only[];omega),zy479 (by simp only[];omega),zy479 (by simp only[];omega)⟩
 obtain⟨l,c⟩:=x
 obtain⟨hc,hl,hx⟩:=hx
 simp only at hc hl hx
 refine Wp.call (zy400 hc oaa) λr19 h19=>Wp.call (P:=λx=>x.1.length<=60/\∀y∈x.1,LR y) ?_ λx hx=>Wp.some hx
 refine Wp.cond (λ_=>Wp.call (zy401 h19 (by simp)) λr h=>Wp.ok (dS (by simp;omega) (by simp;omega)) (Wp.some ⟨by simp;omega,λy hy=>?_⟩)) λ_=>Wp.some ⟨by simp only[];omega,hx⟩
 rcases Yi.1 hy with hy|hy
 .exact hx y hy
 rw[Y9.1 hy];exact⟨zy502 h.2 (by simp[R64]),zy479 (by simp),zy479 (by simp)⟩
theorem zy505{xs:List bV}(hl:xs.length<=1048576)(r:∀x∈xs,LR x):
 iter (gB xs) FU (⟨#[]⟩,0)=ς (gZ (xs.map zy498) ⟨#[32]⟩):=by
 refine(Hg xs zy498 ⟨#[32]⟩ 66 oaa oaa (λx hx=>by have:=Ep (r x hx);simp only[zy483,aau,Yk,Z0];omega) (λk x s hx hk hs=>?_) (λs=>by simp[gB])).1
 have q:=r x (Yh hx)
 have s1:=zy485 q.a;have s2:=zy485 q.b;have s3:=zy485 q.c
 simp only[gB,zy65 hk,zy62,hx,WRs (k:=k),u7 q.a,u7 q.b,u7 q.c,zy498,au]
 cases k with
 |zero=>
  rw[show ltB 0 ((0:Nat):Int)=η from by simp[ltB]]
  simp(disch:=((try simp only[ByteArray.size_append,zy483,aau,Yk,Z0]);omega)) only[zy493,cond_true,cond_false,ZY,if_true,ByteArray.append_assoc]
 |succ k=>
  rw[show ltB 0 ((k+1:Nat):Int)=ζ from by simp[ltB],if_neg oaa]
  simp(disch:=((try simp only[ByteArray.size_append,zy483,aau,Yk,Z0]);omega)) only[zy493,cond_true,ZY,ByteArray.append_assoc]
theorem Un{xs:List Int}(hl:xs.length<=2000000)(r:∀x∈xs,rgI .i64 x):
 iter (gD xs) FU (⟨#[]⟩,0)=ς (gZ (xs.map zy484) ⟨#[32]⟩)/\(gZ (xs.map zy484) ⟨#[32]⟩).size<=xs.length*22:=by
 refine Hg xs zy484 ⟨#[32]⟩ 22 oaa oaa (λx hx=>by have:=zy485 (r x hx);simp only[zy483,aau,Yk,Z0];omega) (λk x s hx hk hs=>?_) (λs=>by simp[gD])
 have q:=r x (Yh hx)
 have s1:=zy485 q
 simp only[gD,zy65 hk,zy62,hx,WRs (k:=k),u7 q,au]
 cases k with
 |zero=>
  rw[show ltB 0 ((0:Nat):Int)=η from by simp[ltB]]
  simp(disch:=((try simp only[ByteArray.size_append,zy483,aau,Yk,Z0]);omega)) only[zy493,cond_true,cond_false,ZY,if_true,ByteArray.append_assoc]
 |succ k=>
  rw[show ltB 0 ((k+1:Nat):Int)=ζ from by simp[ltB],if_neg oaa]
  simp(disch:=((try simp only[ByteArray.size_append,zy483,aau,Yk,Z0]);omega)) only[zy493,cond_true,ZY,ByteArray.append_assoc]
theorem tT(xs:List Int)(hp:preL zy69 xs):zy58 xs=ς true:=by
 simp only[zy58,QA,ZY]
 cases hb:ltB 1048576 (xs.length:Int) with
 |true=>rfl
 |false=>
  have hl:=zy78 hb
  obtain⟨c,hc,hc1,_⟩:=J8 (xs:=xs) oaa hp.2
  obtain⟨ra,ea,hok,hr⟩:=(zy503 hc1).ex
  obtain⟨rl,el,hll,hlr⟩:=(zy504 hc1).ex
  obtain⟨rn,en,_,hg⟩:=(SX (Q:=λ_=>True) (λ_ _ _ _=>trivial) (λ_ _ _ _=>trivial) hc1 (most:=25) oaa).ex
  have hlo:=hg.lo
  have hnw:=hg.nw
  have q:=hg.ok
  have s1:=zy485 hr.a;have s2:=zy485 hr.s;have s3:=zy485 hr.t;have s4:=zy485 (Bs ra.1)
  have hsr:∀x∈zy501 rn.1,rgI .i64 x:=λx hx=>by
   simp only[zy501,Yi,Yl,Y7,aaA,or_false] at hx
   rcases hx with(rfl|rfl|rfl)|⟨d,hd,rfl⟩
   .exact zy479 oaa
   .exact zy479 (by have:=q.2.2.2.2.1;omega)
   .exact zy479 oaa
   exact zy479 (by have:=(q.2.1.2 d hd).2.1;omega)
  have hlen:(zy501 rn.1).length<=2000000:=by have:=q.2.1.1;simp[zy501];omega
  have hj:=Un hlen hsr
  have ei:mH rn.1=ς (gZ ((zy501 rn.1).map zy484) ⟨#[32]⟩):=by
   unfold mH
   rw[sum_i q]
   simp only[ZY]
   rw[zy494 oaa hsr,xT (by simp;omega) oaa]
   rfl
  simp only[zy1,kv,lX,zy57,vR,hc,ea,el,en,zy505 (xs:=rl.1) oaa hlr,sum_s q,hj.1,Wc hok hr,u7 hr.a,u7 hr.s,u7 hr.t,zy125 hok,u7 (Bs ra.1),stm_i (xs:=rl.1) oaa hlr,ei,au]
  simp(disch:=((try simp only[ByteArray.size_append,zy483,aau,Yk,Z0]);omega)) only[zy493,cond_true,ZY]
  rw[show zy484 ra.1.bN++⟨#[43]⟩++zy484 (GV ra.1)++⟨#[43]⟩++zy484 ra.1.fj++⟨#[61]⟩++zy484 ra.1.fL=accT ra.1 from rfl]
  cases eqB (rl.1.length:Int) 0<;>simp only[zy284,au]
def RGN(n:ae):Prop:=∀f∈n.aV,RgF f
theorem zy506{i:Nat}(hi:i<100){up:Bool}(hc:0<=m.bg/\m.bg<=5)(hm:SgR m):RgF (iM i up m):=
 ⟨by simp only[iM];omega,by simp only[iM];omega,by simp only[iM];omega,hm,by simp[iM,ez,fQ,RaR];exact R64.z⟩
theorem zy507{i:Nat}(hi:i<100){c:Int}(hc:0<=c/\c<=5){x:aF}(hx:RaR x):RgF (sB i c x):=
 ⟨by simp only[sB];omega,by simp only[sB];omega,by simp[sB,eB];exact R64.z,by simp[sB,eB,SgR];exact R64.z,hx⟩
theorem RGN.send(h:RGN n)(hf:RgF f):RGN (zy329 n f):=by
 rw[zy329]
 cases leB 200 (n.aV.length:Int)
 .intro g hg
  rcases Yi.1 hg with hg|hg
  .exact h g hg
  simp at hg;subst hg;exact hf
 exact h
theorem RGN.sends:∀(l:List bJ) {n:ae},RGN n->(∀f∈l,RgF f)->RGN (sends n l)
 |[],n,h,_=>h
 |f::l,n,h,hf=>RGN.sends l (h.send (hf f (by simp))) (λg hg=>hf g (by simp[hg]))
theorem dOn_R(d:ax):∀m∈(dOn d).cT,SgR m:=by
 rw[dOn]
 cases eqB d.bB 0<;>simp[zy212,SgR,eB]
 exact R64.z
section
variable{d:ax}(h:DP d)
include h
theorem T1:∀m∈(nW d).cT,SgR m:=by
 have h1:=h.gn
 have h2:=h.ep
 rw[nW]
 cases ltB 0 d.hP<;>cases eqB d.bB 1<;>cases eqB d.bB 2&&!d.dx<;>simp[zy212,zy211,zy186,SgR,eB]<;>omega
theorem zy508(c:Int):∀m∈(uz d c).cT,SgR m:=by
 have h1:=h.gn
 have h2:=h.ep
 rw[uz]
 cases eqB c d.bg||!inR c 0 5<;>cases eqB d.bB 2&&ltB d.aZ 999999<;>simp[xM,zy211,zy186,SgR]<;>omega
theorem zy509(m:aT):∀x∈(xO d m).cT,SgR x:=by
 have h1:=h.gn
 have h2:=h.ep
 rw[xO]
 cases hm:nX m
 .simp
 have hr:=zy310 hm
 cases !eqB m.bg d.bg||eqB d.bB 0
 .simp only[Bool.false_or,au]
  cases eqB m.bp 2&&eqB d.bB 1
  .simp only[cond_false]
   cases eqB m.bp 4&&(eqB d.bB 1&&(zy98 d.bj&&(eqB m.ag d.ag&&zy187 d.bj m)))<;>cases eqB m.bp 6&&(eqB d.bB 2&&(eqB m.ag d.ag&&(eqB m.aZ d.aZ&&zy187 d.bj m)))<;>cases eqB m.bp 7&&(eqB d.bB 3&&ltB d.aZ 999999)<;>cases eqB m.bp 7&&eqB d.bB 2<;>simp[xM,zy211,zy186,SgR]<;>omega
  simp only[cond_true,zy213]
  cases eqB (zy194 d.dZ.gS d.dZ.dq m.cj) 0<;>simp[SgR]
  omega
 simp
theorem Wi(x:aF):∀m∈(xN d x).cT,SgR m:=by
 have h1:=h.gn
 have h2:=h.ep
 simp only[xN]
 cases eqB d.bB 2&&(zy185 d.bj d.ag d.aZ x).2<;>simp[TY,zy186,SgR]
 omega
end
theorem sUp_R(h:SP s)(m:aT):∀x∈(sUp s m).cT,SgR x:=by
 have h1:=h.gn
 have h2:=h.ep
 have h3:=h.ps
 have h4:=zy263 h.rcd
 rw[sUp]
 cases hm:nX m
 .simp
 have hr:=zy310 hm
 simp only[au]
 cases eqB m.bp 1
 .cases eqB m.bp 3
  .cases eqB m.bp 5
   .cases eqB m.bp 8
    .simp
    simp only[zy260,au]
    cases !uE s m||ltB s.aK.bF m.bZ<;>simp
   simp only[zy256,au]
   cases !uE s m||(ltB m.aZ s.aZ||(eqB m.aZ s.aZ&&!eqB m.bg s.bg))<;>simp[wP,zy186,zy255,SgR]
   omega
  simp only[zy254,au]
  cases leB s.bO 0||(!eqB m.ag s.bO||(!eqB m.bZ s.aA.uH||leB 999999 s.aZ))<;>simp[wP,zy186,zy253,SgR]
  omega
 simp only[cond_true,zy252]
 cases eqB s.b7.c9 999999<;>simp[SgR]
 omega
theorem zy510(h:SP s):∀x∈zy289 s,RaR x:=by
 have h2:=h.ep
 rw[zy289];cases eqB s.bB 1
 .simp
 intro x hx
 obtain⟨y,hy,rfl⟩:=Y7.1 hx
 have:=zy290 h.win (List.mem_of_mem_take hy)
 simp only[RaR,zy183,zy182];omega
theorem MN:∀(k:Nat) (s:ah) (a:an) (r:List aF),SG s a->(∀x∈r,RaR x)->∀x∈(jK k s a r).2.2,RaR x
 |0,s,a,r,h,hr=>hr
 |k+1,s,a,r,h,hr=>by
  rw[jK]
  cases e:uF s with
  |none=>exact hr
  |some x=>
   obtain⟨hm,hx,_,hn,hl,hb⟩:=zy282 h.sp e
   have he:=zy283 h (n:=(x.bm.length:Int)) oaa
   obtain⟨q,hk⟩:=zy285 s a (x.bm.length:Int)
   simp only
   cases hq:ltB 0 (zy278 (em s a (x.bm.length:Int)).1 (x.bm.length:Int))
   .simp only[cond_false]
    refine MN k _ _ _ (Bh he (by rw[hk];exact e) hq) (λy hy=>?_)
    rcases Yi.1 hy with hy|hy
    .exact hr y hy
    simp at hy;subst hy
    have h2:=he.sp.ep
    have h3:=he.sp.win.n
    simp only[RaR,zy183,zy182];omega
   exact hr
theorem zy511(h:SG s a)(m:bi):(∀x∈(zy302 s a m).nJ,SgR x)/\∀x∈(zy302 s a m).cA,RaR x:=by
 have h1:=h.sp.gn
 have h2:=h.sp.ep
 rw[zy302]
 cases eqB s.bB 1
 .exact⟨by simp,by simp⟩
 simp only[au]
 have hq:=y3 h.sp
 cases ltB 4 (zy300 s)
 .simp only[cond_false,MI]
  refine⟨by simp,λx hx=>?_⟩
  rcases Yi.1 hx with hx|hx
  .rw[zy301] at hx;revert hx
   cases Ft s
   .simp
   cases ltB 0 s.d9
   .exact zy510 h.sp x
   simp
  exact MN 2 _ _ [] (h.upd hq (zy304 h.sp)) (by simp) x hx
 simp only[cond_true,IL]
 refine⟨λx hx=>?_,by simp⟩
 obtain⟨c,hc,rfl⟩:=Y7.1 hx
 simp only[zy296,SgR,zy186,eB];omega
theorem zy512(h:RGN n){i:Nat}(hi:i<100){c:Int}(hc:0<=c/\c<=5){d:ax}{r:bv}(k:DK c d r)(hr:∀m∈r.cT,SgR m):RGN (zy339 n i r):=
 RGN.sends _ h λf hf=>by obtain⟨m,hm,rfl⟩:=Y7.1 hf;exact zy506 hi (by rw[k.sg m hm];exact hc) (hr m hm)
theorem N7(h:RGN n){i:Nat}(hi:i<100){c:Int}(hc:0<=c/\c<=5){r:bU}(k:SK c s r)(hr:∀m∈r.cT,SgR m):RGN (Ag n i r):=
 RGN.sends _ h λf hf=>by obtain⟨m,hm,rfl⟩:=Y7.1 hf;exact zy506 hi (by rw[k.sg m hm];exact hc) (hr m hm)
theorem zy513(h:RGN n)(k:Nat):RGN (zy347 n k):=λf hf=>h f (by
 simp only[zy347,Yi] at hf
 grind)
theorem JJ(hn:NP B n)(h:RGN n)(k:Nat):RGN (zy352 n k):=by
 have hm6:=zy328 hn.map
 have hld:=hn.ld
 rw[zy352]
 cases hf:n.aV[k]? with
 |none=>exact h
 |some f=>
  have hfm:=Yh hf
  have hp:=hn.fs f hfm
  have h1:=zy513 h k
  have hdd:=hp.d
  have hcc:=hp.c
  obtain⟨d,s,a,zy131,e2,e3,hm⟩:=hn.at_ (i:=f.bk.toNat) oaa
  have q1:(zy347 n k).av[f.bk.toNat]?=ς d:=zy131
  have q2:(zy347 n k).aD[f.bk.toNat]?=ς s:=e2
  have hi:f.bk.toNat<100:=by omega
  simp only
  cases zy349 (zy347 n k) f.bg
  .exact h1
  simp only[q1,q2,au]
  cases hu:f.dm
  .simp only[cond_false]
   cases eqB d.bg f.bg
   .exact h1
   simp only[au]
   cases hr:f.cS
   .exact zy512 h1 hi hm.dp.ce (zy344 d _) (zy509 hm.dp _)
   exact zy512 h1 hi hm.dp.ce (FD d _) (Wi hm.dp _)
  simp only[cond_true]
  cases hr:f.cS||!eqB f.bh.bg f.bg
  .simp only[cond_false]
   simp only[Yt,Z3] at hr
   have:=zy80 hr.2
   exact N7 h1 hi (c:=f.bh.bg) oaa (zy345 s _) (sUp_R hm.sg.sp _)
  exact h1
theorem zy514:∀(c i:Nat) {B:Int} {n:ae},NP B n->B+c<4611686018427387904->RGN n->RGN (zy356 c i n)/\NP (B+c) (zy356 c i n)
 |0,_,_,_,hn,_,h=>⟨h,by simpa [zy356] using hn⟩
 |c+1,i,B,n,hn,hB,h=>by
  rw[zy356]
  cases hd:n.av[i]? with
  |none=>exact⟨h,hn.mono oaa⟩
  |some d=>
   have hld:=hn.ld
   have hi:=(Yg.1 hd).1
   obtain⟨d',s,a,zy131,e2,e3,hm⟩:=hn.at_ hi
   rw[hd] at zy131;cases zy131
   have ih:=zy514 c (i+1) (om hn hd (yB d) (zy308 hm.dp) hm.dc oaa) oaa (zy512 h oaa hm.dp.ce (yB d) (T1 hm.dp))
   exact⟨ih.1,ih.2.mono oaa⟩
theorem zy515:∀(c i:Nat) {B:Int} {n:ae},NP B n->B+2000*c<4611686018427387904->RGN n->RGN (zy366 c i n)
 |0,_,_,_,_,_,h=>h
 |c+1,i,B,n,hn,hB,h=>by
  rw[zy366]
  cases hs:n.aD[i]? with
  |none=>exact h
  |some s=>cases ha:n.bD[i]? with
   |none=>exact h
   |some a=>
    have hls:=hn.ls
    have hld:=hn.ld
    have hml:=zy328 hn.map
    have hi:=(Yg.1 hs).1
    obtain⟨d,s',a',zy131,e2,e3,hm⟩:=hn.at_ (i:=i) oaa
    rw[hs] at e2;rw[ha] at e3;cases e2;cases e3
    have hk:=zy362 hm.sg (m:=n.d5) oaa
    have hr:=zy511 hm.sg n.d5
    have hce:=hm.sg.sp.ce
    refine zy515 c (i+1) (zy365 hn hs ha hk (zy327 hm.sg hn.map) oaa) oaa ?_
    refine RGN.sends _ (RGN.sends _ h λf hf=>?_) λf hf=>?_
    .obtain⟨m,hm',rfl⟩:=Y7.1 hf
     have:=hk.pg m hm'
     exact zy506 oaa oaa (hr.1 m hm')
    obtain⟨m,hm',rfl⟩:=Y7.1 hf
    exact zy507 oaa (by rw[hk.cell];exact hce) (hr.2 m hm')
theorem W0(hn:NP B n)(h:RGN n)(e:dF):RGN (DH n e).2:=by
 have hld:=hn.ld
 rw[DH]
 cases inR e.cZ 0 ((n.av.length:Int)-1)
 .exact h
 simp only[au]
 cases hd:n.av[e.cZ.toNat]? with
 |none=>exact h
 |some d=>
  have hi:=(Yg.1 hd).1
  obtain⟨d',s,a,zy131,e2,e3,hm⟩:=hn.at_ hi
  rw[hd] at zy131;cases zy131
  simp only[e2]
  cases eqB e.bp 5
  .simp only[cond_false]
   cases eqB e.bp 6
   .simp only[cond_false]
    cases eqB e.bp 7
    .simp only[cond_false]
     cases(zy251 s e.bm).2<;>exact h
    simp only[cond_true]
    cases eqB d.bB 2<;>exact h
   simp only[cond_true]
   cases eqB e.bg d.bg||!zy134 n.d5 e.bg
   .rcases BV d e.bg with hk|⟨hc,hk⟩
    .exact zy512 h oaa hm.dp.ce hk (zy508 hm.dp _)
    exact zy512 h oaa hc hk (zy508 hm.dp _)
   exact h
  simp only[cond_true]
  cases eqB d.bB 0
  .exact h
  exact zy512 h oaa hm.dp.ce (FB d) (dOn_R d)
theorem zy516(hn:NP B n)(hB:B+10000<4611686018427387904)(h:RGN n){e:dF}(hs:e.bp=13->RgF e.bS):RGN (zy394 n e).2:=by
 rw[zy394]
 split
 .rw[zy367]
  cases hb:leB 100000 n.lI
  .simp only[cond_false]
   have hb:=zy79 hb
   have hl:=hn.ld
   have hnw:=hn.nw
   have h1:NP B {n with lI:=n.lI+1}:={hn with nw:=by simp only;omega}
   have t:=zy514 n.av.length 0 h1 oaa h
   have hls:=t.2.ls
   have hl2:=t.2.ld
   exact zy515 _ 0 t.2 oaa t.1
  exact h
 split
 .rw[zy389]
  cases inR e.cZ 0 ((n.aV.length:Int)-1)
  .exact h
  simp only[au]
  cases eqB e.bp 2
  .simp only[cond_false]
   cases eqB e.bp 3
   .simp only[cond_false]
    cases leB 200 (n.aV.length:Int)
    .simp only[cond_false]
     cases hf:n.aV[e.cZ.toNat]? with
     |none=>exact h
     |some f=>exact h.send (h f (Yh hf))
    exact h
   exact zy513 h _
  exact JJ hn h _
 split
 .exact W0 hn h e
 split
 .rw[zy391];cases !zy134 n.d5 e.cZ||booB (zy349 n e.cZ) (eqB e.bp 10)<;>exact h
 split
 .rw[zy382]
  cases !inR e.cZ 0 (n.gT.ia-1)||(booB (zy369 n.gT e.cZ) (eqB e.bp 12)||eqB (zy372 n.gT e.cZ (eqB e.bp 12)).fZ 0)<;>exact h
 split
 .rename_i h13
  rw[zy392];cases xA n e.bS
  .exact h
  exact h.send (hs h13)
 exact h
def zy517(l:List UInt8):Nat:=l.foldl (λa c=>a*10+(c.toNat-48)) 0
theorem zy518(l:List UInt8)(c:UInt8):zy517 (l++[c])=zy517 l*10+(c.toNat-48):=by simp[zy517]
theorem zy519{u:Nat}(h:u<10):Lib.decDigits u=[UInt8.ofNat (48+u)]:=by rw[Lib.decDigits,dif_pos h]
theorem HG{u:Nat}(h:¬u<10):Lib.decDigits u=Lib.decDigits (u/10)++[UInt8.ofNat (48+u%10)]:=by
 conv=>lhs;rw[Lib.decDigits,dif_neg h]
theorem dig8{u:Nat}(h:u<10):(UInt8.ofNat (48+u)).toNat=48+u:=by
 rw[UInt8.toNat_ofNat'];omega
theorem A5(u:Nat):zy517 (Lib.decDigits u)=u/\∀c∈Lib.decDigits u,48<=c.toNat:=by
 induction u using Nat.strongRecOn with
 |_ u ih=>
  by_cases h:u<10
  .rw[zy519 h]
   simp[zy517]
   omega
  have q:=ih (u/10) oaa
  have:=dig8 (show u%10<10 by omega)
  rw[HG h,zy518,q.1,this]
  refine⟨by omega,λc hc=>?_⟩
  rcases Yi.1 hc with hc|hc
  .exact q.2 c hc
  rw[Y9.1 hc,this];omega
theorem Qy{n m:Int}(h:Lib.itoa n=Lib.itoa m):n=m:=by
 have a1:=A5 n.natAbs;have a2:=A5 m.natAbs
 have b1:=A5 n.toNat;have b2:=A5 m.toNat
 unfold Lib.itoa at h
 by_cases hn:n<0<;>by_cases hm:m<0
 .rw[if_pos hn,if_pos hm] at h
  have:=(List.cons.inj h).2
  rw[this,a2.1] at a1;omega
 .rw[if_pos hn,if_neg hm] at h
  have:=b2.2 45 (by rw[<-h];simp)
  simp at this
 .rw[if_neg hn,if_pos hm] at h
  have:=b1.2 45 (by rw[h];simp)
  simp at this
 rw[if_neg hn,if_neg hm] at h
 rw[h,b2.1] at b1;omega
theorem Qx{n m:Int}(h:zy484 n=zy484 m):n=m:=by
 have h2:(zy484 n).data.toList=(zy484 m).data.toList:=by rw[h]
 unfold zy484 at h2
 exact Qy (by simpa [mkB] using h2)
theorem zy520(n:Int):1<=(zy484 n).size:=by
 unfold zy484
 rw[zy482]
 unfold Lib.itoa
 split
 .simp
 by_cases h:n.toNat<10
 .rw[zy519 h];simp
 rw[HG h];simp
theorem zy458{a x y:ByteArray}(h:a++x=a++y):x=y:=by
 have h2:(a++x).data.toList=(a++y).data.toList:=by rw[h]
 rw[zy491,zy491] at h2
 rw[<-sT x,<-sT y,List.append_cancel_left h2]
theorem cr{x y b:ByteArray}(h:x++b=y++b):x=y:=by
 have h2:(x++b).data.toList=(y++b).data.toList:=by rw[h]
 rw[zy491,zy491] at h2
 rw[<-sT x,<-sT y,List.append_cancel_right h2]
def sgN(k:Int):ByteArray:=bif eqB k 1 then⟨#[97,116,116,97,99,104]⟩ else(bif eqB k 2 then⟨#[99,104,97,108,108,101,110,103,101]⟩ else(bif eqB k 3 then⟨#[114,101,115,112,111,110,115,101]⟩ else(bif eqB k 4 then⟨#[97,99,99,101,112,116]⟩ else(bif eqB k 5 then⟨#[112,97,116,104,45,117,112,100,97,116,101]⟩ else(bif eqB k 6 then⟨#[112,97,116,104,45,97,99,107]⟩ else(bif eqB k 7 then⟨#[112,97,103,101]⟩ else(bif eqB k 8 then⟨#[100,97,116,97,45,97,99,107]⟩ else⟨#[63]⟩)))))))
theorem sgn_i(k:Int):qP k=ς (sgN k):=by
 unfold qP sgN
 cases eqB k 1<;>cases eqB k 2<;>cases eqB k 3<;>cases eqB k 4<;>cases eqB k 5<;>cases eqB k 6<;>cases eqB k 7<;>cases eqB k 8<;>rfl
theorem IU(k:Int):(sgN k).size<=11:=by
 unfold sgN
 cases eqB k 1<;>cases eqB k 2<;>cases eqB k 3<;>cases eqB k 4<;>cases eqB k 5<;>cases eqB k 6<;>cases eqB k 7<;>cases eqB k 8<;>decide
def dvN(k:Int):ByteArray:=bif eqB k 0 then⟨#[111,102,102]⟩ else(bif eqB k 1 then⟨#[97,116,116,97,99,104,105,110,103]⟩ else(bif eqB k 2 then⟨#[99,111,110,110,101,99,116,101,100]⟩ else(bif eqB k 3 then⟨#[105,100,108,101]⟩ else⟨#[63]⟩)))
theorem dvn_i(k:Int):kO k=ς (dvN k):=by
 unfold kO dvN
 cases eqB k 0<;>cases eqB k 1<;>cases eqB k 2<;>cases eqB k 3<;>rfl
theorem zy521(k:Int):(dvN k).size<=11:=by
 unfold dvN
 cases eqB k 0<;>cases eqB k 1<;>cases eqB k 2<;>cases eqB k 3<;>decide
theorem zy522{a b:Int}(hb:0<=b/\b<=3)(h:dvN a=dvN b):a=b:=by
 have hl:(dvN a).data.toList=(dvN b).data.toList:=by rw[h]
 have hn:∀x:Int,(x=0/\(dvN x).data.toList=[111,102,102])\/(x=1/\(dvN x).data.toList=[97,116,116,97,99,104,105,110,103])\/(x=2/\(dvN x).data.toList=[99,111,110,110,101,99,116,101,100])\/(x=3/\(dvN x).data.toList=[105,100,108,101])\/((x≠0/\x≠1/\x≠2/\x≠3)/\(dvN x).data.toList=[63]):=by
  intro x
  by_cases h0:x=0
  .subst h0;exact .inl ⟨rfl,by simp[dvN]⟩
  by_cases h1:x=1
  .subst h1;exact .inr (.inl ⟨rfl,by simp[dvN,eqB_f.2 (show(1:Int)≠0 by omega)]⟩)
  by_cases h2:x=2
  .subst h2;exact .inr (.inr (.inl ⟨rfl,by simp[dvN,eqB_f.2 (show(2:Int)≠0 by omega),eqB_f.2 (show(2:Int)≠1 by omega)]⟩))
  by_cases h3:x=3
  .subst h3;exact .inr (.inr (.inr (.inl ⟨rfl,by simp[dvN,eqB_f.2 (show(3:Int)≠0 by omega),eqB_f.2 (show(3:Int)≠1 by omega),eqB_f.2 (show(3:Int)≠2 by omega)]⟩)))
  exact .inr (.inr (.inr (.inr ⟨⟨h0,h1,h2,h3⟩,by simp[dvN,eqB_f.2 h0,eqB_f.2 h1,eqB_f.2 h2,eqB_f.2 h3]⟩)))
 rcases hn a with⟨zy131,q1⟩|⟨zy131,q1⟩|⟨zy131,q1⟩|⟨zy131,q1⟩|⟨zy131,q1⟩<;>rcases hn b with⟨e2,q2⟩|⟨e2,q2⟩|⟨e2,q2⟩|⟨e2,q2⟩|⟨e2,q2⟩<;>first
  |omega
  |(rw[q1,q2] at hl;simp at hl)
def ssN(k:Int):ByteArray:=bif eqB k 0 then⟨#[100,101,116,97,99,104,101,100]⟩ else(bif eqB k 1 then⟨#[97,99,116,105,118,101]⟩ else⟨#[63]⟩)
theorem ssn_i(k:Int):jW k=ς (ssN k):=by
 unfold jW ssN
 cases eqB k 0<;>cases eqB k 1<;>rfl
theorem zy523(k:Int):(ssN k).size<=11:=by
 unfold ssN
 cases eqB k 0<;>cases eqB k 1<;>decide
def sgB(m:aT):ByteArray:=sgN m.bp++⟨#[64]⟩++zy484 m.bg++⟨#[58]⟩++zy484 m.ag++⟨#[46]⟩++zy484 m.aZ
theorem zy524(h1:rgI .i64 m.bg)(h2:rgI .i64 m.ag)(h3:rgI .i64 m.aZ):oh m=ς (sgB m):=by
 have s1:=zy485 h1;have s2:=zy485 h2;have s3:=zy485 h3;have s4:=IU m.bp
 simp only[oh,sgn_i,zy486 h1,zy486 h2,zy486 h3,ZY,sgB]
 simp(disch:=((try simp only[ByteArray.size_append,zy483,aau,Yk,Z0]);omega)) only[zy493,cond_true]
theorem zy525(h1:rgI .i64 m.bg)(h2:rgI .i64 m.ag)(h3:rgI .i64 m.aZ):(sgB m).size<=100:=by
 have s1:=zy485 h1;have s2:=zy485 h2;have s3:=zy485 h3;have s4:=IU m.bp
 simp only[sgB,ByteArray.size_append,zy483,aau,Yk,Z0];omega
def zy526(b:Bool):ByteArray:=bif b then⟨#[94]⟩ else⟨#[118]⟩
theorem zy527(b:Bool):(zy526 b).size=1:=by cases b<;>rfl
def P6(f:bJ):ByteArray:=bif f.cS then⟨#[100,97,116,97,64]⟩++zy484 f.bg++⟨#[58]⟩++zy484 f.cA.bH.eJ++⟨#[46]⟩++zy484 f.cA.aZ else sgB f.bh
def zy528(f:bJ):ByteArray:=zy484 f.bk++zy526 f.dm++P6 f
theorem zy529(r:RgF f):gH f=ς (zy528 f):=by
 have k1:=zy479 r.d;have k2:=zy479 r.c;have k3:=zy479 r.k;have k4:=zy479 r.s.1;have k5:=zy479 r.s.2;have k6:=zy479 r.r.1;have k7:=zy479 r.r.2
 have s1:=zy485 k1;have s2:=zy485 k2;have s3:=zy485 k6;have s4:=zy485 k7;have s5:=zy525 k3 k4 k5
 simp only[gH,zy486 k1,zy486 k2,zy486 k6,zy486 k7,zy524 k3 k4 k5,ZY,zy528,P6,zy526]
 cases f.dm<;>cases f.cS<;>simp only[au]
 all_goals simp(disch:=((try simp only[ByteArray.size_append,zy483,aau,Yk,Z0]);omega)) only[zy493,cond_true,ZY,ByteArray.append_assoc]
theorem Ej(r:RgF f):(zy528 f).size<=200/\2<=(zy528 f).size:=by
 have k1:=zy479 r.d;have k2:=zy479 r.c;have k3:=zy479 r.k;have k4:=zy479 r.s.1;have k5:=zy479 r.s.2;have k6:=zy479 r.r.1;have k7:=zy479 r.r.2
 have s1:=zy485 k1;have s2:=zy485 k2;have s3:=zy485 k6;have s4:=zy485 k7;have s5:=zy525 k3 k4 k5;have s6:=zy520 f.bk;have s7:=zy527 f.dm
 unfold zy528 P6
 cases f.cS<;>simp only[ByteArray.size_append,zy483,aau,Yk,Z0,au]<;>omega
theorem zy530(h:zy528 f=zy528 {f with dm:=!f.dm}):False:=by
 have h1:=cr (zy458 (show zy484 f.bk++(zy526 f.dm++P6 f)=zy484 f.bk++(zy526 (!f.dm)++P6 f) from by rw[<-ByteArray.append_assoc,<-ByteArray.append_assoc];exact h))
 revert h1
 cases f.dm<;>simp[zy526]
def idB(x:cG):ByteArray:=bif inR x.dE 0 3&&inR x.bZ 0 99 then zy484 x.dE++⟨#[45]⟩++zy484 x.bZ else⟨#[]⟩
theorem id_i{x:cG}(h1:rgI .i64 x.dE)(h2:rgI .i64 x.bZ):iO x=ς (idB x):=by
 have s1:=zy485 h1;have s2:=zy485 h2
 have hv:ip x=ς (inR x.dE 0 3&&inR x.bZ 0 99):=by
  simp only[ip,inr_i,ZY];cases inR x.dE 0 3<;>rfl
 simp only[iO,hv,zy486 h1,zy486 h2,ZY,idB]
 cases(inR x.dE 0 3&&inR x.bZ 0 99)
 .rfl
 simp(disch:=((try simp only[ByteArray.size_append,zy483,aau,Yk,Z0]);omega)) only[zy493,cond_true,cond_false,Bool.not_true]
theorem Ql{x:cG}(h1:rgI .i64 x.dE)(h2:rgI .i64 x.bZ):(idB x).size<=50:=by
 have s1:=zy485 h1;have s2:=zy485 h2
 unfold idB
 cases(inR x.dE 0 3&&inR x.bZ 0 99)<;>simp only[ByteArray.size_append,zy483,aau,Yk,Z0,au]<;>omega
theorem RI{n:Nat}(h:n<=1048576):rgI .i64 (n:Int):=zy479 oaa
def devT(d:ax):ByteArray:=zy484 d.aZ++⟨#[32]⟩++zy484 (d.bL.a8.length:Int)
def DC(d:ax):ByteArray:=idB d.dZ.ID++⟨#[32]⟩++dvN d.bB++⟨#[64]⟩++zy484 d.bg++(⟨#[46]⟩++devT d)
theorem zy531{d:ax}(h:DB d)(hc:rgI .i64 d.bg):iG d=ς (DC d):=by
 have k1:=zy479 h.n.1;have k2:=zy479 h.n.2;have k4:=zy479 h.e;have k5:=RI h.rb.ok.2.1
 have s1:=Ql k1 k2;have s2:=zy485 hc;have s3:=zy485 k4;have s4:=zy485 k5;have s5:=zy521 d.bB
 simp only[iG,id_i k1 k2,dvn_i,zy486 hc,zy486 k4,zy486 k5,ZY]
 simp(disch:=((try simp only[ByteArray.size_append,zy483,aau,Yk,Z0]);omega)) only[zy493,cond_true]
 simp only[DC,devT,ByteArray.append_assoc]
theorem zy532{d:ax}{c:Int}(h:DC d=DC {d with bg:=c}):d.bg=c:=Qx (zy458 (cr h))
theorem zy533{d:ax}{k:Int}(hk:0<=k/\k<=3)(h:DC d=DC {d with bB:=k}):d.bB=k:=zy522 hk (zy458 (cr (cr (cr h))))
def sesT(s:ah):ByteArray:=⟨#[32]⟩++zy484 (WR (WR (s.aK.bF-1)-(s.aK.aM.length:Int)))++⟨#[47]⟩++zy484 (WR (s.aK.bF-1))++⟨#[47]⟩++zy484 (s.aU.length:Int)
def Ot(s:ah):ByteArray:=ssN s.bB++⟨#[64]⟩++zy484 s.bg++⟨#[46]⟩++zy484 s.aZ++sesT s
theorem zy534(h:SB s)(he:rgI .i64 s.aZ):gY s=ς (Ot s):=by
 have k1:=zy480 (WR (s.aK.bF-1)-(s.aK.aM.length:Int));have k2:=zy480 (s.aK.bF-1);have k3:=zy479 h.ce;have k5:=RI h.ok.2.1.1
 have s1:=zy485 k3;have s2:=zy485 he;have s3:=zy485 k1;have s4:=zy485 k2;have s5:=zy485 k5;have s6:=zy523 s.bB
 simp only[gY,kq,ssn_i,zy486 k3,zy486 he,zy495 k1 k2 k5 (sep:=⟨#[47]⟩) (by simp[zy483]),ZY]
 simp(disch:=((try simp only[ByteArray.size_append,zy483,aau,Yk,Z0]);omega)) only[zy493,cond_true]
 simp only[Ot,sesT,ByteArray.append_assoc]
theorem zy535{e:Int}(h:Ot s=Ot {s with aZ:=e}):s.aZ=e:=Qx (zy458 (cr h))
theorem Wu(hl:n.aV.length<=1048576)(r:∀f∈n.aV,RgF f):∃t,gX n=ς t/\strB t ⟨#[45]⟩=eqB (n.aV.length:Int) 0:=by
 unfold gX
 cases he:eqB (n.aV.length:Int) 0
 .have j1:=zy499 n.aV zy528 ⟨#[59,32]⟩ 202 λx hx=>by
   have:=Ej (r x hx)
   simp only[zy483,aau,Yk,Z0];omega
  have hne:n.aV≠[]:=by rintro e;rw[e] at he;simp at he
  have j3:2<=(gZ (n.aV.map zy528) ⟨#[59,32]⟩).size:=by
   obtain⟨k,hk⟩:∃k,n.aV.length=k+1:=⟨n.aV.length-1,by have:=List.length_pos_iff.2 hne;omega⟩
   have hx:=Yf (show k<n.aV.length by omega)
   have:=Ej (r _ (Yh hx))
   have e:=zy497 n.aV zy528 ⟨#[59,32]⟩ hx
   rw[<-hk,aax] at e
   rw[e,ByteArray.size_append];omega
  simp only[cond_false]
  rw[show u6 16 (n.aV.length:Int) (n.aV.length:Int)=ζ from by simp[u6];omega,cond_true,ZZ]
  rw[zy66 zy528 (⟨#[]⟩:ByteArray) n.aV oaa (λk x v hx hv=>by
   have hk:=(Yg.1 hx).1
   simp only[mG,zy65 hk,zy62,hx,zy529 (r x (Yh hx)),Yf (show k<v.length by omega),WRs (k:=k),ZZ,au]) (λv=>by simp[mG])]
  simp only[ZY]
  rw[xT (by simp;omega) oaa]
  refine⟨_,rfl,?_⟩
  refine Bool.eq_false_iff.2 λe=>?_
  have e:=strB_t.1 e
  rw[e] at j3
  simp[zy483] at j3
 exact⟨_,rfl,zy284 _⟩
abbrev Wx:ByteArray:=⟨#[48,49,50,51,52,53,54,55,56,57,97,98,99,100,101,102]⟩
def hxd(d:Nat):UInt8:=Wx.data.getD d 0
theorem shr4(n:Nat):Ap .u8 (n:Int) 4=((n/16:Nat):Int):=by
 show Int.fdiv (n:Int) 16=_
 rw[Int.fdiv_eq_ediv_of_nonneg _ (by decide)];rfl
theorem and15(n:Nat)(h:n<256):uL .u8 (n:Int) 15=((n%16:Nat):Int):=by
 have key:∀m:_root_.Fin 256,uL .u8 (m.val:Int) 15=((m.val%16:Nat):Int):=by decide+kernel
 exact key ⟨n,h⟩
theorem zy536(d:Nat)(h:d<16):bIx Wx (d:Int)=ς ((hxd d).toNat:Int):=by
 have key:∀m:_root_.Fin 16,bIx Wx (m.val:Int)=ς ((hxd m.val).toNat:Int):=by decide+kernel
 exact key ⟨d,h⟩
def hiD(x:Int):UInt8:=hxd (x.toNat/16)
def loD(x:Int):UInt8:=hxd (x.toNat%16)
def fpB(s:List Int)(x:Int):Option (cH (List Int) (List Int)):=bif cN 1 (s++[((hiD x).toNat:Int),((loD x).toNat:Int)]).length then ς (.next (s++[((hiD x).toNat:Int),((loD x).toNat:Int)])) else ξ
def zy537(xs:List Int):List Int:=xs.flatMap λx=>[((hiD x).toNat:Int),((loD x).toNat:Int)]
theorem zy538:∀(xs:List Int) (s:List Int),s.length+2*xs.length<=2097152->zy60 fpB ς xs s=ς (s++zy537 xs)
 |[],s,_=>by simp[zy60,zy537]
 |x::xs,s,h=>by
  simp only[Yk] at h
  have ha:cN 1 (s++[((hiD x).toNat:Int),((loD x).toNat:Int)]).length=true:=by
   simp only[cN,decide_eq_true_eq,YF,Yk,Z0];omega
  rw[zy60]
  simp only[fpB,ha,cond_true]
  rw[zy538 xs _ (by simp;omega)]
  simp[zy537]
theorem zy539{xs:List Int}(h:xs.length<=1048576)(hu:∀x∈xs,zy69 x):kr xs=ς (bif eqB (xs.length:Int) 0 then⟨#[45]⟩ else mz (zy537 xs)):=by
 have hr:=zy61 (step:=im xs) xs (λk (s:List Int)=>((k:Int),s)) fpB ς oaa
  (λk x s hx' hk=>by
   obtain⟨h0,h255⟩:=hu x (Yh hx')
   obtain⟨n,rfl⟩:=Int.eq_ofNat_of_zero_le h0
   have hn:n<256:=by omega
   simp only[im,zy65 hk,zy62,hx',shr4,and15 n hn,WRs (k:=k),au]
   rw[zy536 (n/16) oaa,zy536 (n%16) oaa]
   simp only[ZY,fpB,hiD,loD,ZZ]
   cases cN 1 (s++[((hxd (n/16)).toNat:Int),((hxd (n%16)).toNat:Int)]).length<;>rfl)
  (λs=>by simp[im]) []
 rw[zy538 xs [] (by simp;omega)] at hr
 have hr':iter (im xs) FU (0,[])=ς (zy537 xs):=by simpa using hr
 have hm:u6 1 0 (WR (2*(xs.length:Int)))=true:=by rw[bM oaa];simp only[u6,decide_eq_true_eq];omega
 have hz:(List.replicate ((0:Int)).toNat 0:List Int)=[]:=rfl
 simp only[kr,hm,hz,hr',au]
 cases eqB (xs.length:Int) 0<;>rfl
theorem zy540(l:List Int):(mz l).size=l.length:=by
 have key:∀(l:List Int) (r:ByteArray),(l.foldl (λr n=>r.push (UInt8.ofNat n.toNat)) r).size=r.size+l.length:=by
  intro l
  induction l with
  |nil=>intro r;simp
  |cons x l ih=>intro r;rw[aaa,ih];simp[ByteArray.size_push];omega
 have:=key l ByteArray.empty
 simpa [mz] using this
theorem zy541(xs:List Int):(zy537 xs).length=2*xs.length:=by
 induction xs with
 |nil=>rfl
 |cons x xs ih=>simp only[zy537,List.flatMap_cons,YF,Yk,Z0] at ih ⊢;omega
theorem pay_i{b:List Int}(hb:okB b)(hl:b.length<=1000000):∃t,kr b=ς t/\(b.length=0->t=⟨#[45]⟩)/\(0<b.length->t.size=2*b.length):=by
 refine⟨_,zy539 oaa hb,λh=>?_,λh=>?_⟩
 .rw[eqB_t.2 oaa];rfl
 rw[eqB_f.2 oaa,cond_false,zy540,zy541]
theorem zy441.rg:∀{k:Nat} {n:ae},zy441 k n->k<=1000000->RGN n
 |_,_,.new h hm hp hl hq,_=>λf hf=>by simp[zy417] at hf
 |_,_,.step (k:=k) h he hh hf,hk=>zy516 (h.re.np oaa) oaa (h.rg oaa) λe=>(hf e).1
theorem zy542{x:Int}(h:R64 x):x≠WR (x+1):=by
 by_cases e:x=9223372036854775807
 .subst e;decide
 rw[bM (by have:=h.1;have:=h.2;omega)];omega
theorem w8Any{c:aj}(h:bA c):Wp (zy13 c) (λr=>R64 r.2.1.eJ):=by
 unfold zy13
 refine Wp.call (P:=λr=>bA r.2.2/\(1<=r.2.1.eJ/\r.2.1.eJ<=9)/\r.2.1.bm.length<=10) ?_ λr1 h1=>?_
 .unfold GC
  refine Wp.call (zy472 h) λr1 h1=>Wp.call (bK h1.1 oaa) λr2 h2=>Wp.call (bK h2.1 oaa) λr3 h3=>Wp.call (bK h3.1 oaa) λr4 h4=>Wp.call (zy402 h4.1 h4.2.1 oaa) λr5 h5=>?_
  obtain⟨h50,h51,h52⟩:=h5
  have e:sO r1.1 r2.1 (WR (1+r3.1)) r5.1=ς ⟨r2.1,WR (1+r3.1),zy178 (zy162 r1.1 (WR (WR (2*WR (1+r3.1))+r2.1))) r5.1,mac r1.1 ⟨r2.1,WR (1+r3.1),zy178 (zy162 r1.1 (WR (WR (2*WR (1+r3.1))+r2.1))) r5.1,0⟩⟩:=by
   simp only[sO,ZY,zy163,zy180 h51 (show r5.1.length<=50000 by omega),zy181 (m:=⟨r2.1,WR (1+r3.1),zy178 _ r5.1,0⟩) (zy179 _ _) (by simp;omega)]
  refine Wp.eq e (Wp.some ⟨h50,?_,by simp;omega⟩)
  simp only[]
  rw[bM oaa];omega
 obtain⟨h10,h11,h12⟩:=h1
 have hc:R64 r1.2.1.eJ:=⟨by omega,by omega⟩
 refine Wp.call (bK h10 oaa) λr2 h2=>?_
 refine Wp.call (P:=λx=>R64 x.2.2.eJ) ?_ λx hx=>Wp.some hx
 refine Wp.cond (λ_=>Wp.call (bK h2.1 oaa) λr h=>Wp.some hc) λ_=>?_
 refine Wp.call (P:=λx=>R64 x.2.2.eJ) ?_ λx hx=>Wp.some hx
 refine Wp.cond (λ_=>Wp.call (zy401 h2.1 (by simp)) λr h=>Wp.some (Er h.2 ?_)) λ_=>?_
 .have:=zy437 (r1.2.1.eJ+1)
  intro y hy
  simp only[Yl,aaA,or_false] at hy
  rcases hy with rfl|rfl|rfl|rfl
  .exact⟨by omega,by omega⟩
  .exact⟨by omega,by omega⟩
  .exact⟨by omega,by omega⟩
  exact this
 refine Wp.call (P:=λx=>R64 x.2.2.eJ) ?_ λx hx=>Wp.some hx
 refine Wp.cond (λ_=>Wp.call (zy447 h2.1) λr h=>Wp.some hc) λ_=>?_
 refine Wp.call (P:=λ_=>True) ?_ λx hx=>Wp.some hc
 refine Wp.cond (λ_=>Wp.ok (dS (by simp;omega) (by simp;omega)) (Wp.some trivial)) λ_=>?_
 refine Wp.call (P:=λ_=>True) ?_ λx hx=>Wp.some trivial
 refine Wp.cond (λ_=>Wp.call (bK h2.1 oaa) λr h=>Wp.ok (by rw[bM oaa];simp[u6];omega) (Wp.some trivial)) λ_=>?_
 exact Wp.call (P:=λ_=>True) (Wp.cond (λ_=>Wp.some trivial) λ_=>Wp.some trivial) λx hx=>Wp.some trivial
theorem X0{c:aj}(h:bA c):Wp (A4 c) (λr=>RaR r.2.1):=by
 unfold A4
 refine Wp.call (P:=λr=>bA r.2.2/\(0<=r.2.1.aZ/\r.2.1.aZ<=9)/\0<=r.2.1.bH.eJ/\r.2.1.bH.eJ<=100) ?_ λr1 h1=>?_
 .unfold CR
  refine Wp.call (zy472 h) λr1 h1=>Wp.call (bK h1.1 oaa) λr2 h2=>Wp.call (bK h2.1 oaa) λr3 h3=>Wp.call (bK h3.1 oaa) λr4 h4=>Wp.call (zy468 _) λt ht=>?_
  have hq:WR (1+r2.1)=1+r2.1:=bM oaa
  refine Wp.eq (zy184 (by simp only[];omega) (by simp only[];omega) ht.1 (by have:=ht.2;simp only[];omega) _ _ _) (Wp.some ⟨h4.1,?_,?_⟩)
  .simp only[zy183];omega
  simp only[zy183,zy182];omega
 obtain⟨h10,h11,h12⟩:=h1
 have he:R64 r1.2.1.aZ:=⟨by omega,by omega⟩
 have hc:R64 r1.2.1.bH.eJ:=⟨by omega,by omega⟩
 refine Wp.call (bK h10 oaa) λr2 h2=>?_
 refine Wp.call (P:=λx=>RaR x.2.2) ?_ λx hx=>Wp.some hx
 refine Wp.cond (λ_=>Wp.call (zy401 h2.1 (by simp)) λr h=>Wp.some ⟨hc,Er h.2 ?_⟩) λ_=>?_
 .have:=zy437 (r1.2.1.aZ+1)
  intro y hy
  simp only[Yl,aaA,or_false] at hy
  rcases hy with rfl|rfl|rfl|rfl
  .exact this
  .exact⟨by omega,by omega⟩
  .exact⟨by omega,by omega⟩
  exact⟨by omega,by omega⟩
 refine Wp.call (P:=λx=>RaR x.2.2) ?_ λx hx=>Wp.some hx
 refine Wp.cond (λ_=>Wp.call (zy401 h2.1 (by simp)) λr h=>Wp.some ⟨hc,he⟩) λ_=>?_
 refine Wp.call (P:=λx=>RaR x.2.2) ?_ λx hx=>Wp.some hx
 refine Wp.cond (λ_=>Wp.call (w8Any h2.1) λr h=>Wp.some ⟨h,he⟩) λ_=>?_
 exact Wp.call (P:=λ_=>True) (Wp.cond (λ_=>Wp.some trivial) λ_=>Wp.some trivial) λx hx=>Wp.some ⟨hc,he⟩
theorem zfl_R{a b:Int}(ha:R64 a)(hb:R64 b):RgF {fN with bk:=a,bg:=b}:=⟨ha,hb,by simp[fN,eB];exact R64.z,by simp[fN,eB,SgR];exact R64.z,by simp[fN,ez,fQ,RaR];exact R64.z⟩
theorem wFly{xs:List Int}(hl:xs.length<=1048576)(hu:∀x∈xs,zy69 x):Wp (jZ xs) RgF:=by
 obtain⟨c,hc,hc1,_⟩:=J8 hl hu
 unfold jZ
 rw[hc,ZY]
 refine Wp.call (P:=λx=>bA x.2/\RGN x.1/\x.1.aV.length<=1000000) ?_ λr hr=>?_
 .unfold zy50
  refine Wp.call (zy456 hc1 oaa) λr hr=>?_
  obtain⟨hc,l,hl,h0,hr,_⟩:=hr
  obtain⟨B,hn,hB⟩:=hr.np oaa
  obtain⟨k,h1,h2,h3⟩:=hr
  exact Wp.some ⟨hc,h1.rg oaa,by have:=hn.fl;simp only[];omega⟩
 obtain⟨h1,h2,h3⟩:=hr
 refine Wp.cond (λhb=>?_) λ_=>Wp.call (X0 h1) λr h=>Wp.some ⟨R64.z,R64.z,R64.z,⟨R64.z,R64.z⟩,h⟩
 have hb:=zy77 hb
 exact Wp.call (bK h1 oaa) λr h=>Wp.ix h.2.1 h.2.2 λx hx _=>Wp.some (h2 x hx)
theorem uQ(xs:List Int)(hp:preL zy69 xs):lS xs=ς true:=by
 simp only[lS,QA,ZY]
 cases hb:ltB 1048576 (xs.length:Int) with
 |true=>rfl
 |false=>
  have hl:=zy78 hb
  obtain⟨c,hc,hc1,_⟩:=J8 (xs:=xs) oaa hp.2
  obtain⟨rd,ed,_,hd⟩:=(SU hc1).ex
  obtain⟨rs,es,_,hs⟩:=(SV hc1).ex
  obtain⟨f,ef,hf⟩:=(wFly (xs:=xs) oaa hp.2).ex
  obtain⟨k,ek,hk,hk0,hk1⟩:=(bK hc1 (n:=6) oaa).ex
  obtain⟨rb,eb,_,hb1,hb2⟩:=(zy402 hk hk0 oaa).ex
  obtain⟨rn,en,_,hg⟩:=(SX (Q:=RgF) (λh hk=>h.rg oaa) (λ_ _ ha hb=>zfl_R ha hb) hc1 (most:=25) oaa).ex
  obtain⟨t,et,t0,t1⟩:=pay_i hb1 oaa
  obtain⟨u,eu,hu⟩:=Wu (n:=rn.1) hg.ok.2.2.2.2.1 hg.q
  have hm:Aw (WR (rd.1.bB+1)) 4=ς (WR (rd.1.bB+1)%4):=zy154 _ oaa oaa
  have hd1:DB {rd.1 with bg:=WR (rd.1.bg+1)}:=⟨hd.rb,hd.n,zy437 _,hd.e⟩
  have hd2:DB {rd.1 with bB:=WR (rd.1.bB+1)%4}:=⟨hd.rb,hd.n,hd.c,hd.e⟩
  have hs1:SB {rs.1 with aZ:=WR (rs.1.aZ+1)}:=⟨hs.ok,hs.b1,hs.b2,hs.ce,zy437 _⟩
  have hf1:RgF {f with dm:=!f.dm}:=⟨hf.d,hf.c,hf.k,hf.s,hf.r⟩
  have d1:strB (DC rd.1) (DC {rd.1 with bg:=WR (rd.1.bg+1)})=false:=strB_f.2 λe=>zy542 hd.c (zy532 e)
  have d3:strB (Ot rs.1) (Ot {rs.1 with aZ:=WR (rs.1.aZ+1)})=false:=strB_f.2 λe=>zy542 hs.ep (zy535 e)
  have d4:strB (zy528 f) (zy528 {f with dm:=!f.dm})=false:=strB_f.2 λe=>zy530 e
  have hq:WR (2*(rb.1.length:Int))=2*(rb.1.length:Int):=bM oaa
  simp only[zy54,zy41,lU,lV,vR,hc,ed,es,ef,ek,eb,en,hm,et,eu,hu,hq,zy75,au]
  have h9:∀(z:Option Bool),(ZW (bif eqB (rb.1.length:Int) 0 then(bif !strB t (⟨#[45]⟩:ByteArray) then ς ζ else(bif ltB 0 (rb.1.length:Int) then(bif !eqB (t.size:Int) (2*(rb.1.length:Int)) then ς ζ else ς η) else ς η)) else(bif ltB 0 (rb.1.length:Int) then(bif !eqB (t.size:Int) (2*(rb.1.length:Int)) then ς ζ else ς η) else ς η)) λ(v:Bool)=>bif v then ς η else z)=z:=by
   intro z
   rcases Nat.eq_zero_or_pos rb.1.length with h0|h0
   .rw[eqB_t.2 (show(rb.1.length:Int)=0 by omega),ltB_f.2 (show(rb.1.length:Int)<=0 by omega),t0 h0,zy284]
    rfl
   rw[eqB_f.2 (show(rb.1.length:Int)≠0 by omega),ltB_t.2 (show(0:Int)<(rb.1.length:Int) by omega),eqB_t.2 (show(t.size:Int)=2*(rb.1.length:Int) by rw[t1 h0];omega)]
   rfl
  rw[h9]
  simp only[zy531 hd (zy479 hd.c),zy531 hd1 (zy479 hd1.c),zy531 hd2 (zy479 hd2.c),zy534 hs (zy479 hs.ep),zy534 hs1 (zy479 hs1.ep),zy529 hf,zy529 hf1,d1,d3,d4,au]
  cases h3:eqB (WR (rd.1.bB+1)%4) rd.1.bB
  .have d2:strB (DC rd.1) (DC {rd.1 with bB:=WR (rd.1.bB+1)%4})=false:=strB_f.2 λe=>eqB_f.1 h3 (zy533 ⟨by omega,by omega⟩ e).symm
   simp only[d2,au]
  simp only[au]
end Go.AM
