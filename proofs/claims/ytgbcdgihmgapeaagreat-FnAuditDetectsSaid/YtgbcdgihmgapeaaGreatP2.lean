/- A part. -/
import Derived.Test.YtgbcdgihmgapeaaGreatP1
set_option linter.unusedVariables false
set_option linter.unusedSimpArgs false
set_option maxHeartbeats 4000000
open Option renaming some->ς,none->ξ
open Bool renaming true->ζ,false->η
open True renaming intro->θ
open Int renaming le_refl->abK,toNat_natCast->abL,tmod_eq_emod_of_nonneg->abN,tdiv->ach,le_trans->aci,lt_of_lt_of_le->acm,tmod->abH
open List renaming getElem?_eq_some_iff->v0,mem_of_getElem?->ZL,getElem?_eq_getElem->ZM,mem_or_eq_of_mem_set->abn,mem_map->aaA,prefix_refl->acg,mem_append->ZO,getElem?_append_left->ZU,getElem?_append_right->ZS,mem_append_left->acl,mem_of_mem_take->aae,getElem?_of_mem->ZY,ext_getElem?->abW,take_add_one->abS,sum_append->acj,map_append->aaE
open Option renaming bind_some->abJ,bind->abG
open Bool renaming and_eq_true->hV,or_eq_true->Z3,or_eq_false_iff->Z2,and_eq_false_iff->ack,false_and->acn,false_or->aam
namespace Go.AM
open Go.Proofs
attribute [local simp] zy49 bF bh
variable{B:Int}{l i:Nat}{n:Go.AM.ab}{s s':Go.AM.ah}{d':Go.AM.aC}{f:Go.AM.bT}{a:Go.AM.am}{m:Go.AM.aM}{x:Go.AM.aD}{p:Go.AM.bD}
def RN(B:Nat)(l:Nat)(n:ab):Prop:=∃k,zy454 k n/\k<=B/\n.aj.length=l
theorem RN.np{B:Nat}(h:RN B l n)(hB:B<=1000000):∃b:Int,NP b n/\b<=10000000000:=by
 obtain⟨k,h1,h2,_⟩:=h
 exact⟨_,h1.re.np oaa,by omega⟩
theorem RN.sub{B:Nat}(h:RN B l n)(hB:B<=1000000)(hs:n.an[i]?=ς s){b:List Int}(hb:okB b):RN (B+1) l {n with an:=n.an.set i (zy246 s b).1}:=by
 obtain⟨b',hn,_⟩:=h.np hB
 obtain⟨k,h1,h2,h3⟩:=h
 have:=zy454.step h1 (zy455 (k:=8) (i:=(i:Int)) (c:=0) hb) (uW n (by simp)) (BM n (by simp))
 rw[VW hn hs b] at this
 exact⟨_,this,by omega,h3⟩
theorem RN.on{B:Nat}(h:RN B l n)(hB:B<=1000000){d:aC}(hd:n.aj[i]?=ς d):RN (B+1) l (zy340 n i (dOn d)):=by
 obtain⟨b',hn,_⟩:=h.np hB
 obtain⟨k,h1,h2,h3⟩:=h
 have:=zy454.step h1 (zy455 (k:=5) (i:=(i:Int)) (c:=0) (b:=[]) (λx hx=>by simp at hx)) (uW n (by simp)) (BM n (by simp))
 rw[YE hn hd] at this
 exact⟨_,this,by omega,by rw[(zy357 n i (dOn d)).1];exact h3⟩
def RZ(B:Nat)(l:Nat)(n:ab):Prop:=∃k,zy454 k n/\k<=B/\n.aj.length=l/\n.cX=0
theorem RZ.rn{B:Nat}(h:RZ B l n):RN B l n:=by
 obtain⟨k,h1,h2,h3,_⟩:=h;exact⟨k,h1,h2,h3⟩
theorem RZ.np{B:Nat}(h:RZ B l n)(hB:B<=1000000):∃b:Int,NP b n/\b<=10000000000:=h.rn.np hB
theorem RZ.sub{B:Nat}(h:RZ B l n)(hB:B<=1000000)(hs:n.an[i]?=ς s){b:List Int}(hb:okB b):RZ (B+1) l {n with an:=n.an.set i (zy246 s b).1}:=by
 obtain⟨k,h1,h2,h3⟩:=h.rn.sub hB hs hb
 exact⟨k,h1,h2,h3,h.choose_spec.2.2.2⟩
theorem RZ.on{B:Nat}(h:RZ B l n)(hB:B<=1000000){d:aC}(hd:n.aj[i]?=ς d):RZ (B+1) l (zy340 n i (dOn d)):=by
 obtain⟨k,h1,h2,h3⟩:=h.rn.on hB hd
 exact⟨k,h1,h2,h3,(i6 ((dOn d).dF.map (zy338 i ζ)) {n with aj:=n.aj.set i (dOn d).bA}).2.2.2.2.1.trans h.choose_spec.2.2.2⟩
theorem WG{c:aT}(h:zy406 c):Wp (yW c) (λr=>zy406 r.2/\∃l,(1<=l/\l<=3)/\RZ 40 l r.1):=by
 unfold yW
 refine Wp.call (zy451 h) λr1 h1=>?_
 have hp:ee r1.1:=⟨by omega,λ_ _=>trivial⟩
 refine Wp.call (P:=λx=>zy406 x.2.2.2.2.2.2.2.1/\∃l,(1<=l/\l<=3)/\RZ 0 l ⟨⟨x.2.2.2.2.2.2.1⟩,x.2.2.2.2.2.1,x.2.2.2.2.1,x.2.2.2.1,[],x.1,x.2.2.2.2.2.2.2.2,x.2.1,x.2.2.1⟩) ?_ ?_
 .refine Wp.call (zy417 h1.1) λr16 h16=>Wp.call (zy452 h16.1) λr17 h17=>Wp.call (dD h17.1 oaa) λr18 h18=>?_
  have hv:zy142 r16.1=ζ/\zy111 r1.1=ζ/\zy422 r17.1=true:=⟨h16.2.2,h1.2.2,h17.2.2.1⟩
  have hl:=h17.2.1
  rw[new_s h16.2.1 oaa hp,hv.1,hv.2.1,hv.2.2]
  refine Wp.some ⟨h18.1,r17.1.length,hl,0,?_,Nat.le_refl _,by simp[zy429]⟩
  exact zy454.new (b:=WR (30+r18.1)) hv h16.2.1 hp hl h17.2.2.2
 rintro⟨v5,v8,v9,v10,v11,v12,v13,v14,v15⟩ ⟨hc,l,hl,hr⟩
 simp only at hc hr
 refine Wp.call (P:=λx=>zy406 x.1/\RZ 40 l x.2) ?_ λx hx=>Wp.some ⟨hx.1,l,hl,hx.2⟩
 refine Wp.iterF (λx=>(0<=x.1/\x.1<=(l:Int))/\zy406 x.2.1/\RZ (7*x.1.toNat) l x.2.2) (λx=>((l:Int)-x.1).toNat) ⟨⟨by omega,by omega⟩,hc,hr⟩ oaa ?_
 rintro⟨v20,v34,n⟩ ⟨⟨i0,i1⟩,i2,i3⟩
 simp only at i0 i1 i2 i3
 obtain⟨b,hn,hb⟩:=i3.np oaa
 have hdl:n.aj.length=l:=i3.choose_spec.2.2.1
 simp only[CS]
 refine Wp.cond (λhb=>?_) (λhb=>Wp.some ⟨i2,?_⟩)
 rotate_left
 .obtain⟨k,g1,g2,g3⟩:=i3;exact⟨k,g1,by omega,g3⟩
 have hb:=zy59 hb
 obtain⟨q,rfl⟩:∃q:Nat,v20=q:=⟨v20.toNat,by omega⟩
 refine Wp.call (dD i2 oaa) λr117 h117=>?_
 refine Wp.call (P:=λx=>zy406 x.2/\RZ (7*q+6) l {n with an:=x.1}) ?_ ?_
 .refine Wp.iterF (λx=>(0<=x.1/\x.1<=6)/\zy406 x.2.2/\RZ (7*q+(6-x.1.toNat)) l {n with an:=x.2.1}) (λx=>x.1.toNat) ⟨⟨by omega,by omega⟩,h117.1,?_⟩ oaa ?_
  .obtain⟨k,g1,g2,g3⟩:=i3;exact⟨k,g1,by omega,g3⟩
  rintro⟨v118,v122,v123⟩ ⟨⟨j0,j1⟩,j2,j3⟩
  simp only at j0 j1 j2 j3
  simp only[CT]
  refine Wp.cond (λhc=>?_) (λhc=>Wp.some ⟨j2,?_⟩)
  rotate_left
  .obtain⟨k,g1,g2,g3⟩:=j3;exact⟨k,g1,by omega,g3⟩
  have hc:=zy59 hc
  obtain⟨b',hn',_⟩:=j3.np oaa
  have hls:=hn'.ls
  simp only at hls
  obtain⟨s,hs⟩:∃s,v122[q]?=ς s:=⟨_,ZM oaa⟩
  obtain⟨d',s',a',zy19,e2,e3,hm⟩:=hn'.at_ (i:=q) (by simp_all)
  simp only at zy19 e2 e3
  rw[hs] at e2;cases e2
  simp only[bh,hs,abJ]
  refine Wp.call (dD j2 oaa) λr135 h135=>Wp.call (zy411 h135.1 h135.2.1 oaa) λr136 h136=>?_
  rw[Xq hm.sg.sp.ok]
  simp only[abJ,abL]
  refine Wp.some ⟨⟨⟨?_,?_⟩,h136.1,?_⟩,?_⟩
  all_goals simp only[zy46 (show-9223372036854775808<=v118-1/\v118-1<=9223372036854775807 by omega)]
  .omega
  .omega
  .have:=j3.sub oaa (i:=q) hs h136.2.1
   grind
  omega
 rintro⟨v132,v133⟩ ⟨k1,k2⟩
 simp only at k1 k2
 obtain⟨b',hn',_⟩:=k2.np oaa
 obtain⟨d,hd⟩:∃d,n.aj[q]?=ς d:=⟨_,ZM oaa⟩
 obtain⟨d',s',a',zy19,e2,e3,hm⟩:=hn'.at_ (i:=q) (by simp_all)
 simp only at zy19
 rw[hd] at zy19;cases zy19
 refine Wp.call (vz k1 oaa) λr139 h139=>?_
 refine Wp.call (P:=λx=>RZ (7*q+7) l x) ?_ λx hx=>Wp.some ⟨⟨⟨?_,?_⟩,h139,?_⟩,?_⟩
 .refine Wp.cond (λ_=>?_) (λ_=>Wp.some ?_)
  .simp only[bh,hd,on_s hm.dp.ok,abJ,abL]
   have hlen:=(zy344 d).len
   have:=zy45 (step:=qJ (q:Int) (dOn d)) (dOn d).dF (λk n=>((k:Int),n)) (λn x=>abG (gz n (zy338 (q:Int) ζ x)) λr=>ς (.next r)) ς oaa
    (λk x n hx hk=>by
     simp only[qJ,cE hk,bh,hx,WRs (k:=k),zy338,au]
     simp_all) (λn=>by simp[qJ]) {n with aj:=n.aj.set q (dOn d).bA,an:=v132}
   rw[zy337 gz (zy338 (q:Int) ζ) (λn x=>zy333 (GB (q:Int) ζ x))] at this
   rw[show iter (qJ (q:Int) (dOn d)) FU (0,{n with aj:=n.aj.set q (dOn d).bA,an:=v132})=_ from this]
   exact Wp.some (k2.on oaa (i:=q) hd)
  obtain⟨k,g1,g2,g3⟩:=k2;exact⟨k,g1,by omega,g3⟩
 all_goals simp only[zy46 (show-9223372036854775808<=(q:Int)+1/\(q:Int)+1<=9223372036854775807 by omega)]
 .omega
 .omega
 .grind
 omega
theorem zy456{c:aT}(h:zy406 c):Wp (yW c) (λr=>zy406 r.2/\∃l,(1<=l/\l<=3)/\RN 40 l r.1):=
 Wp.mono (WG h) λr ⟨h1,l,h2,h3⟩=>⟨h1,l,h2,h3.rn⟩
abbrev zy457{α:Type}(r:α×aT):Prop:=zy406 r.2
abbrev zy458{α:Type}(r:aT×α):Prop:=zy406 r.1
theorem Lt{c:aT}(h:zy406 c):Wp (wd c) zy457:=by
 unfold wd
 refine Wp.call (vz h oaa) λr1 h1=>Wp.cond (λ_=>Wp.call (WH h1 (by simp)) λr2 h2=>Wp.some h2.1) (λ_=>?_)
 refine Wp.call (vz h1 oaa) λr3 h3=>Wp.cond (λ_=>Wp.call (WH h3 (by simp)) λr2 h2=>Wp.some h2.1) (λ_=>?_)
 exact Wp.call (dD h3 oaa) λr5 h5=>Wp.call (dD h5.1 oaa) λr6 h6=>Wp.some h6.1
theorem w5Seq{c:aT}(h:zy406 c):Wp (Gt c) zy457:=by
 unfold Gt
 refine Wp.call (vz h oaa) λr1 h1=>Wp.cond (λ_=>Wp.call (WH h1 (by simp)) λr2 h2=>Wp.some h2.1) (λ_=>?_)
 exact Wp.call (dD h1 oaa) λr5 h5=>Wp.some h5.1
theorem w5Vec{c:aT}(h:zy406 c):Wp (we c) zy457:=by
 unfold we
 refine Wp.call (wKey h) λr1 h1=>Wp.call (dD h1 oaa) λr2 h2=>Wp.call (w5Seq h2.1) λr3 h3=>?_
 rw[NI]
 simp only[abJ]
 refine Wp.call (dD h3 oaa) λr5 h5=>?_
 refine Wp.call (P:=zy458) ?_ λx hx=>Wp.some hx
 refine Wp.cond (λ_=>Wp.call (Lt h5.1) λr h=>Wp.some h) (λ_=>?_)
 refine Wp.call (P:=zy458) ?_ λx hx=>Wp.some hx
 refine Wp.cond (λ_=>Wp.call (WH h5.1 (by simp)) λr h=>Wp.some h.1) (λ_=>?_)
 refine Wp.call (P:=λ_=>True) (Wp.cond (λ_=>Wp.some trivial) (λ_=>Wp.some trivial)) λx _=>Wp.some h5.1
theorem w30{c:aT}(h:zy406 c)(hs:SP s):Wp (uf c s) (λr=>zy406 r.2/\SgC r.1):=by
 have g1:=hs.gn
 have g2:=hs.ps
 unfold uf
 refine Wp.call (dD h oaa) λr1 h1=>Wp.call (dD h1.1 oaa) λr2 h2=>Wp.call (dD h2.1 oaa) λr3 h3=>Wp.call (dD h3.1 oaa) λr4 h4=>?_
 refine Wp.call (P:=λx=>zy406 x.1/\SgC x.2) ?_ λx hx=>?_
 .refine Wp.cond (λ_=>Wp.some ⟨h4.1,by simp only[];omega,by simp only[];omega,zy450 _⟩) (λ_=>?_)
  refine Wp.call (P:=zy457) ?_ λx hx=>Wp.some ⟨hx,by simp only[];omega,by simp only[];omega,zy450 _⟩
  refine Wp.cond (λ_=>?_) (λ_=>Wp.some h4.1)
  refine Wp.call (dD h4.1 oaa) λr17 h17=>Wp.call (dD h17.1 oaa) λr18 h18=>?_
  rw[Ik];exact Wp.some h18.1
 obtain⟨v10,v11⟩:=x
 obtain⟨hx,hg⟩:=hx
 simp only[z8,abJ]
 replace hx:zy406 _:=hx
 replace hg:SgC (zy189 s.aY v11):=hg
 refine Wp.call (dD hx oaa) λr21 h21=>?_
 refine Wp.call (P:=λx=>zy406 x.1/\SgC x.2) ?_ λx hx=>Wp.some hx
 refine Wp.cond (λ_=>Wp.call (Lt h21.1) λr h=>Wp.some ⟨h,hg⟩) (λ_=>?_)
 refine Wp.call (P:=SgC) ?_ λx hx=>Wp.some ⟨h21.1,hx⟩
 refine Wp.cond (λ_=>Wp.some hg) (λ_=>?_)
 exact Wp.call (P:=R64) (Wp.cond (λ_=>Wp.some (zy450 _)) (λ_=>Wp.some hg.2.1)) λx hx=>Wp.some ⟨hg.1,hx,hg.2.2⟩
theorem w29{c:aT}(h:zy406 c){d:aC}(hd:DP d):Wp (A1 c d) (λr=>zy406 r.2/\SgC r.1):=by
 have g1:=hd.gn
 have g2:=hd.ep
 have g3:=hd.ce
 unfold A1
 refine Wp.call (dD h oaa) λr1 h1=>?_
 refine Wp.call (P:=λx=>zy406 x.1/\SgC x.2) ?_ λx hx=>?_
 .refine Wp.cond (λ_=>?_) (λ_=>?_)
  .rw[zy202]
   simp only[abJ]
   rw[NI]
   simp only[abJ]
   refine Wp.call (vz h1.1 oaa) λr20 h20=>?_
   refine Wp.call (P:=λx=>zy406 x.1/\SgC x.2) ?_ λx hx=>Wp.some hx
   exact Wp.cond (λ_=>Wp.call (w5Vec h20) λr h=>Wp.some ⟨h,by simp only[];omega,zy450 _,by simp only[];omega⟩) (λ_=>Wp.some ⟨h20,by simp only[];omega,zy450 _,by simp only[];omega⟩)
  refine Wp.call (P:=λx=>zy406 x.2/\R64 x.1) ?_ λx hx=>Wp.some ⟨hx.1,by simp only[];omega,by simp only[];omega,hx.2⟩
  exact Wp.cond (λ_=>Wp.call (dD h1.1 oaa) λr h=>Wp.some ⟨h.1,by simp only[];omega⟩) (λ_=>Wp.some ⟨h1.1,by simp only[];omega⟩)
 obtain⟨v16,v17⟩:=x
 obtain⟨hx,hg⟩:=hx
 simp only[z8,abJ]
 replace hx:zy406 _:=hx
 replace hg:SgC (zy189 d.aY v17):=hg
 refine Wp.call (dD hx oaa) λr39 h39=>?_
 refine Wp.call (P:=λx=>zy406 x.1/\SgC x.2) ?_ λx hx=>Wp.some hx
 refine Wp.cond (λ_=>Wp.call (Lt h39.1) λr h=>Wp.some ⟨h,hg⟩) (λ_=>?_)
 refine Wp.call (P:=λx=>zy406 x.1/\SgC x.2) ?_ λx hx=>Wp.some hx
 refine Wp.cond (λ_=>Wp.call (dD h39.1 oaa) λr h=>Wp.some ⟨h.1,zy450 _,hg.2⟩) (λ_=>?_)
 exact Wp.call (P:=R64) (Wp.cond (λ_=>Wp.some (zy450 _)) (λ_=>Wp.some hg.2.1)) λx hx=>Wp.some ⟨h39.1,hg.1,hx,hg.2.2⟩
theorem zy459{y:aD}(h:zy360 y)(i c:Int)(k:Int):zy75 ⟨i,η,ζ,c,iJ,{y with bz:={y.bz with jD:=k}}⟩/\okB y.bz.bb:=⟨⟨Nat.le_trans h.2 (by decide),λ_ _=>trivial⟩,h.1⟩
abbrev FR(f:bT):Prop:=zy75 f/\okB f.cz.bz.bb
abbrev FP2(d:aC)(i:Int)(x:aT×bT):Prop:=zy406 x.1/\(FR x.2/\RgF x.2)/\(x.2.bA=i)/\((x.2.dL=ζ/\x.2.eH=η/\zy446 d x.2.cz=ζ/\x.2.cz.ag=d.ag/\zy172 d.aY x.2.cz=η)\/x.2.dL=η)
theorem zy460{d:aC}{y:aD}{k i cell:Int}{c:aT}(hc:zy406 c)(h:zy360 y)(hh:zy446 d {y with bz:={y.bz with jD:=k}}=ζ)(hg:y.ag=d.ag)(hv:zy172 d.aY {y with bz:={y.bz with jD:=k}}=η)(hr:RaR y)(hi:R64 i)(hce:R64 cell):
 Wp (ς (c,(⟨i,η,ζ,cell,iJ,{y with bz:={y.bz with jD:=k}}⟩:bT))) (FP2 d i):=
 Wp.some ⟨hc,⟨zy459 h _ _ _,hi,hce,R64.z,⟨R64.z,R64.z⟩,hr⟩,rfl,.inl ⟨rfl,rfl,hh,hg,hv⟩⟩
theorem zy461(d:aC)(x:ae):zy172 d.aY {zy184 d.aY d.ag d.bi x with bz:={(zy184 d.aY d.ag d.bi x).bz with jD:=abH (WR ((zy184 d.aY d.ag d.bi x).bz.jD+1)) 2147483647}}=false:=by
 have hin:∀k (m:bR),0<=mac k m/\mac k m<2147483647:=λk m=>zy162 _ _
 have key:∀a:Int,0<=a->a<2147483647->abH (WR (a+1)) 2147483647≠a:=by
  intro a h0 h1 h
  rw[zy46 oaa,abN oaa] at h
  omega
 simp only[zy184,zy183,zy172]
 rw[ack];right
 rw[ack];right
 refine eqB_f.2 ?_
 simp only[mac]
 exact key _ (hin _ ⟨1,x.cZ,zy178 (dk (KO d.aY d.bi) (2*x.cZ+1)) x.bb,0⟩).1 (hin _ ⟨1,x.cZ,zy178 (dk (KO d.aY d.bi) (2*x.cZ+1)) x.bb,0⟩).2
theorem zy462(d:aC)(x:ae):zy446 d {zy184 d.aY d.ag d.bi x with bz:={(zy184 d.aY d.ag d.bi x).bz with jD:=abH (WR ((zy184 d.aY d.ag d.bi x).bz.jD+1)) 2147483647}}=true:=by
 rw[zy446,zy461 d x]
 simp[zy184,bF]
theorem zy463(h:NP B n)(hd:1<=n.aj.length){c:aT}(hc:zy406 c):Wp (zy24 c n) (λr=>zy406 r.2/\EP r.1/\zy447 n r.1=ζ/\RgF r.1.bN/\(r.1.bN.dL=ζ->r.1.bN.eH=η/\∃d,n.aj[r.1.bN.bA.toNat]?=ς d/\r.1.bN.cz.ag=d.ag/\zy172 d.aY r.1.bN.cz=η)):=by
 have hm6:=mj h.map
 have hls:=h.ls
 have hld:=h.ld
 unfold zy24
 refine Wp.call (dD hc oaa) λr1 h1=>?_
 obtain⟨i,hi⟩:∃i:Nat,r1.1=i:=⟨r1.1.toNat,by omega⟩
 obtain⟨d,s,a,zy19,e2,e3,hm⟩:=h.at_ (i:=i) oaa
 simp only[hi,bh,zy19,e2,abJ]
 refine Wp.call (dD h1.1 oaa) λr3 h3=>Wp.call (vz h3.1 oaa) λr4 h4=>Wp.call (dD h4 oaa) λr5 h5=>?_
 refine Wp.call (P:=FP2 d (i:Int)) ?_ ?_
 .refine Wp.cond (λ_=>?_) (λ_=>?_)
  .refine Wp.call (dD h5.1 oaa) λr30 h30=>?_
   have hs:=zy185 (x:=⟨WR (1+r30.1),[9]⟩) (by show 0<=WR (1+r30.1);rw[zy46 oaa];omega) (by show WR (1+r30.1)<=1000000;rw[zy46 oaa];omega) (λx hx=>by simp at hx;subst hx;simp[zy54]) (by simp) d.aY d.ag d.bi
   have hr:=xB d.aY d.ag d.bi (x:=⟨WR (1+r30.1),[9]⟩) (by simp)
   have hh:=zy462 d ⟨WR (1+r30.1),[9]⟩
   have hv:=zy461 d ⟨WR (1+r30.1),[9]⟩
   have hg:(zy184 d.aY d.ag d.bi ⟨WR (1+r30.1),[9]⟩).ag=d.ag:=rfl
   have hq:RaR (zy184 d.aY d.ag d.bi ⟨WR (1+r30.1),[9]⟩):=⟨zy450 _,by have:=hm.dp.ep;simp only[zy184];omega⟩
   generalize zy184 d.aY d.ag d.bi ⟨WR (1+r30.1),[9]⟩=y at hs hr hh hv hg hq
   rw[hs]
   exact zy460 h30.1 hr hh hg hv hq oaa oaa
  refine Wp.call (P:=λx=>zy406 x.2.1/\SgC x.2.2) ?_ λx hx=>Wp.some ⟨hx.1,⟨⟨GV,λx hx=>by simp[fj,kC] at hx⟩,by simp only[];omega,by simp only[];omega,hx.2.1,hx.2.2,R64.z,R64.z⟩,rfl,.inr rfl⟩
  exact Wp.cond (λ_=>Wp.call (w29 h5.1 hm.dp) λr h=>Wp.some h) (λ_=>Wp.call (w30 h5.1 hm.sg.sp) λr h=>Wp.some h)
 rintro⟨c2,f⟩ ⟨k1,k2,k3,k4⟩
 simp only at k1 k2 k3 k4
 have he:EP {dM with bk:=13,bN:=f}:=⟨λx hx=>by simp[dM] at hx,k2.1.1,k2.1.2⟩
 rw[Vt h he]
 simp only[abJ]
 refine Wp.call (P:=λk=>k=bif zy447 n {dM with bk:=13,bN:=f} then f.bw.bk else 7) ?_ ?_
 .cases zy447 n {dM with bk:=13,bN:=f}<;>exact Wp.some rfl
 rintro k rfl
 refine Wp.some ⟨k1,⟨λx hx=>by simp[dM] at hx,k2.1.1,k2.1.2⟩,?_,⟨k2.2.d,k2.2.c,k2.2.k,k2.2.s,k2.2.r⟩,λhr=>by
  simp_all⟩
 cases hh:zy447 n {dM with bk:=13,bN:=f}
 .simp only[cond_false,zy447]
  rw[Z3,Z3,Z3];right;right;right
  simp only[Rq,k3,abL,zy19,e2]
  rcases k4 with⟨q1,q2,q3,_,_⟩|q1
  .simp_all
  rw[q1]
  have z:∀k:Int,k≠7->eqB 7 k=false:=λk hk=>eqB_f.2 (Ne.symm hk)
  cases f.eH<;>simp only[hUp,D4,z _ (show(2:Int)≠7 by omega),z _ (show(3:Int)≠7 by omega),z _ (show(4:Int)≠7 by omega),z _ (show(5:Int)≠7 by omega),z _ (show(6:Int)≠7 by omega),z _ (show(8:Int)≠7 by omega),Bool.or_self,au]
 simp only[cond_true]
 omega
theorem Cg(n:ab)(f:bT):(zy332 n f).aj.length=n.aj.length:=by rw[(zy335 n f).1]
theorem zy464:∀(c i:Nat) (n:ab),(zy358 c i n).aj.length=n.aj.length
 |0,_,_=>rfl
 |c+1,i,n=>by
  rw[zy358]
  cases n.aj[i]? with
  |none=>rfl
  |some d=>simp only;rw[zy464,(zy357 _ _ _).1]
theorem zy465:∀(c i:Nat) (n:ab),(zy368 c i n).aj.length=n.aj.length
 |0,_,_=>rfl
 |c+1,i,n=>by
  rw[zy368]
  cases n.an[i]? with
  |none=>rfl
  |some s=>cases n.aU[i]? with
   |none=>rfl
   |some a=>simp only;rw[zy465,(zy367 _ _ _).1]
theorem zy466(n:ab)(k:Nat):(zy354 n k).aj.length=n.aj.length:=by
 rw[zy354]
 cases n.aZ[k]? with
 |none=>rfl
 |some f=>
  simp only
  cases zy350 (kK n k) f.bv
  .rfl
  simp only[au]
  cases f.eH
  .simp only[cond_false]
   cases hd:(kK n k).aj[f.bA.toNat]? with
   |none=>rfl
   |some d=>
    simp only
    cases eqB d.bv f.bv
    .rfl
    simp only[au];rw[(zy357 _ _ _).1];rfl
  simp only[cond_true]
  cases f.dL||!eqB f.bw.bv f.bv
  .simp only[cond_false]
   cases hs:(kK n k).an[f.bA.toNat]? with
   |none=>rfl
   |some s=>simp only[zy347];rw[(i6 _ _).1];rfl
  rfl
theorem Ql(n:ab)(e:cY):(zy403 n e).2.aj.length=n.aj.length:=by
 rw[zy403]
 split
 .rw[zy370]
  cases leB 100000 n.oG
  .simp only[cond_false];rw[zy465,zy464]
  rfl
 split
 .rw[tY]
  cases inR e.cV 0 ((n.aZ.length:Int)-1)
  .rfl
  simp only[au]
  cases eqB e.bk 2
  .simp only[cond_false]
   cases eqB e.bk 3
   .simp only[cond_false]
    cases leB 200 (n.aZ.length:Int)
    .simp only[cond_false]
     cases n.aZ[e.cV.toNat]? with
     |none=>rfl
     |some f=>exact Cg n f
    rfl
   rfl
  exact zy466 n _
 split
 .rw[zy396]
  cases inR e.cV 0 ((n.aj.length:Int)-1)
  .rfl
  simp only[au]
  cases n.aj[e.cV.toNat]? with
  |none=>rfl
  |some d=>cases n.an[e.cV.toNat]? with
   |none=>rfl
   |some s=>
    simp only
    cases eqB e.bk 5
    .simp only[cond_false]
     cases eqB e.bk 6
     .grind
     simp only[cond_true]
     cases eqB e.bv d.bv||!zy138 n.dV e.bv
     .exact(zy357 _ _ _).1
     rfl
    simp only[cond_true]
    cases eqB d.bB 0
    .rfl
    exact(zy357 _ _ _).1
 split
 .rw[Cc];grind
 split
 .rw[zy381]
  grind
 split
 .rw[zy401];cases zy400 n e.bN
  .rfl
  exact Cg n _
 rfl
abbrev NQ(n:ab)(r:cY×aT):Prop:=zy406 r.2/\EP r.1/\zy447 n r.1=ζ/\FS n r.1
theorem wPl{c:aT}(h:zy406 c){k i cell:Int}{b:List Int}(hb:okB b)(hk:k≠13):Wp (ς ((⟨k,i,cell,b,oF⟩:cY),c)) (NQ n):=
 Wp.some ⟨h,zy455 hb,uW n hk,BM n hk⟩
theorem zy467:okB []:=λx hx=>by simp at hx
theorem wNo{α:Type}{b:Bool}{x y:α}{β:Type}{f:α->Option β}{Q:β->Prop}(h:∀z,Wp (f z) Q):Wp (abG (bif b then ς x else ς y) f) Q:=by
 grind
theorem zy468{c':aT}(hc:zy406 c'):Wp (abG (bif ltB 0 (n.aZ.length:Int) then(abG (gY c' 4) λr21=>ς (!r21.1,r21.2)) else(ς (η,c'))) λ((v16,v20):Bool×aT)=>bif v16 then(abG (Cy (n.aZ.length:Int) 3) λr22=>abG (cj v20 r22) λr23=>abG (cj r23.2 12) λr24=>bif eqB r24.1 0 then(ς ({dM with bk:=3,cV:=r23.1},r24.2)) else(bif eqB r24.1 1 then(ς ({dM with bk:=4,cV:=r23.1},r24.2)) else(ς ({dM with bk:=2,cV:=r23.1},r24.2)))) else(ς ({dM with bk:=1},v20))) (NQ n):=by
 refine Wp.call (P:=λx=>zy406 x.2/\(x.1=ζ->0<n.aZ.length)) ?_ ?_
 .refine Wp.cond (λhb=>?_) (λ_=>Wp.some ⟨hc,λh=>by simp at h⟩)
  have hb:=zy59 hb
  exact Wp.call (vz hc oaa) λr21 h21=>Wp.some ⟨h21,λ_=>by omega⟩
 rintro⟨v16,v20⟩ ⟨k1,k2⟩
 simp only at k1 k2
 refine Wp.cond (λhb=>?_) (λ_=>wPl k1 zy467 oaa)
 have:=k2 hb
 rw[Il]
 simp only[abJ]
 have hm:1<=ol (n.aZ.length:Int) 3:=by unfold ol;split<;>omega
 refine Wp.call (dD k1 hm) λr23 h23=>Wp.call (dD h23.1 oaa) λr24 h24=>?_
 exact Wp.cond (λ_=>wPl h24.1 zy467 oaa) (λ_=>Wp.cond (λ_=>wPl h24.1 zy467 oaa) (λ_=>wPl h24.1 zy467 oaa))
theorem wNext(h:NP B n)(hd:1<=n.aj.length){c:aT}(hc:zy406 c):Wp (zy26 c n) (NQ n):=by
 have hm6:=mj h.map
 have hl:=h.ld
 unfold zy26
 rw[Ik]
 simp only[abJ]
 have hmx:1<=zy237 1 (n.aj.length:Int):=by unfold zy237;split<;>omega
 have hw:WR ((n.dV.bp.length:Int)+1)=(n.dV.bp.length:Int)+1:=zy46 oaa
 refine Wp.call (dD hc hmx) λr2 h2=>Wp.call (dD h2.1 oaa) λr3 h3=>?_
 refine Wp.cond (λ_=>wPl h3.1 zy467 oaa) (λ_=>wNo λ_=>?_)
 refine Wp.cond (λ_=>Wp.call (dD h3.1 oaa) λr5 h5=>wPl h5.1 zy467 oaa) (λ_=>?_)
 refine Wp.cond (λ_=>wPl h3.1 zy467 oaa) (λ_=>wNo λ_=>?_)
 refine Wp.cond (λ_=>Wp.call (dD h3.1 oaa) λr7 h7=>Wp.call (zy411 h7.1 h7.2.1 oaa) λr8 h8=>wPl h8.1 h8.2.1 oaa) (λ_=>?_)
 refine Wp.cond (λ_=>Wp.call (dD h3.1 oaa) λr9 h9=>wPl h9.1 zy467 oaa) (λ_=>wNo λ_=>?_)
 refine Wp.cond (λ_=>Wp.call (dD h3.1 oaa) λr9 h9=>wPl h9.1 zy467 oaa) (λ_=>?_)
 refine Wp.cond (λ_=>Wp.call (dD h3.1 oaa) λr9 h9=>wPl h9.1 zy467 oaa) (λ_=>?_)
 refine Wp.cond (λ_=>Wp.call (dD h3.1 oaa) λr9 h9=>wPl h9.1 zy467 oaa) (λ_=>wNo λ_=>?_)
 refine Wp.cond (λ_=>Wp.cond (λ_=>?_) (λ_=>zy468 h3.1)) (λ_=>zy468 h3.1)
 refine Wp.call (zy463 h hd h3.1) λr15 h15=>Wp.some ⟨h15.1,⟨zy467,h15.2.1.f,h15.2.1.r⟩,?_,λ_=>h15.2.2.2⟩
 exact h15.2.2.1
theorem RN.apply{B:Nat}(h:RN B l n){e:cY}(he:EP e)(hh:zy447 n e=ζ)(hf:FS n e):RN (B+1) l (zy403 n e).2:=by
 obtain⟨k,h1,h2,h3⟩:=h
 exact⟨k+1,h1.step he hh hf,by omega,by rw[Ql];exact h3⟩
theorem RN.mono{B B':Nat}(h:RN B l n)(hb:B<=B'):RN B' l n:=by
 obtain⟨k,h1,h2,h3⟩:=h;exact⟨k,h1,by omega,h3⟩
theorem zy469{c:aT}(h:zy406 c){most:Int}(hm:1<=most/\most<=150):Wp (y4 c most) (λr=>zy406 r.2.2.2/\∃l,(1<=l/\l<=3)/\RN 40 l r.1/\RN (42+most.toNat) l r.2.2.1/\(r.2.1.length<=160/\∀e∈r.2.1,EP e)):=by
 unfold y4
 refine Wp.call (zy456 h) λr1 h1=>?_
 obtain⟨h11,l,hl,hr⟩:=h1
 obtain⟨b,hn,hb⟩:=hr.np oaa
 rw[Sd hn.okN]
 simp only[abJ]
 refine Wp.call (dD h11 hm.1) λr3 h3=>?_
 have hw:WR (3+r3.1)=3+r3.1:=zy46 oaa
 refine Wp.call (P:=λx=>zy406 x.2.1/\RN (42+most.toNat) l x.2.2/\(x.1.length<=160/\∀e∈x.1,EP e)) ?_ λx hx=>Wp.some ⟨hx.1,l,hl,hr,hx.2.1,hx.2.2⟩
 refine Wp.iterF (λx=>(0<=x.1/\x.1<=2+most)/\zy406 x.2.2.1/\RN (40+(2+most-x.1).toNat) l x.2.2.2/\((x.2.1.length:Int)<=160-x.1/\∀e∈x.2.1,EP e)) (λx=>x.1.toNat) ⟨⟨by omega,by omega⟩,h3.1,hr.mono oaa,by grind,by simp⟩ oaa ?_
 rintro⟨v4,v8,v19,n⟩ ⟨⟨i0,i1⟩,i2,i3,i4,i5⟩
 simp only at i0 i1 i2 i3 i4 i5
 simp only[CZ]
 refine Wp.cond (λhb=>?_) (λhb=>Wp.some ⟨i2,i3.mono oaa,by grind,i5⟩)
 have hb:=zy59 hb
 obtain⟨b',hn',hb'⟩:=i3.np oaa
 have hdl:n.aj.length=l:=i3.choose_spec.2.2
 refine Wp.call (wNext hn' oaa i2) λr51 h51=>?_
 refine Wp.ok (zy63 (by simp;omega) (by simp;omega)) ?_
 have ha:=zy404 hn' h51.2.1 oaa
 rw[Sd hn'.okN]
 simp only[abJ]
 rw[ha.1]
 simp only[abJ]
 have hst:=i3.apply h51.2.1 h51.2.2.1 h51.2.2.2
 have hst:RN (40+(2+most-v4).toNat+1) l (zy403 n r51.1).2:=hst
 have hnn:RN (40+(2+most-v4).toNat+1) l n:=i3.mono oaa
 cases(zy403 n r51.1).1
 all_goals
  simp only[au]
  refine Wp.some ⟨⟨⟨?_,?_⟩,h51.1,?_,?_,?_⟩,?_⟩
  all_goals simp only[zy46 (show-9223372036854775808<=v4-1/\v4-1<=9223372036854775807 by omega)]
 any_goals omega
 any_goals grind
def zy470(r:aF)(g:Int):Int:=(vec r.eV (Hi r.ID g) g).eV
def zy471(l:List bD)(k:Nat):Int:=((l.take k).map λp=>(p.bb.length:Int)).sum
def gH(w:bu):Int:=w.bC-1-w.aG.length
structure SI(d:aC)(s:ah)(a:am):Prop where
 cl:d.dx.dJ<=s.bH.cZ
 pq:s.bG<=s.bH.cZ
 pg:0<s.bG->s.ag<s.bG
 pv:0<s.bG->s.aO=vec s.bH.eV (Hi s.bH.ID s.bG) s.bG
 sg:s.ag<=s.bH.cZ
 s1:s.bB=1->0<s.ag
 sk:0<s.ag->s.aY=zy470 s.bH s.ag
 dg:d.ag<=d.dx.dJ
 dk:0<d.ag->d.aY=zy470 s.bH d.ag
 pr:d.bg.aP<+:s.av
 pe:∀x∈d.bg.aO,s.av[(x.cZ-1).toNat]?=ς ⟨x.bb⟩/\x.cZ<s.ax.bC
 nx:d.bg.bC<=s.ax.bC
 wn:∀x∈s.ax.aG,s.av[(x.cZ-1).toNat]?=ς ⟨x.bb⟩
 ak:gH s.ax<d.bg.bC
 ch:a.dv+s.bV.dW=zy471 s.av (gH s.ax).toNat
def zy472(s:ah)(x:aD):Prop:=∃(k g e:Int) (b:List Int),0<g/\(1<=k/\k<s.ax.bC)/\s.av[(k-1).toNat]?=ς ⟨b⟩/\x=zy184 (zy470 s.bH g) g e ⟨k,b⟩
def RadB(d:aC)(x:aD):Prop:=x.ag<d.ag\/(x.ag=d.ag/\zy172 d.aY x=η)
def zy473(s:ah)(m:aM):Prop:=∃q,(1<=q/\q<=s.bH.cZ)/\m.ag=q/\m.bY=vec s.bH.eV (Hi s.bH.ID q) q
def zy474(d:aC)(m:aM):Prop:=zy200 d.dx.eV d.dx.dJ m.bY=1\/zy200 d.dx.eV d.dx.dJ m.bY=2
def Xx(s:ah)(m:aM):Prop:=m.ag<s.ag\/(m.ag=s.ag/\zy190 s.aY m=η)
structure FI(d:aC)(s:ah)(f:bT):Prop where
 up:f.eH=ζ->f.dL=η->f.bw.bk=8->f.bw.bX<=d.bg.bC\/Xx s f.bw
 rd:f.eH=η->f.dL=ζ->zy472 s f.cz\/RadB d f.cz
 dn:f.eH=η->f.dL=η->f.bw.bk=2->zy473 s f.bw\/zy474 d f.bw
structure uB(d:aC)(s:ah)(d':aC)(s':ah):Prop where
 ck:d'.dx.eV=d.dx.eV
 cl:d.dx.dJ<=d'.dx.dJ
 dg:d.ag<d'.ag\/(d'.ag=d.ag/\d'.aY=d.aY)
 rn:d.bg.bC<=d'.bg.bC
 ri:s'.bH.ID=s.bH.ID
 rk:s'.bH.eV=s.bH.eV
 rs:s.bH.cZ<=s'.bH.cZ
 sg:s.ag<s'.ag\/(s'.ag=s.ag/\s'.aY=s.aY)
 su:s.av<+:s'.av
 wn:s.ax.bC<=s'.ax.bC
theorem uB.refl(d:aC)(s:ah):uB d s d s:=⟨rfl,abK _,.inr ⟨rfl,rfl⟩,abK _,rfl,rfl,abK _,.inr ⟨rfl,rfl⟩,acg _,abK _⟩
theorem zy475{α:Type}{xs ys:List α}(h:xs<+:ys){k:Nat}{x:α}(hx:xs[k]?=ς x):ys[k]?=ς x:=by
 obtain⟨zs,rfl⟩:=h
 grind
theorem zy476{r r':aF}(h1:r'.ID=r.ID)(h2:r'.eV=r.eV)(g:Int):zy470 r' g=zy470 r g:=by rw[zy470,zy470,h1,h2]
theorem Ls{k l l':Int}{v:cM}(h:l<=l')(hb:zy200 k l v=1\/zy200 k l v=2):zy200 k l' v=1\/zy200 k l' v=2:=by
 revert hb
 rw[zy200,zy200]
 omega
theorem FI.mono{d:aC}(h:FI d s f)(m:uB d s d' s'):FI d' s' f:=by
 refine⟨λh1 h2 h3=>?_,λh1 h2=>?_,λh1 h2 h3=>?_⟩
 .rcases h.up h1 h2 h3 with q|q
  .exact .inl (aci q m.rn)
  right
  rcases m.sg with g|⟨g1,g2⟩
  .left;rcases q with q|q<;>omega
  rcases q with q|q
  .left;omega
  right;simp_all
 .rcases h.rd h1 h2 with⟨k,g,e,b,q1,q2,q3,q4⟩|q
  .left;exact⟨k,g,e,b,q1,⟨q2.1,acm q2.2 m.wn⟩,zy475 m.su q3,by rw[zy476 m.ri m.rk];exact q4⟩
  right
  rcases m.dg with g|⟨g1,g2⟩
  .left;rcases q with q|q<;>omega
  rcases q with q|q
  .left;omega
  right;simp_all
 rcases h.dn h1 h2 h3 with⟨q,q1,q2,q3⟩|q
 .left;exact⟨q,⟨q1.1,aci q1.2 m.rs⟩,q2,by rw[m.ri,m.rk];exact q3⟩
 right;rw[zy474,m.ck];exact Ls m.cl q
structure PI(n:ab):Prop where
 si:∀(i:Nat) d s a,n.aj[i]?=ς d->n.an[i]?=ς s->n.aU[i]?=ς a->SI d s a
 fi:∀f∈n.aZ,∀d s,n.aj[f.bA.toNat]?=ς d->n.an[f.bA.toNat]?=ς s->FI d s f
theorem PI.send(h:PI n)(hf:∀d s,n.aj[f.bA.toNat]?=ς d->n.an[f.bA.toNat]?=ς s->FI d s f):PI (zy332 n f):=by
 rw[zy332]
 cases leB 200 (n.aZ.length:Int)
 .refine⟨h.si,λg hg=>?_⟩
  rcases ZO.1 hg with hg|hg
  .exact h.fi g hg
  simp_all
 exact⟨h.si,h.fi⟩
theorem PI.sends:∀(l:List bT) {n:ab},PI n->(∀f∈l,∀d s,n.aj[f.bA.toNat]?=ς d->n.an[f.bA.toNat]?=ς s->FI d s f)->PI (sends n l)
 |[],n,h,_=>h
 |f::l,n,h,hf=>by
  have hk:=zy335 n f
  exact PI.sends l (h.send (hf f (by simp))) (λg hg=>by simp_all)
theorem PI.setM(h:PI n){d:aC}{a':am}(hd:n.aj[i]?=ς d)(hs:n.an[i]?=ς s)(hm:uB d s d' s')(hi:SI d' s' a'):
 PI {n with aj:=n.aj.set i d',an:=n.an.set i s',aU:=n.aU.set i a'}:=by
 refine⟨λj x y z hx hy hz=>?_,λf hf x y hx hy=>?_⟩
 .rcases nM hx with⟨zy19,e2⟩|⟨zy19,e2⟩<;>rcases nM hy with⟨e3,e4⟩|⟨e3,e4⟩<;>rcases nM hz with⟨e5,e6⟩|⟨e5,e6⟩<;>first|omega|skip
  .simp_all
  exact h.si j x y z e2 e4 e6
 rcases nM hx with⟨zy19,e2⟩|⟨zy19,e2⟩<;>rcases nM hy with⟨e3,e4⟩|⟨e3,e4⟩<;>first|omega|skip
 .subst e2;subst e4
  exact(h.fi f hf d s (by simp_all) (by simp_all)).mono hm
 exact h.fi f hf x y e2 e4
structure xJ(d:aC)(s:ah)(a:am)(r:bj):Prop where
 mo:uB d s r.bA s
 si:SI r.bA s a
 sg:∀m∈r.dF,m.bk=8->m.bX<=r.bA.bg.bC
theorem xJ.keep{d:aC}(h:SI d s a){r:bj}(h1:r.bA.dx=d.dx)(h2:r.bA.ag=d.ag)(h3:r.bA.aY=d.aY)(h4:r.bA.bg=d.bg)(h5:∀m∈r.dF,m.bk≠8):xJ d s a r:=
 ⟨⟨by rw[h1],by simp_all,.inr ⟨h2,h3⟩,by simp_all,rfl,rfl,abK _,.inr ⟨rfl,rfl⟩,acg _,abK _⟩,
  {h with cl:=by rw[h1];exact h.cl,dg:=by rw[h1,h2];exact h.dg,dk:=by rw[h2,h3];exact h.dk,pr:=by rw[h4];exact h.pr,pe:=by rw[h4];exact h.pe,nx:=by rw[h4];exact h.nx,ak:=by rw[h4];exact h.ak},
  λm hm e=>absurd e (h5 m hm)⟩
theorem xJ.none{d:aC}(h:SI d s a):xJ d s a ⟨d,[]⟩:=.keep h rfl rfl rfl rfl (by simp)
section
variable{d:aC}{s:ah}{a:am}(h:SI d s a)
include h
theorem JQ(h1:d'.dx=d.dx)(h2:d'.ag=d.ag)(h3:d'.aY=d.aY)(h4:d'.bg=d.bg):xJ d s a (xe d'):=
 .keep h h1 h2 h3 h4 (by simp[xe,zy213,zy189])
theorem Hw:xJ d s a (zy214 d):=by
 rw[zy214]
 cases ltB 0 d.gE<;>cases eqB d.bB 1<;>cases eqB d.bB 2&&!d.dr<;>exact .keep h rfl rfl rfl rfl (by simp[vJ,zy213,zy189])
theorem zy477:xJ d s a (dOn d):=by
 rw[dOn];cases eqB d.bB 0<;>exact .keep h rfl rfl rfl rfl (by simp[vJ])
theorem Ht(c:Int):xJ d s a (uv d c):=by
 rw[uv]
 cases eqB c d.bv||!inR c 0 5
 .cases eqB d.bB 2&&ltB d.bi 999999
  .exact .keep h rfl rfl rfl rfl (by simp)
  exact JQ h rfl rfl rfl rfl
 exact .none h
theorem zy478(hk:d.dx.eV=s.bH.eV)(hr:s.bH.cZ<=999999)(hf:zy473 s m\/zy474 d m):xJ d s a (Hr d m):=by
 rw[Hr]
 cases hv:eqB (zy200 d.dx.eV d.dx.dJ m.bY) 0
 .exact .none h
 have hv:=zy61 hv
 rcases hf with⟨q,q1,q2,q3⟩|q
 .have hq:inR q 0 999999=true:=bE.2 oaa
  rw[q3,hk,zy201 oaa oaa] at hv
  have hlt:d.dx.dJ<q:=by
   by_cases hle:q<=d.dx.dJ
   .omega
   omega
  have hu:unm d.dx.eV m.bY.eQ m.bY.ie=q:=by
   rw[q3,hk];simp only[vec,hq,cond_true];exact zy199 oaa oaa
  have hrand:m.bY.eQ=Hi s.bH.ID q:=by rw[q3];simp only[vec,hq,cond_true]
  have hg:=h.dg
  rw[hk,hrand] at hu
  simp only[cond_true,hu,hrand,q2,hk]
  refine⟨⟨hk.symm,by grind,.inl (by grind),abK _,rfl,rfl,abK _,.inr ⟨rfl,rfl⟩,acg _,abK _⟩,{h with cl:=q1.2,dg:=abK _,dk:=λ_=>rfl},λm hm=>by simp_all⟩
 rcases q with q|q<;>omega
theorem zy479(hk:d.dx.eV=s.bH.eV)(hr:s.bH.cZ<=999999)(hf:m.bk=2->zy473 s m\/zy474 d m):xJ d s a (zy215 d m):=by
 rw[zy215]
 cases !zy193 m||(!eqB m.bv d.bv||eqB d.bB 0)
 .simp only[cond_false]
  cases h2:eqB m.bk 2&&eqB d.bB 1
  .simp only[cond_false]
   cases eqB m.bk 4&&(eqB d.bB 1&&(zy85 d.aY&&(eqB m.ag d.ag&&zy190 d.aY m)))
   .simp only[cond_false]
    cases eqB m.bk 6&&(eqB d.bB 2&&(eqB m.ag d.ag&&(eqB m.bi d.bi&&zy190 d.aY m)))
    .simp only[cond_false]
     cases eqB m.bk 7&&(eqB d.bB 3&&ltB d.bi 999999)
     .simp only[cond_false]
      cases eqB m.bk 7&&eqB d.bB 2
      .exact .none h
      exact JQ h rfl rfl rfl rfl
     exact JQ h rfl rfl rfl rfl
    exact .keep h rfl rfl rfl rfl (by simp)
   exact .keep h rfl rfl rfl rfl (by simp)
  rw[hV] at h2
  exact zy478 h hk hr (hf (zy61 h2.1))
 exact .none h
omit h in
theorem zy480{l sub:List bD}{t:List ae}{nx:Int}(hp:l<+:sub)(hn:nx=(l.length:Int)+1)(ht:∀(k:Nat) (y:ae),t[k]?=ς y->y.cZ=nx+k/\sub[(y.cZ-1).toNat]?=ς ⟨y.bb⟩):l++t.map (λy=>(⟨y.bb⟩:bD))<+:sub:=by
 obtain⟨zs,hz⟩:=hp
 refine⟨zs.drop t.length,?_⟩
 apply abW
 intro i
 rw[<-hz]
 by_cases h1:i<l.length
 .grind
 rw[List.append_assoc,ZS oaa,ZS (show l.length<=i by omega)]
 by_cases h2:i-l.length<t.length
 .rw[ZU (by simp_all),List.getElem?_map,ZM h2]
  obtain⟨zy19,e2⟩:=ht (i-l.length) _ (ZM h2)
  rw[<-hz,zy19,ZS oaa] at e2
  rw[show(nx+((i-l.length:Nat):Int)-1).toNat-l.length=i-l.length by omega] at e2
  rw[e2];rfl
 grind
theorem zy481(hp:RcV d.bg)(hs:SP s)(hb:∀p∈s.av,okB p.bb)(hf:zy472 s x\/RadB d x):xJ d s a (Bz d x):=by
 simp only[Bz]
 cases ho:eqB d.bB 2&&(zy186 d.aY d.ag d.bi x).2
 .exact .none h
 simp only[cond_true]
 rw[hV] at ho
 have hcond:x.ag=d.ag/\x.bi=d.bi/\zy172 d.aY x=true:=by
  have:=ho.2
  rw[zy186] at this
  split at this
  .assumption
  cases this
 rcases hf with⟨k,g,e,b,q1,q2,q3,q4⟩|q
 .have hsub:=ZL q3
  have hl:=hs.sl
  have hnx:=hs.nx
  have hgen:d.ag=g:=by rw[<-hcond.1,q4];rfl
  have hep:d.bi=e:=by rw[<-hcond.2.1,q4];rfl
  have hkey:d.aY=zy470 s.bH g:=by rw[<-hgen];exact h.dk oaa
  have hopen:zy186 d.aY d.ag d.bi x=(⟨k,b⟩,ζ):=by
   rw[q4,hgen,hep,hkey]
   exact zy188 q2.1 (by grind) (hb _ hsub) (hs.sd _ hsub) _ _ _
  rw[hopen]
  simp only
  cases hlate:zy209 d.bg ⟨k,b⟩
  .obtain⟨t,dd,t1,t2,t3,t4,t5,t6,t7,t8⟩:=zy314 hp hlate
   have hmem:∀y∈qi ⟨k,b⟩ d.bg.aO,s.av[(y.cZ-1).toNat]?=ς ⟨y.bb⟩/\y.cZ<s.ax.bC:=λy hy=>by
    rcases ym.1 hy with e|e
    .simp_all
    exact h.pe y e
   have hpre:=zy480 (l:=d.bg.aP) (sub:=s.av) (t:=t) h.pr hp.n (λk y hy=>⟨t2 k y hy,(hmem y (by rw[t1];exact acl _ (ZL hy))).1⟩)
   have hnext:(oE d.bg ⟨k,b⟩).bC<=s.ax.bC:=by
    rw[t3]
    by_cases ht:t.length=0
    .rw[ht];have:=h.nx;simp;omega
    obtain⟨y,hy⟩:∃y,t[t.length-1]?=ς y:=⟨_,ZM oaa⟩
    have zy19:=t2 _ y hy
    have e2:=(hmem y (by rw[t1];exact acl _ (ZL hy))).2
    omega
   have hak:=h.ak
   refine⟨⟨rfl,abK _,.inr ⟨rfl,rfl⟩,by grind,rfl,rfl,abK _,.inr ⟨rfl,rfl⟩,acg _,abK _⟩,
    {h with pr:=by simp_all,pe:=λy hy=>?_,nx:=hnext,ak:=by grind},λm hm _=>?_⟩
   .simp only at hy
    rcases t6 with e|e
    .simp_all
    simp_all
   simp at hm;subst hm;exact abK _
  have e:oE d.bg ⟨k,b⟩=d.bg:=by rw[oE,hlate];rfl
  rw[e]
  refine⟨uB.refl d s,h,λm hm _=>?_⟩
  simp at hm;subst hm;exact abK _
 exfalso
 rcases q with q|⟨q1,q2⟩
 .omega
 simp_all
end
theorem zy482{d:aC}(h:SI d s a):SI (uO d) s a/\uB d s (uO d) s:=by
 rw[uO]
 cases eqB d.bB 2
 .exact⟨h,uB.refl d s⟩
 have:=xJ.keep h (r:=⟨{d with bB:=3},[]⟩) rfl rfl rfl rfl (by simp)
 exact⟨this.si,this.mo⟩
theorem zy483(h:PI n){d:aC}(hd:n.aj[i]?=ς d)(hs:n.an[i]?=ς s)(ha:n.aU[i]?=ς a){r:bj}(st:xJ d s a r):PI (zy340 n i r):=by
 have hi:=(v0.1 hd).1
 have hm:=h.setM hd hs st.mo (a':=a) st.si
 rw[zy343 hs,zy343 ha] at hm
 refine PI.sends _ hm λf hf x y hx hy=>?_
 obtain⟨m,hm',rfl⟩:=aaA.1 hf
 simp only[zy338,abL] at hx hy
 have zy19:(n.aj.set i r.bA)[i]?=ς r.bA:=by simp[hi]
 rw[zy19] at hx;rw[hs] at hy
 cases hx;cases hy
 exact⟨λ_ _ h3=>.inl (st.sg m hm' h3),λh1 _=>by simp[zy338] at h1,λh1 _ _=>by simp[zy338] at h1⟩
structure zy484(d:aC)(s:ah)(a:am)(r:bU):Prop where
 mo:uB d s d r.a8
 si:SI d r.a8 a
 sg:∀m∈r.dF,m.bk=2->zy473 r.a8 m
theorem TI(xs:List ae)(j:Nat):zy241 xs=zy241 (xs.take j)+zy241 (xs.drop j):=by
 simp only[zy241]
 rw[<-acj,<-aaE,List.take_append_drop]
theorem Hg{l:List bD}{k:Nat}(h:l[k]?=ς p):zy471 l (k+1)=zy471 l k+p.bb.length:=by
 simp only[zy471]
 rw[abS,h]
 simp
theorem zy485{l:List bD}{u:List ae}{A:Nat}(h:∀(i:Nat) x,u[i]?=ς x->l[A+i]?=ς ⟨x.bb⟩):∀j:Nat,j<=u.length->zy471 l (A+j)=zy471 l A+zy241 (u.take j)
 |0,_=>by simp[zy241]
 |j+1,hj=>by
  obtain⟨x,hx⟩:∃x,u[j]?=ς x:=⟨_,ZM oaa⟩
  rw[<-Nat.add_assoc,Hg (h j x hx),zy485 h j oaa,abS,hx]
  simp only[zy241,Option.toList_some,aaE,acj,List.map_cons,List.map_nil,List.sum_cons,List.sum_nil]
  omega
theorem zy486{l l':List bD}(h:l<+:l'){k:Nat}(hk:k<=l.length):zy471 l' k=zy471 l k:=by
 obtain⟨z,rfl⟩:=h
 simp only[zy471]
 grind
theorem zy487{x:aF}(h:zy92 x=ζ):0<=x.cZ/\x.cZ<=999999:=by
 simp only[zy92,hV,bE] at h;omega
section
variable{d:aC}{s:ah}{a:am}(h:SI d s a)(g:SG s a)
theorem zy484.none(h:SI d s a):zy484 d s a ⟨s,[]⟩:=⟨uB.refl d s,h,by simp⟩
include h
theorem Ot{l:List aM}(h1:s'.bH=s.bH)(h2:s'.aO=s.aO)(h3:s'.bG=s.bG)(h4:s'.bB=s.bB)(h5:s'.ag=s.ag)(h6:s'.aY=s.aY)(h7:s'.av=s.av)(h8:s'.ax=s.ax)(h9:s'.bV.dW=s.bV.dW)(hl:∀m∈l,m.bk≠2):zy484 d s a ⟨s',l⟩:=by
 refine⟨⟨rfl,abK _,.inr ⟨rfl,rfl⟩,abK _,by rw[h1],by rw[h1],by simp_all,.inr ⟨h5,h6⟩,by simp_all,by simp_all⟩,?_,λm hm e=>absurd e (hl m hm)⟩
 exact⟨by rw[h1];exact h.cl,by rw[h1,h3];exact h.pq,by rw[h3,h5];exact h.pg,by rw[h1,h2,h3];exact h.pv,by rw[h1,h5];exact h.sg,by rw[h4,h5];exact h.s1,by rw[h1,h5,h6];exact h.sk,h.dg,by rw[h1];exact h.dk,by rw[h7];exact h.pr,by rw[h7,h8];exact h.pe,by rw[h8];exact h.nx,by rw[h7,h8];exact h.wn,by rw[h8];exact h.ak,by rw[h7,h8,h9];exact h.ch⟩
include g
theorem zy488(m:aM):zy484 d s a (IY s m):=by
 have hr:=zy487 g.sp.rcd
 simp only[IY]
 cases hb:eqB s.bH.cZ 999999
 .have hb:=zy62 hb
  simp only[cond_false]
  refine⟨⟨rfl,abK _,.inr ⟨rfl,rfl⟩,abK _,rfl,rfl,by grind,.inr ⟨rfl,rfl⟩,acg _,abK _⟩,?_,λx hx e=>?_⟩
  .have h1:=h.cl
   have h2:=h.sg
   exact {h with cl:=by grind,pq:=abK _,pg:=λ_=>by grind,pv:=λ_=>rfl,sg:=by grind,sk:=h.sk,dk:=h.dk}
  simp at hx;subst hx
  exact⟨s.bH.cZ+1,⟨by omega,abK _⟩,rfl,rfl⟩
 exact .none h
theorem KX(m:aM):zy484 d s a (zy248 s m):=by
 rw[zy248]
 cases hb:leB s.bG 0||(!eqB m.ag s.bG||(!eqB m.bX s.aO.wy||leB 999999 s.bi))
 .simp only[Z2] at hb
  have hp:=yp hb.1
  have h1:=h.pg hp
  simp only[cond_false,zy247]
  refine⟨⟨rfl,abK _,.inr ⟨rfl,rfl⟩,abK _,rfl,rfl,abK _,.inl h1,acg _,abK _⟩,?_,λx hx e=>?_⟩
  .have h2:=h.pq
   have h3:=zy487 g.sp.rcd
   exact {h with pq:=by simp_all,pg:=λe=>by simp at e,pv:=λe=>by simp at e,sg:=h2,s1:=λ_=>hp,sk:=λ_=>by show s.aO.eV=zy470 s.bH s.bG;rw[h.pv hp];rfl}
  simp[wc,zy189] at hx;simp_all
 exact .none h
omit g in
theorem zy489(m:aM):zy484 d s a (zy249 s m):=by
 rw[zy249]
 cases !s9 s m||(ltB m.bi s.bi||(eqB m.bi s.bi&&!eqB m.bv s.bv))
 .exact Ot h rfl rfl rfl rfl rfl rfl rfl rfl rfl (by simp[wc,zy189])
 exact .none h
theorem zy490(hf:m.bX<=d.bg.bC\/Xx s m):zy484 d s a (IX s m):=by
 rw[IX]
 cases hb:!s9 s m||ltB s.ax.bC m.bX
 .simp only[cond_false]
  simp only[Z2,Bool.not_eq_false'] at hb
  obtain⟨hk,hn⟩:=hb
  simp only[s9,hV] at hk
  rcases hf with hf|hf
  .have hg:=zy323 g m.bX
   have hw:=g.sp.win
   have hd:=DC hw hn
   have hle:=zy60 hn
   have f1:=hw.f
   have f2:=hw.n
   have hch:=h.ch
   have hak:=h.ak
   obtain⟨j,hj⟩:∃j,j=(m.bX-(s.ax.bC-s.ax.aG.length)).toNat:=⟨_,rfl⟩
   rw[<-hj] at hd
   have hjl:j<=s.ax.aG.length:=by omega
   have hnx:(kN s.ax m.bX).bC=s.ax.bC:=by rw[hd]
   have hlen:(kN s.ax m.bX).aG.length=s.ax.aG.length-j:=by rw[hd];simp
   have hacked:gH (kN s.ax m.bX)=gH s.ax+j:=by simp only[gH,hnx,hlen];omega
   have ha0:0<=gH s.ax:=by simp only[gH];omega
   have hcut:=TI s.ax.aG j
   have hb':zy471 s.av ((gH s.ax).toNat+j)=zy471 s.av (gH s.ax).toNat+zy241 (s.ax.aG.take j):=by
    refine zy485 (λi x hx=>?_) j hjl
    have zy19:=(hw.u i x hx).1
    have e2:=h.wn x (ZL hx)
    rw[show(gH s.ax).toNat+i=(x.cZ-1).toNat by simp only[gH];omega];exact e2
   refine⟨⟨rfl,abK _,.inr ⟨rfl,rfl⟩,abK _,rfl,rfl,abK _,.inr ⟨rfl,rfl⟩,acg _,by simp only[mr,hnx];omega⟩,?_,by simp⟩
   refine⟨h.cl,h.pq,h.pg,h.pv,h.sg,h.s1,h.sk,h.dg,h.dk,h.pr,?_,?_,λx hx=>h.wn x (zy320 _ _ x hx),?_,?_⟩
   .simp only[mr,hnx];exact h.pe
   .simp only[mr,hnx];exact h.nx
   .show gH (kN s.ax m.bX)<d.bg.bC
    rw[hacked];simp only[gH] at hak ⊢;omega
   rw[hg.2]
   show a.dv+(s.bV.dW+(zy241 s.ax.aG-zy241 (kN s.ax m.bX).aG))=zy471 s.av (gH (kN s.ax m.bX)).toNat
   grind
  exfalso
  have zy19:=zy61 hk.2.1
  rcases hf with q|⟨q1,q2⟩
  .omega
  simp_all
 exact .none h
theorem I4(hf:m.bk=8->m.bX<=d.bg.bC\/Xx s m):zy484 d s a (sUp s m):=by
 rw[sUp]
 cases zy193 m
 .exact .none h
 simp only[au]
 cases eqB m.bk 1
 .cases eqB m.bk 3
  .cases eqB m.bk 5
   .cases h8:eqB m.bk 8
    .exact .none h
    exact zy490 h g (hf (zy61 h8))
   exact zy489 h m
  exact KX h g m
 exact zy488 h g m
theorem zy491:zy484 d s a ⟨zy250 s,[]⟩:=by
 have hr:=zy487 g.sp.rcd
 exact⟨⟨rfl,abK _,.inr ⟨rfl,rfl⟩,abK _,rfl,rfl,abK _,.inr ⟨rfl,rfl⟩,acg _,abK _⟩,
  {h with pq:=by show(0:Int)<=s.bH.cZ;omega,pg:=λe=>by simp[zy250] at e,pv:=λe=>by simp[zy250] at e},by simp⟩
theorem EA(b:List Int):zy484 d s a ⟨(zy246 s b).1,[]⟩:=by
 rw[zy246]
 cases leB 24 (s.av.length:Int)||ltB 60 (b.length:Int)
 .simp only[cond_false]
  have hp:s.av<+:s.av++[(⟨b⟩:bD)]:=List.prefix_append _ _
  have hnx:=g.sp.nx
  refine⟨⟨rfl,abK _,.inr ⟨rfl,rfl⟩,abK _,rfl,rfl,abK _,.inr ⟨rfl,rfl⟩,hp,abK _⟩,
   {h with pr:=h.pr.trans hp,pe:=λx hx=>⟨zy475 hp (h.pe x hx).1,(h.pe x hx).2⟩,wn:=λx hx=>zy475 hp (h.wn x hx),ch:=?_},by simp⟩
  show a.dv+s.bV.dW=zy471 (s.av++[(⟨b⟩:bD)]) (gH s.ax).toNat
  rw[zy486 hp (by simp only[gH];omega)];exact h.ch
 exact .none h
end
theorem zy472.mono(h:zy472 s x)(h1:s'.bH=s.bH)(h2:s'.av=s.av)(h3:s.ax.bC<=s'.ax.bC):zy472 s' x:=by
 obtain⟨k,g,e,b,q1,q2,q3,q4⟩:=h
 exact⟨k,g,e,b,q1,⟨q2.1,by omega⟩,by simp_all,by simp_all⟩
structure TrS(d:aC)(s:ah)(a:am)(s':ah)(a':am)(r:List aD):Prop where
 rc:s'.bH=s.bH
 gn:s'.ag=s.ag
 rk:s'.aY=s.aY
 su:s'.av=s.av
 st:s'.bB=s.bB
 wn:s.ax.bC<=s'.ax.bC
 si:SI d s' a'
 rd:∀x∈r,zy472 s' x
theorem TrS.mo{d:aC}{a':am}{r:List aD}(h:TrS d s a s' a' r):uB d s d s':=
 ⟨rfl,abK _,.inr ⟨rfl,rfl⟩,abK _,by rw[h.rc],by rw[h.rc],by rw[h.rc];omega,.inr ⟨h.gn,h.rk⟩,by rw[h.su];simp_all,h.wn⟩
theorem SI.pay{d:aC}{a':am}(h:SI d s a)(h1:s'.bH=s.bH)(h2:s'.aO=s.aO)(h3:s'.bG=s.bG)(h4:s'.bB=s.bB)(h5:s'.ag=s.ag)(h6:s'.aY=s.aY)(h7:s'.av=s.av)(h8:s'.ax=s.ax)(h9:a'.dv+s'.bV.dW=a.dv+s.bV.dW):SI d s' a':=
 ⟨by rw[h1];exact h.cl,by rw[h1,h3];exact h.pq,by rw[h3,h5];exact h.pg,by rw[h1,h2,h3];exact h.pv,by rw[h1,h5];exact h.sg,by rw[h4,h5];exact h.s1,by rw[h1,h5,h6];exact h.sk,h.dg,by rw[h1];exact h.dk,by rw[h7];exact h.pr,by rw[h7,h8];exact h.pe,by rw[h8];exact h.nx,by rw[h7,h8];exact h.wn,by rw[h8];exact h.ak,by rw[h9,h7,h8];exact h.ch⟩
theorem zy492(h:SG s a)(n:Int):(zy269 s a n).2.dv+(zy269 s a n).1.bV.dW=a.dv+s.bV.dW:=by
 rw[zy269]
 cases leB (ml s n) 0
 .have:=(zy263 h.mo.acc s.bV.aA (zy237 (ml s n) s.ip.er)).2.2.2.2.2.1
  simp only[cond_false,zy266,this]
 rfl
theorem zy493{d:aC}(h:SI d s a)(g:SG s a)(n:Int):SI d (zy269 s a n).1 (zy269 s a n).2:=by
 obtain⟨q,hk⟩:=zy276 s a n
 have hp:=zy492 g n
 exact h.pay (by rw[hk]) (by rw[hk]) (by rw[hk]) (by rw[hk]) (by rw[hk]) (by rw[hk]) (by rw[hk]) (by rw[hk]) hp
theorem Wl{d:aC}(h:SI d s a)(g:SG s a){x:bD}(e:rr s=ς x):SI d {s with ax:=oP s.ax x.bb} a:=by
 obtain⟨hm,_,hx,hn,hl,hb⟩:=zy273 g.sp e
 have hnx:=h.nx
 have hac:gH (oP s.ax x.bb)=gH s.ax:=by simp only[gH,oP,List.length_append,List.length_cons,List.length_nil];omega
 refine⟨h.cl,h.pq,h.pg,h.pv,h.sg,h.s1,h.sk,h.dg,h.dk,h.pr,λy hy=>⟨(h.pe y hy).1,by have:=(h.pe y hy).2;simp only[oP];omega⟩,by simp only[oP];omega,λy hy=>?_,by rw[hac];exact h.ak,by rw[hac];exact h.ch⟩
 simp only[oP,ZO,List.mem_singleton] at hy
 rcases hy with hy|hy
 .exact h.wn y hy
 simp_all
theorem EC{d:aC}(h:SI d s a)(h1:s.bB=1){y:ae}(hy:s.av[(y.cZ-1).toNat]?=ς ⟨y.bb⟩)(hk:1<=y.cZ/\y.cZ<s.ax.bC)(e:Int):zy472 s (zy184 s.aY s.ag e y):=by
 have hg:=h.s1 h1
 exact⟨y.cZ,s.ag,e,y.bb,hg,hk,hy,by rw[h.sk hg]⟩
theorem zy494{d:aC}:∀(k:Nat) {s:ah} {a:am} {r:List aD},SI d s a->SG s a->s.bB=1->(∀x∈r,zy472 s x)->TrS d s a (iI k s a r).1 (iI k s a r).2.1 (iI k s a r).2.2
 |0,s,a,r,h,g,h1,hr=>⟨rfl,rfl,rfl,rfl,rfl,abK _,h,hr⟩
 |k+1,s,a,r,h,g,h1,hr=>by
  rw[iI]
  cases e:rr s with
  |none=>exact⟨rfl,rfl,rfl,rfl,rfl,abK _,h,hr⟩
  |some x=>
   obtain⟨hm,_,hx,hn,hl,hb⟩:=zy273 g.sp e
   have he:=zy274 g (n:=(x.bb.length:Int)) oaa
   have hsi:=zy493 h g (x.bb.length:Int)
   obtain⟨q,hk⟩:=zy276 s a (x.bb.length:Int)
   have hw:=g.sp.win.n
   simp only
   cases hq:ltB 0 (ml (zy269 s a (x.bb.length:Int)).1 (x.bb.length:Int))
   .simp only[cond_false]
    have e':rr (zy269 s a (x.bb.length:Int)).1=ς x:=by rw[hk];exact e
    have hsent:=Wl hsi he e'
    have hsg:=zy275 he e' hq
    have hst:({(zy269 s a (x.bb.length:Int)).1 with ax:=oP (zy269 s a (x.bb.length:Int)).1.ax x.bb}:ah).bB=1:=by rw[hk];exact h1
    have hrad:∀y∈r++[zy184 (zy269 s a (x.bb.length:Int)).1.aY (zy269 s a (x.bb.length:Int)).1.ag (zy269 s a (x.bb.length:Int)).1.bi ⟨(zy269 s a (x.bb.length:Int)).1.ax.bC,x.bb⟩],zy472 {(zy269 s a (x.bb.length:Int)).1 with ax:=oP (zy269 s a (x.bb.length:Int)).1.ax x.bb} y:=by
     intro y hy
     rcases ZO.1 hy with hy|hy
     .exact(hr y hy).mono (by rw[hk]) (by rw[hk]) (by rw[hk];simp only[oP];omega)
     simp at hy;subst hy
     exact EC hsent hst (y:=⟨(zy269 s a (x.bb.length:Int)).1.ax.bC,x.bb⟩) (by simp_all) (by rw[hk];simp only[oP];omega) _
    have ih:=zy494 k hsent hsg hst hrad
    refine⟨by rw[ih.rc,hk],by rw[ih.gn,hk],by rw[ih.rk,hk],by rw[ih.su,hk],by rw[ih.st,hk],?_,ih.si,ih.rd⟩
    refine aci ?_ ih.wn
    rw[hk];simp only[oP];omega
   simp only[cond_true]
   refine⟨by rw[hk],by rw[hk],by rw[hk],by rw[hk],by rw[hk],by simp_all,hsi,λy hy=>(hr y hy).mono (by rw[hk]) (by rw[hk]) (by simp_all)⟩
theorem zy495{d:aC}(h:SI d s a)(g:SG s a)(h1:s.bB=1):∀x∈zy280 s,zy472 s x:=by
 rw[zy280,h1]
 simp only[bF,cond_true]
 intro x hx
 obtain⟨y,hy,rfl⟩:=aaA.1 hx
 have hy:=aae hy
 obtain⟨k,hk⟩:=ZY hy
 have hu:=(g.sp.win.u k y hk).1
 have hf:=g.sp.win.f
 have hlt:=(v0.1 hk).1
 exact EC h h1 (h.wn y hy) oaa _
theorem EB{d:aC}(h:SI d s a)(g:SG s a)(m:aV):TrS d s a (zy300 s a m).a8 (zy300 s a m).eo (zy300 s a m).cz/\∀x∈(zy300 s a m).lF,x.bk=7:=by
 rw[zy300]
 cases h1:eqB s.bB 1
 .exact⟨⟨rfl,rfl,rfl,rfl,rfl,abK _,h,by simp⟩,by simp⟩
 have h1:=zy61 h1
 simp only[au]
 have hg:=BQ g
 have hq:=yB g.sp
 cases ltB 4 (zy297 s)
 .simp only[cond_false,zy299]
  have hsi:SI d {s with d9:=zy297 s,d6:=(zy298 s).2,bV:=(zy295 s a).2} (zy295 s a).1:=h.pay rfl rfl rfl rfl rfl rfl rfl rfl hg.2.2.2.1
  have ht:=zy494 2 hsi (g.upd hq (zy301 g.sp)) h1 (r:=[]) (by simp)
  refine⟨⟨ht.rc,ht.gn,ht.rk,ht.su,ht.st,ht.wn,ht.si,λx hx=>?_⟩,by simp⟩
  rcases ZO.1 hx with hx|hx
  .have hx':zy472 s x:=by
    rw[zy298] at hx;revert hx
    cases zy296 s
    .simp
    cases ltB 0 s.d6
    .exact zy495 h g h1 x
    simp
   exact hx'.mono ht.rc ht.su ht.wn
  exact ht.rd x hx
 simp only[cond_true,I2]
 refine⟨⟨rfl,rfl,rfl,rfl,rfl,abK _,h.pay rfl rfl rfl rfl rfl rfl rfl rfl hg.2.2.2.1,by simp⟩,λx hx=>?_⟩
 obtain⟨c,_,rfl⟩:=aaA.1 hx
 rfl
theorem MP.key{nc:Nat}{d:aC}(h:MP nc i d s a):d.dx.eV=s.bH.eV:=by
 have:=h.ids
 simp only[zy144,hV,eqB_t] at this
 exact this.2
theorem zy496(h:PI n){d:aC}(hd:n.aj[i]?=ς d)(hs:n.an[i]?=ς s)(ha:n.aU[i]?=ς a){r:bU}(st:zy484 d s a r):PI (zy347 n i r):=by
 have hi:=(v0.1 hs).1
 have hm:=h.setM hd hs st.mo (a':=a) st.si
 rw[zy343 hd,zy343 ha] at hm
 refine PI.sends _ hm λf hf x y hx hy=>?_
 obtain⟨m,hm',rfl⟩:=aaA.1 hf
 simp only[zy338,abL] at hx hy
 have zy19:(n.an.set i r.a8)[i]?=ς r.a8:=by simp[hi]
 rw[zy19] at hy;rw[hd] at hx
 cases hx;cases hy
 exact⟨λh1 _=>by simp[zy338] at h1,λ_ h1=>by simp[zy338] at h1,λ_ _ h3=>.inl (st.sg m hm' h3)⟩
theorem zy497(h:PI n){d:aC}(hd:n.aj[i]?=ς d)(hs:n.an[i]?=ς s)(ha:n.aU[i]?=ς a){t:b8}(st:TrS d s a t.a8 t.eo t.cz)(hp:∀x∈t.lF,x.bk=7):PI (zy365 n i t):=by
 have hi:=(v0.1 hs).1
 have hm:=h.setM hd hs st.mo st.si
 rw[zy343 hd] at hm
 have zy19:(n.an.set i t.a8)[i]?=ς t.a8:=by simp[hi]
 have hpg:=PI.sends (t.lF.map (zy338 i η)) hm λf hf x y hx hy=>by
  obtain⟨m,hm',rfl⟩:=aaA.1 hf
  have hk:=hp m hm'
  exact⟨λh1 _=>by simp[zy338] at h1,λ_ h1=>by simp[zy338] at h1,λ_ _ h3=>by simp only[zy338] at h3;omega⟩
 have hkeep:=i6 (t.lF.map (zy338 i η)) {n with an:=n.an.set i t.a8,aU:=n.aU.set i t.eo}
 refine PI.sends _ hpg λf hf x y hx hy=>?_
 obtain⟨m,hm',rfl⟩:=aaA.1 hf
 rw[hkeep.2.1] at hy
 simp only[zy339,abL] at hy
 rw[zy19] at hy;cases hy
 exact⟨λh1=>by simp[zy339] at h1,λ_ _=>.inl (st.rd m hm'),λ_ h1=>by simp[zy339] at h1⟩
theorem zy498:∀(c i:Nat) {B:Int} {n:ab},NP B n->B+c<4611686018427387904->PI n->PI (zy358 c i n)
 |0,_,_,_,_,_,h=>h
 |c+1,i,B,n,hn,hB,h=>by
  rw[zy358]
  cases hd:n.aj[i]? with
  |none=>exact h
  |some d=>
   obtain⟨d',s,a,zy19,e2,e3,hm⟩:=hn.at_ (v0.1 hd).1
   rw[hd] at zy19;cases zy19
   exact zy498 c (i+1) (ku hn hd (uP d) (ya hm.dp) hm.dc oaa) oaa (zy483 h hd e2 e3 (Hw (h.si i d s a hd e2 e3)))
theorem zy499:∀(c i:Nat) {B:Int} {n:ab},NP B n->B+2000*c<4611686018427387904->PI n->PI (zy368 c i n)
 |0,_,_,_,_,_,h=>h
 |c+1,i,B,n,hn,hB,h=>by
  rw[zy368]
  cases hs:n.an[i]? with
  |none=>exact h
  |some s=>cases ha:n.aU[i]? with
   |none=>exact h
   |some a=>
    have hls:=hn.ls
    have hml:=mj hn.map
    obtain⟨d,s',a',zy19,e2,e3,hm⟩:=hn.at_ (i:=i) (by grind)
    rw[hs] at e2;rw[ha] at e3;cases e2;cases e3
    have ht:=EB (h.si i d s a zy19 hs ha) hm.sg n.dV
    exact zy499 c (i+1) (Ck hn hs ha (zy364 hm.sg oaa) (CJ hm.sg hn.map) oaa) oaa (zy497 h zy19 hs ha ht.1 ht.2)
theorem zy500(h:PI n)(k:Nat):PI (kK n k):=⟨h.si,λf hf=>h.fi f (by
 simp only[kK,ZO] at hf
 grind)⟩
theorem zy501(hn:NP B n)(h:PI n)(k:Nat):PI (zy354 n k):=by
 rw[zy354]
 cases hf:n.aZ[k]? with
 |none=>exact h
 |some f=>
  have hfm:=ZL hf
  have hp:=hn.fs f hfm
  have h1:=zy500 h k
  have hdd:=hp.d
  obtain⟨d,s,a,zy19,e2,e3,hm⟩:=hn.at_ (i:=f.bA.toNat) oaa
  have hfi:=h.fi f hfm d s zy19 e2
  have hsi:=h.si _ d s a zy19 e2 e3
  have q1:(kK n k).aj[f.bA.toNat]?=ς d:=zy19
  have q2:(kK n k).an[f.bA.toNat]?=ς s:=e2
  have q3:(kK n k).aU[f.bA.toNat]?=ς a:=e3
  simp only
  cases zy350 (kK n k) f.bv
  .exact⟨h1.si,h1.fi⟩
  simp only[q1,q2,au]
  cases hu:f.eH
  .simp only[cond_false]
   cases eqB d.bv f.bv
   .exact⟨h1.si,h1.fi⟩
   simp only[au]
   cases hr:f.dL
   .exact zy483 h1 q1 q2 q3 (zy479 hsi hm.key (zy487 hm.sg.sp.rcd).2 (λe=>hfi.dn hu hr e))
   exact zy483 h1 q1 q2 q3 (zy481 hsi (zy311.1 hm.dp.rc.v) hm.sg.sp hm.sg.b1 (hfi.rd hu hr))
  simp only[cond_true]
  cases hr:f.dL||!eqB f.bw.bv f.bv
  .simp only[cond_false]
   simp only[Z2] at hr
   exact zy496 h1 q1 q2 q3 (I4 hsi hm.sg (λe=>hfi.up hu hr.1 e))
  exact h1
theorem Vq{d:aC}(h:(bif f.dL then f.eH||zy446 d f.cz else bif f.eH then hUp s f.bw else D4 d f.bw)=ζ):FI d s f:=by
 refine⟨λh1 h2 h3=>?_,λh1 h2=>?_,λh1 h2 h3=>?_⟩
 .rw[h2,h1] at h
  simp only[hUp,h3,show eqB 8 3=η from by simp[eqB],bF,Bool.or_true,au] at h
  right
  rcases Z3 _ _ |>.mp h with q|q
  .exact .inl (zy59 q)
  rw[hV] at q;exact .inr ⟨zy61 q.1,by simp_all⟩
 .rw[h2,h1] at h
  simp only[cond_true,aam,zy446] at h
  right
  rcases Z3 _ _ |>.mp h with q|q
  .exact .inl (zy59 q)
  rw[hV] at q;exact .inr ⟨zy61 q.1,by simp_all⟩
 rw[h2,h1] at h
 simp only[D4,h3,bF,au] at h
 right
 rcases Z3 _ _ |>.mp h with q|q
 .exact .inl (zy61 q)
 exact .inr (zy61 q)
theorem PI.same{n':ab}(h:PI n)(h1:n'.aj=n.aj)(h2:n'.an=n.an)(h3:n'.aU=n.aU)(h4:∀f∈n'.aZ,f∈n.aZ):PI n':=
 ⟨by rw[h1,h2,h3];exact h.si,λf hf=>by rw[h1,h2];exact h.fi f (h4 f hf)⟩
theorem YC(hn:NP B n)(h:PI n)(e:cY):PI (zy396 n e).2:=by
 rw[zy396]
 cases inR e.cV 0 ((n.aj.length:Int)-1)
 .exact h
 simp only[au]
 cases hd:n.aj[e.cV.toNat]? with
 |none=>exact h
 |some d=>
  obtain⟨d',s,a,zy19,e2,e3,hm⟩:=hn.at_ (v0.1 hd).1
  rw[hd] at zy19;cases zy19
  have hsi:=h.si _ d s a hd e2 e3
  simp only[e2]
  cases eqB e.bk 5
  .simp only[cond_false]
   cases eqB e.bk 6
   .simp only[cond_false]
    cases eqB e.bk 7
    .simp only[cond_false]
     cases(zy246 s e.bb).2
     .exact h
     have st:=EA hsi hm.sg e.bb
     have hm':=h.setM hd e2 st.mo (a':=a) st.si
     rw[zy343 hd,zy343 e3] at hm'
     exact hm'
    simp only[cond_true]
    cases eqB d.bB 2
    .exact h
    have st:=zy482 hsi
    have hm':=h.setM hd e2 st.2 (a':=a) st.1
    rw[zy343 e2,zy343 e3] at hm'
    exact hm'
   simp only[cond_true]
   cases eqB e.bv d.bv||!zy138 n.dV e.bv
   .exact zy483 h hd e2 e3 (Ht hsi e.bv)
   exact h
  simp only[cond_true]
  cases eqB d.bB 0
  .exact h
  exact zy483 h hd e2 e3 (zy477 hsi)
theorem zy502(hn:NP B n)(h:PI n)(k:Int)(up:Bool):PI (zy381 n k up).2:=by
 rw[zy381]
 cases !inR k 0 (n.d8.fD-1)||(booB (y6 n.d8 k) up||eqB (oV n.d8 k up).eG 0)
 .simp only[cond_false]
  have key:∀(i:Nat) d s' a,n.aj[i]?=ς d->(uS n.d8 (oV n.d8 k up) n.an.length 0 n.an)[i]?=ς s'->n.aU[i]?=ς a->∃s,n.an[i]?=ς s/\SI d s' a/\uB d s d s':=by
   intro i d s' a hd hs ha
   rcases zy382 n.d8 (oV n.d8 k up) n.an.length 0 n.an i with q|⟨t,q1,q2⟩
   .rw[q] at hs;exact⟨s',hs,h.si i d s' a hd hs ha,uB.refl d s'⟩
   rw[q2] at hs;cases hs
   have hm:=hn.m i d t a hd q1 ha
   have st:=zy491 (h.si i d t a hd q1 ha) hm.sg
   exact⟨t,q1,st.si,st.mo⟩
  refine⟨λi d s' a hd hs ha=>?_,λf hf d s' hd hs=>?_⟩
  .grind
  obtain⟨d',t,a,zy19,e2,e3,hm⟩:=hn.at_ (i:=f.bA.toNat) (v0.1 hd).1
  obtain⟨s,g1,_,g2⟩:=key _ d s' a hd hs e3
  exact(h.fi f hf d s hd g1).mono g2
 exact h
theorem zy503(hn:NP B n)(hB:B+10000<4611686018427387904)(h:PI n){e:cY}(he:EP e)(hh:zy447 n e=ζ):PI (zy403 n e).2:=by
 rw[zy403]
 split
 .rw[zy370]
  cases hb:leB 100000 n.oG
  .simp only[cond_false]
   have hb:=yp hb
   have hl:=hn.ld
   have hnw:=hn.nw
   have h1:NP B {n with oG:=n.oG+1}:={hn with nw:=by grind}
   have p1:PI {n with oG:=n.oG+1}:=h.same rfl rfl rfl (λf hf=>hf)
   have p2:=zy498 n.aj.length 0 h1 oaa p1
   have hnp:∀(c i:Nat) {B:Int} {n:ab},NP B n->B+c<4611686018427387904->NP (B+c) (zy358 c i n):=by
    intro c
    induction c with
    |zero=>intro i B n hn _;simpa [zy358] using hn
    |succ c ih=>
     intro i B n hn hB
     rw[zy358]
     cases hd:n.aj[i]? with
     |none=>exact hn.mono oaa
     |some d=>
      obtain⟨d',s,a,zy19,e2,e3,hm⟩:=hn.at_ (v0.1 hd).1
      rw[hd] at zy19;cases zy19
      exact(ih (i+1) (ku hn hd (uP d) (ya hm.dp) hm.dc oaa) oaa).mono oaa
   have h2:=hnp n.aj.length 0 h1 oaa
   have hls:=h2.ls
   have hl2:=h2.ld
   exact zy499 _ 0 h2 oaa p2
  exact h
 split
 .rw[tY]
  cases inR e.cV 0 ((n.aZ.length:Int)-1)
  .exact h
  simp only[au]
  cases eqB e.bk 2
  .simp only[cond_false]
   cases eqB e.bk 3
   .simp only[cond_false]
    cases leB 200 (n.aZ.length:Int)
    .simp only[cond_false]
     cases hf:n.aZ[e.cV.toNat]? with
     |none=>exact h
     |some f=>exact h.send (h.fi f (ZL hf))
    exact h
   exact(zy500 h _).same rfl rfl rfl (λf hf=>hf)
  exact zy501 hn h _
 split
 .exact YC hn h e
 split
 .rw[Cc];cases !zy138 n.dV e.cV||booB (zy350 n e.cV) (eqB e.bk 10)
  .exact h.same rfl rfl rfl (λf hf=>hf)
  exact h
 split
 .exact zy502 hn h _ _
 split
 .rename_i h13
  rw[zy401];cases hp:zy400 n e.bN
  .exact h
  refine h.send λd s hd hs=>?_
  rw[zy447,h13,hp] at hh
  simp only[bF,Bool.not_true,aam,Z3,List.any_eq_true,decide_eq_true_eq] at hh
  rcases hh with⟨f,hf,rfl⟩|hh
  .exact h.fi _ hf d s hd hs
  rw[Rq,hd,hs] at hh
  exact Vq hh
 exact h
theorem zy504{m:aV}{rs:List aF}{p:bK}{b:Int}(hv:zy422 rs=ζ):PI (zy429 m rs p b rs.length):=by
 refine⟨λi d s a hd hs ha=>?_,λf hf=>by simp[zy429] at hf⟩
 obtain⟨hk,rfl⟩:=zy435 hd
 obtain⟨_,rfl⟩:=zy435 hs
 obtain⟨_,rfl⟩:=zy435 ha
 simp only[zy422,hV,zy78] at hv
 have hr:=hv.1 i _ (ZM hk)
 simp only[zy421,hV] at hr
 have hq:=zy487 hr.1
 have hg:rs.getD i default=rs[i]:=zy432 (ZM hk)
 refine⟨abK _,?_,λe=>?_,λe=>?_,?_,λe=>?_,λe=>?_,?_,λe=>?_,?_,?_,?_,?_,?_,?_⟩
 .simp only[zy426];simp_all
 .simp[zy426] at e
 .simp[zy426] at e
 .simp only[zy426];simp_all
 .simp[zy426] at e
 .simp[zy426] at e
 .simp only[zy425];simp_all
 .simp[zy425] at e
 .simp[zy425]
 .simp[zy425]
 .simp[zy425,zy426]
 .simp[zy426]
 .simp[gH,zy426,zy425]
 rfl
theorem zy453.pi:∀{k:Nat} {n:ab},zy453 k n->k<=1000000->PI n
 |_,_,.new h hm hp hl _,_=>zy504 h.2.2
 |_,_,.step h he hh,hk=>zy503 (h.np oaa) oaa (h.pi oaa) he hh
theorem zy505{a b:List Int}(ha:okB a)(hb:okB b):I5 a b=decide (a=b):=zy443 ha hb
def zy506(d:aC)(s:ah):Bool:=decide (d.bg.aP<+:s.av)
theorem zy507{xs ys:List bD}(hx:∀p∈xs,okB p.bb)(hy:∀p∈ys,okB p.bb)(hl:xs.length<=1000):qY xs ys=ς (decide (xs<+:ys)):=by
 rw[qY]
 cases hb:ltB (ys.length:Int) (xs.length:Int)
 .have hb:=zy60 hb
  have:=zy81 (L:=lS xs ys) xs (λk x=>decide (ys[k]?=ς x)) (ς ζ) oaa (λk x hx' hk=>by
   obtain⟨y,hy'⟩:∃y,ys[k]?=ς y:=⟨_,ZM oaa⟩
   simp only[lS,cE hk,bh,hx',hy',WX,zy505 (hx x (ZL hx')) (hy y (ZL hy')),WRs (k:=k),dn,au]
   have e:decide (x.bb=y.bb)=decide (ς y=ς x):=by
    obtain⟨x⟩:=x;obtain⟨y⟩:=y
    simp only[Option.some.injEq,bD.mk.injEq]
    exact decide_eq_decide.2 ⟨Eq.symm,Eq.symm⟩
   simp_all) (by simp only[lS,zy49,cond_false])
  rw[cond_false,this]
  have e:zy77 (λk x=>decide (ys[k]?=ς x)) xs=decide (xs<+:ys):=by
   rw[Bool.eq_iff_iff,zy78,decide_eq_true_eq,List.prefix_iff_eq_take]
   constructor
   .intro h
    apply abW
    grind
   grind
  grind
 have hb:=zy59 hb
 grind
theorem zy508:∀(c k fu:Nat) (l:List bD) (v:Int),l.length<=1000->k+c=l.length->c<fu->0<=v->v+60*c<=1000000->(∀p∈l,p.bb.length<=60)->iter (iz l) fu (v,(k:Int))=ς (v+((l.drop k).map λp=>(p.bb.length:Int)).sum)
 |0,k,fu,l,v,h6,h1,h2,h3,h4,h5=>by
  cases fu with
  |zero=>omega
  |succ fu=>
   rw[iter]
   simp only[iz,ltB_f.2 (show(l.length:Int)<=(k:Int) by omega),cond_false]
   simp_all
 |c+1,k,fu,l,v,h6,h1,h2,h3,h4,h5=>by
  cases fu with
  |zero=>omega
  |succ fu=>
   obtain⟨x,hx⟩:∃x,l[k]?=ς x:=⟨_,ZM oaa⟩
   have hxl:=h5 x (ZL hx)
   rw[iter]
   simp only[iz,cE (show k<l.length by omega),bh,hx,WRs (k:=k),zy46 (n:=v+(x.bb.length:Int)) oaa,au]
   rw[zy508 c (k+1) fu l _ h6 oaa oaa oaa oaa h5,List.drop_eq_getElem_cons (show k<l.length by omega)]
   grind
theorem zy509(h:SP s)(k:Int):nL s k=ς (zy471 s.av k.toNat):=by
 have hl:=h.sl
 rw[nL,max_i]
 simp only[abJ,min_i]
 obtain⟨m,hm,hm2,hm3⟩:∃m:Nat,ol (zy237 k 0) (s.av.length:Int)=(m:Int)/\m<=s.av.length/\s.av.take m=s.av.take k.toNat:=by
  refine⟨min k.toNat s.av.length,?_,Nat.min_le_right _ _,?_⟩
  .unfold ol zy237;omega
  simp_all
 rw[hm,show fH s.av 0 (m:Int)=ζ by simp[fH];omega]
 simp only[cond_true,abL,sH]
 have:=zy508 (s.av.take m).length 0 FU (s.av.take m) 0 (by simp;omega) oaa (by have:=zy43;simp;omega) oaa (by simp;omega) (λp hp=>h.sd p (aae hp))
 rw[show iter (iz (s.av.take m)) FU (0,0)=_ from this]
 simp only[abJ,List.drop_zero,zy471,hm3];simp_all
section
variable{B:Int}{n:ab}(h:NP B n){i:Nat}{d:aC}{s:ah}{a:am}(hd:n.aj[i]?=ς d)(hs:n.an[i]?=ς s)(ha:n.aU[i]?=ς a)
include h hd hs ha
omit hs ha in
theorem zy510:lu n (i:Int)=ς ζ/\jS n (i:Int)=ς true:=by
 have h1:=h.ls
 have h2:=h.la
 have h3:=h.ld
 have hi:=(v0.1 hd).1
 simp only[lu,jS,kR,zy46 (n:=(n.aj.length:Int)-1) oaa,zy46 (n:=(n.an.length:Int)-1) oaa,zy46 (n:=(n.aU.length:Int)-1) oaa,bE.2 (show(0:Int)<=(i:Int)/\(i:Int)<=(n.aj.length:Int)-1 by omega),bE.2 (show(0:Int)<=(i:Int)/\(i:Int)<=(n.an.length:Int)-1 by omega),bE.2 (show(0:Int)<=(i:Int)/\(i:Int)<=(n.aU.length:Int)-1 by omega),au]
 simp_all
theorem VU:eM n (i:Int)=ς (zy506 d s):=by
 obtain⟨zy19,e2⟩:=zy510 h hd
 have hm:=h.m i d s a hd hs ha
 have hr:=zy311.1 hm.dp.rc.v
 simp only[eM,zy19,bh,hd,hs,zy507 hm.dp.rc.b2 hm.sg.b1 (by have:=hr.l;omega),zy506,au]
theorem zy511:kO n (i:Int)=ς (a.dv+s.bV.dW):=by
 obtain⟨zy19,e2⟩:=zy510 h hd
 have hm:=h.m i d s a hd hs ha
 have q1:=hm.sg.mo.acc.s
 have q2:=hm.sg.mo.acc.t
 have q3:=hm.sg.sp.q
 have q4:=q3.u
 have q5:=q3.g
 have q6:=q3.m
 simp only[kO,e2,bh,ha,hs,zy46 (n:=a.dv+s.bV.dW) oaa,au]
theorem LG:ec s=ς (gH s.ax):=by
 have hm:=h.m i d s a hd hs ha
 have hn:=hm.sg.sp.win.n
 have hl:=hm.sg.sp.win.l
 rw[ec,zy46 (n:=s.ax.bC-1) oaa,zy46 oaa];rfl
theorem YA:ei n (i:Int)=ς (eqB (a.dv+s.bV.dW) (zy471 s.av (gH s.ax).toNat)):=by
 obtain⟨zy19,e2⟩:=zy510 h hd
 have hm:=h.m i d s a hd hs ha
 simp only[ei,e2,zy511 h hd hs ha,LG h hd hs ha,zy509 hm.sg.sp,bh,hs,au]
theorem zy512:eL n (i:Int)=ς (leB (gH s.ax) (d.bg.aP.length:Int)):=by
 obtain⟨zy19,e2⟩:=zy510 h hd
 simp only[eL,zy19,LG h hd hs ha,bh,hs,hd,au]
end
def zy513(n:ab)(i:Nat)(d:aC):Bool:=match n.an[i]?,n.aU[i]? with
 |some s,ς a=>zy506 d s&&(eqB (a.dv+s.bV.dW) (zy471 s.av (gH s.ax).toNat)&&leB (gH s.ax) (d.bg.aP.length:Int))
 |_,_=>ζ
theorem zy514(h:NP B n):tQ n=ς (zy77 (zy513 n) n.aj):=by
 have hl:=h.ld
 simp only[tQ,Ee h.okN,h.vn,au]
 have:=zy81 (L:=vP n) n.aj (zy513 n) (ς ζ) oaa (λk d hd hk=>by
  obtain⟨d',s,a,zy19,e2,e3,hm⟩:=h.at_ hk
  rw[hd] at zy19;cases zy19
  simp only[vP,cE hk,VU h hd e2 e3,YA h hd e2 e3,zy512 h hd e2 e3,WRs (k:=k),zy513,e2,e3,au]
  cases zy506 d s<;>cases eqB (a.dv+s.bV.dW) (zy471 s.av (gH s.ax).toNat)<;>cases leB (gH s.ax) (d.bg.aP.length:Int)<;>rfl) (by simp only[vP,zy49,cond_false])
 grind
theorem zy515(h:NP B n)(p:PI n):tQ n=ς true:=by
 rw[zy514 h]
 congr 1
 refine zy78.2 λi d hd=>?_
 obtain⟨d',s,a,zy19,e2,e3,hm⟩:=h.at_ (v0.1 hd).1
 rw[hd] at zy19;cases zy19
 have si:=p.si i d s a hd e2 e3
 have hr:=zy311.1 hm.dp.rc.v
 have hak:=si.ak
 have hn:=hr.n
 simp only[zy513,e2,e3,zy506,hV,decide_eq_true_eq,eqB_t,leB_t]
 exact⟨si.pr,si.ch,by omega⟩
structure Paid(d:aC)(s:ah)(a:am):Prop where
 le:d.bg.aP.length<=s.av.length
 eq:s.av.take d.bg.aP.length=d.bg.aP
 ch:a.dv+s.bV.dW<=zy471 s.av d.bg.aP.length
 to:a.dv+s.bV.dW<=a.fJ
theorem Np{xs:List Int}(hl:xs.length<=1048576){m:Int}(hm:3<=m/\m<=900):∃r,yS xs m=ς r/\3<=r/\r<=m:=by
 have h0:0<=ach (xs.length:Int) 12/\ach (xs.length:Int) 12<=1048576:=by
  rw[Int.tdiv_eq_ediv_of_nonneg oaa];omega
 rw[yS]
 rw[zy46 (n:=ach (xs.length:Int) 12) oaa,zy46 (n:=3+ach (xs.length:Int) 12) oaa]
 cases hb:ltB m (3+ach (xs.length:Int) 12)
 .have:=zy60 hb;grind
 simp_all
structure zy516(n:ab):Prop where
 np:∃B:Int,NP B n/\B<=100000000
 pi:PI n
 dl:1<=n.aj.length/\n.aj.length<=3
 re:∃k,zy453 k n/\k<=200
 ru:∃k,zy454 k n/\k<=200
theorem RN.good{B:Nat}(h:RN B l n)(hB:B<=200)(hl:1<=l/\l<=3):zy516 n:=by
 obtain⟨k,h1,h2,h3⟩:=h
 exact⟨⟨_,h1.re.np oaa,by omega⟩,h1.re.pi oaa,by omega,⟨k,h1.re,by omega⟩,k,h1,by omega⟩
theorem wRunG{xs:List Int}(hl:xs.length<=1048576)(hu:∀x∈xs,zy54 x){c:aT}(hc:zy406 c){a m:Int}(ha:0<=a/\a<=90)(hm:3<=m/\m<=60){r:Int}(hr:yS xs m=ς r):
 Wp (y4 c (WR (a+r))) (λr=>zy406 r.2.2.2/\zy516 r.1/\zy516 r.2.2.1/\r.2.1.length<=160/\∀e∈r.2.1,EP e):=by
 obtain⟨r',h1,h2,h3⟩:=Np hl (m:=m) oaa
 rw[hr] at h1;cases h1
 rw[zy46 (n:=a+r) oaa]
 refine Wp.mono (zy469 hc oaa) λx hx=>?_
 obtain⟨g1,l,g2,g3,g4,g5,g6⟩:=hx
 exact⟨g1,g3.good oaa g2,g4.good oaa g2,g5,g6⟩
theorem zy517{xs:List Int}(hl:xs.length<=1048576)(hu:∀x∈xs,zy54 x):Wp (zy30 xs) zy516:=by
 unfold zy30
 obtain⟨c,e,hc,_⟩:=zy410 hl hu
 obtain⟨r,h1,_,_⟩:=Np hl (m:=50) oaa
 refine Wp.eq e (Wp.eq h1 ?_)
 unfold vu
 exact Wp.call (P:=λr=>zy516 r.1) (Wp.call (wRunG hl hu hc (a:=40) (m:=50) oaa oaa h1) λx hx=>Wp.some hx.2.2.1) λx hx=>Wp.some hx
def Gg(r:aF)(g:Int):Int:=if g=0 then 0 else zy470 r g
def zy518(s:ah)(x:aD):Prop:=zy472 s x\/zy172 (Gg s.bH x.ag) x=η
structure PR(n:ab):Prop where
 dz:∀d∈n.aj,d.ag=0->d.aY=0
 sz:∀s∈n.an,s.ag=0->s.aY=0
 rd:∀f∈n.aZ,f.dL=ζ->f.eH=η/\∀s,n.an[f.bA.toNat]?=ς s->zy518 s f.cz
theorem zy472.mo{d:aC}(h:zy472 s x)(m:uB d s d' s'):zy472 s' x:=by
 obtain⟨k,g,e,b,q1,q2,q3,q4⟩:=h
 exact⟨k,g,e,b,q1,⟨q2.1,acm q2.2 m.wn⟩,zy475 m.su q3,by rw[zy476 m.ri m.rk];exact q4⟩
theorem zy518.mo{d:aC}(h:zy518 s x)(m:uB d s d' s'):zy518 s' x:=by
 rcases h with h|h
 .exact .inl (h.mo m)
 right;rw[Gg,zy476 m.ri m.rk];exact h
def RF(n:ab)(f:bT):Prop:=f.dL=ζ->f.eH=η/\∀s,n.an[f.bA.toNat]?=ς s->zy518 s f.cz
theorem PR.send(h:PR n)(hf:RF n f):PR (zy332 n f):=by
 rw[zy332]
 cases leB 200 (n.aZ.length:Int)
 .refine⟨h.dz,h.sz,λg hg=>?_⟩
  rcases ZO.1 hg with hg|hg
  .exact h.rd g hg
  simp at hg;subst hg;exact hf
 exact⟨h.dz,h.sz,h.rd⟩
theorem PR.sends:∀(l:List bT) {n:ab},PR n->(∀f∈l,RF n f)->PR (sends n l)
 |[],n,h,_=>h
 |f::l,n,h,hf=>by
  have hk:=zy335 n f
  exact PR.sends l (h.send (hf f (by simp))) (λg hg=>by unfold RF;rw[hk.2.1];exact hf g (by simp[hg]))
theorem PR.setM(h:PR n){d:aC}{a':am}(hd:n.aj[i]?=ς d)(hs:n.an[i]?=ς s)(hm:uB d s d' s')(g1:0<=d.ag)(g2:0<=s.ag):
 PR {n with aj:=n.aj.set i d',an:=n.an.set i s',aU:=n.aU.set i a'}:=by
 refine⟨λx hx e=>?_,λx hx e=>?_,λf hf h1=>⟨(h.rd f hf h1).1,λx hx=>?_⟩⟩
 .rcases abn hx with hx|rfl
  .exact h.dz x hx e
  rcases hm.dg with q|⟨q1,q2⟩
  .omega
  rw[q2];exact h.dz d (ZL hd) oaa
 .rcases abn hx with hx|rfl
  .exact h.sz x hx e
  rcases hm.sg with q|⟨q1,q2⟩
  .omega
  rw[q2];exact h.sz s (ZL hs) oaa
 rcases nM hx with⟨zy19,e2⟩|⟨zy19,e2⟩
 .subst e2;exact((h.rd f hf h1).2 s (by simp_all)).mo hm
 exact(h.rd f hf h1).2 x e2
theorem zy519(n:ab)(i:Int)(up:Bool)(m:aM):RF n (zy338 i up m):=λh=>by simp[zy338] at h
section
variable{B:Int}{n:ab}(hn:NP B n)(h:PR n){i:Nat}{d:aC}{s:ah}{a:am}(hd:n.aj[i]?=ς d)(hs:n.an[i]?=ς s)(ha:n.aU[i]?=ς a)
include hn h hd hs ha
theorem tf{r:bj}(st:xJ d s a r):PR (zy340 n i r):=by
 have hm:=hn.m i d s a hd hs ha
 have:=h.setM hd hs st.mo (a':=a) hm.dp.gn.1 hm.sg.sp.gn.1
 rw[zy343 hs,zy343 ha] at this
 exact PR.sends _ this λf hf=>by obtain⟨m,_,rfl⟩:=aaA.1 hf;exact zy519 _ _ _ _
theorem zy520{r:bU}(st:zy484 d s a r):PR (zy347 n i r):=by
 have hm:=hn.m i d s a hd hs ha
 have:=h.setM hd hs st.mo (a':=a) hm.dp.gn.1 hm.sg.sp.gn.1
 rw[zy343 hd,zy343 ha] at this
 exact PR.sends _ this λf hf=>by obtain⟨m,_,rfl⟩:=aaA.1 hf;exact zy519 _ _ _ _
theorem SD{t:b8}(st:TrS d s a t.a8 t.eo t.cz):PR (zy365 n i t):=by
 have hm:=hn.m i d s a hd hs ha
 have hi:=(v0.1 hs).1
 have:=h.setM hd hs st.mo (a':=t.eo) hm.dp.gn.1 hm.sg.sp.gn.1
 rw[zy343 hd] at this
 have hpg:=PR.sends (t.lF.map (zy338 i η)) this λf hf=>by obtain⟨m,_,rfl⟩:=aaA.1 hf;exact zy519 _ _ _ _
 have hkeep:=i6 (t.lF.map (zy338 i η)) {n with an:=n.an.set i t.a8,aU:=n.aU.set i t.eo}
 refine PR.sends _ hpg λf hf _=>?_
 obtain⟨m,hm',rfl⟩:=aaA.1 hf
 refine⟨rfl,λx hx=>?_⟩
 rw[hkeep.2.1] at hx
 simp only[zy339,abL] at hx
 rw[show(n.an.set i t.a8)[i]?=ς t.a8 by simp[hi]] at hx;cases hx
 exact .inl (st.rd m hm')
end
theorem zy521(h:PR n)(k:Nat):PR (kK n k):=⟨h.dz,h.sz,λf hf=>h.rd f (by
 simp only[kK,ZO] at hf
 grind)⟩
theorem zy522(hn:NP B n)(p:PI n)(h:PR n)(k:Nat):PR (zy354 n k):=by
 rw[zy354]
 cases hf:n.aZ[k]? with
 |none=>exact h
 |some f=>
  have hfm:=ZL hf
  have hp:=hn.fs f hfm
  have h1:=zy521 h k
  have hn1:=zy349 hn k
  have hdd:=hp.d
  obtain⟨d,s,a,zy19,e2,e3,hm⟩:=hn.at_ (i:=f.bA.toNat) oaa
  have hfi:=p.fi f hfm d s zy19 e2
  have hsi:=p.si _ d s a zy19 e2 e3
  have q1:(kK n k).aj[f.bA.toNat]?=ς d:=zy19
  have q2:(kK n k).an[f.bA.toNat]?=ς s:=e2
  have q3:(kK n k).aU[f.bA.toNat]?=ς a:=e3
  simp only
  cases zy350 (kK n k) f.bv
  .exact⟨h1.dz,h1.sz,h1.rd⟩
  simp only[q1,q2,au]
  cases hu:f.eH
  .simp only[cond_false]
   cases eqB d.bv f.bv
   .exact⟨h1.dz,h1.sz,h1.rd⟩
   simp only[au]
   cases hr:f.dL
   .exact tf hn1 h1 q1 q2 q3 (zy479 hsi hm.key (zy487 hm.sg.sp.rcd).2 (λe=>hfi.dn hu hr e))
   exact tf hn1 h1 q1 q2 q3 (zy481 hsi (zy311.1 hm.dp.rc.v) hm.sg.sp hm.sg.b1 (hfi.rd hu hr))
  simp only[cond_true]
  cases hr:f.dL||!eqB f.bw.bv f.bv
  .simp only[cond_false]
   simp only[Z2] at hr
   exact zy520 hn1 h1 q1 q2 q3 (I4 hsi hm.sg (λe=>hfi.up hu hr.1 e))
  exact h1
theorem zy523:∀(c i:Nat) {B:Int} {n:ab},NP B n->B+c<4611686018427387904->PI n->PR n->PR (zy358 c i n)/\PI (zy358 c i n)/\NP (B+c) (zy358 c i n)
 |0,_,_,_,hn,_,p,h=>⟨h,p,by simpa [zy358] using hn⟩
 |c+1,i,B,n,hn,hB,p,h=>by
  rw[zy358]
  cases hd:n.aj[i]? with
  |none=>exact⟨h,p,hn.mono oaa⟩
  |some d=>
   obtain⟨d',s,a,zy19,e2,e3,hm⟩:=hn.at_ (v0.1 hd).1
   rw[hd] at zy19;cases zy19
   have st:=Hw (p.si i d s a hd e2 e3)
   have ih:=zy523 c (i+1) (ku hn hd (uP d) (ya hm.dp) hm.dc oaa) oaa (zy483 p hd e2 e3 st) (tf hn h hd e2 e3 st)
   grind
theorem zy524:∀(c i:Nat) {B:Int} {n:ab},NP B n->B+2000*c<4611686018427387904->PI n->PR n->PR (zy368 c i n)
 |0,_,_,_,_,_,_,h=>h
 |c+1,i,B,n,hn,hB,p,h=>by
  rw[zy368]
  cases hs:n.an[i]? with
  |none=>exact h
  |some s=>cases ha:n.aU[i]? with
   |none=>exact h
   |some a=>
    have hls:=hn.ls
    have hml:=mj hn.map
    obtain⟨d,s',a',zy19,e2,e3,hm⟩:=hn.at_ (i:=i) (by grind)
    rw[hs] at e2;rw[ha] at e3;cases e2;cases e3
    have ht:=EB (p.si i d s a zy19 hs ha) hm.sg n.dV
    exact zy524 c (i+1) (Ck hn hs ha (zy364 hm.sg oaa) (CJ hm.sg hn.map) oaa) oaa (zy497 p zy19 hs ha ht.1 ht.2) (SD hn h zy19 hs ha ht.1)
theorem YD(hn:NP B n)(p:PI n)(h:PR n)(e:cY):PR (zy396 n e).2:=by
 rw[zy396]
 cases inR e.cV 0 ((n.aj.length:Int)-1)
 .exact h
 simp only[au]
 cases hd:n.aj[e.cV.toNat]? with
 |none=>exact h
 |some d=>
  obtain⟨d',s,a,zy19,e2,e3,hm⟩:=hn.at_ (v0.1 hd).1
  rw[hd] at zy19;cases zy19
  have hsi:=p.si _ d s a hd e2 e3
  simp only[e2]
  cases eqB e.bk 5
  .simp only[cond_false]
   cases eqB e.bk 6
   .simp only[cond_false]
    cases eqB e.bk 7
    .simp only[cond_false]
     cases(zy246 s e.bb).2
     .exact h
     have st:=EA hsi hm.sg e.bb
     have hm':=h.setM hd e2 st.mo (a':=a) hm.dp.gn.1 hm.sg.sp.gn.1
     rw[zy343 hd,zy343 e3] at hm'
     exact hm'
    simp only[cond_true]
    cases eqB d.bB 2
    .exact h
    have st:=zy482 hsi
    have hm':=h.setM hd e2 st.2 (a':=a) hm.dp.gn.1 hm.sg.sp.gn.1
    rw[zy343 e2,zy343 e3] at hm'
    exact hm'
   simp only[cond_true]
   cases eqB e.bv d.bv||!zy138 n.dV e.bv
   .exact tf hn h hd e2 e3 (Ht hsi e.bv)
   exact h
  simp only[cond_true]
  cases eqB d.bB 0
  .exact h
  exact tf hn h hd e2 e3 (zy477 hsi)
theorem zy525(hn:NP B n)(p:PI n)(h:PR n)(k:Int)(up:Bool):PR (zy381 n k up).2:=by
 rw[zy381]
 cases !inR k 0 (n.d8.fD-1)||(booB (y6 n.d8 k) up||eqB (oV n.d8 k up).eG 0)
 .simp only[cond_false]
  have hls:=hn.ls
  have key:∀(i:Nat) s',(uS n.d8 (oV n.d8 k up) n.an.length 0 n.an)[i]?=ς s'->∃d s,n.an[i]?=ς s/\uB d s d s'/\s'.ag=s.ag/\s'.aY=s.aY:=by
   intro i s' hs
   rcases zy382 n.d8 (oV n.d8 k up) n.an.length 0 n.an i with q|⟨t,q1,q2⟩
   .rw[q] at hs;exact⟨default,s',hs,uB.refl _ s',rfl,rfl⟩
   rw[q2] at hs;cases hs
   obtain⟨d,t',a,zy19,e2,e3,hm⟩:=hn.at_ (i:=i) (by grind)
   rw[q1] at e2;cases e2
   exact⟨d,t,q1,(zy491 (p.si i d t a zy19 q1 e3) hm.sg).mo,rfl,rfl⟩
  refine⟨h.dz,λs' hs' e=>?_,λf hf h1=>⟨(h.rd f hf h1).1,λs' hs'=>?_⟩⟩
  .obtain⟨i,hi⟩:=ZY hs'
   obtain⟨d,s,q1,_,q2,q3⟩:=key i s' hi
   rw[q3];exact h.sz s (ZL q1) oaa
  obtain⟨d,s,q1,q2,_⟩:=key _ s' hs'
  exact((h.rd f hf h1).2 s q1).mo q2
 exact h
theorem PR.same{n':ab}(h:PR n)(h1:n'.aj=n.aj)(h2:n'.an=n.an)(h4:∀f∈n'.aZ,f∈n.aZ):PR n':=
 ⟨by rw[h1];exact h.dz,by rw[h2];exact h.sz,λf hf=>by rw[h2];exact h.rd f (h4 f hf)⟩
theorem zy526(hn:NP B n)(hB:B+10000<4611686018427387904)(p:PI n)(h:PR n){e:cY}(hs:e.bk=13->RF n e.bN):PR (zy403 n e).2:=by
 rw[zy403]
 split
 .rw[zy370]
  cases hb:leB 100000 n.oG
  .simp only[cond_false]
   have hb:=yp hb
   have hl:=hn.ld
   have hnw:=hn.nw
   have h1:NP B {n with oG:=n.oG+1}:={hn with nw:=by simp only;omega}
   have t:=zy523 n.aj.length 0 h1 oaa (p.same rfl rfl rfl (λf hf=>hf)) (h.same rfl rfl (λf hf=>hf))
   have hls:=t.2.2.ls
   have hl2:=t.2.2.ld
   exact zy524 _ 0 t.2.2 oaa t.2.1 t.1
  exact h
 split
 .rw[tY]
  cases inR e.cV 0 ((n.aZ.length:Int)-1)
  .exact h
  simp only[au]
  cases eqB e.bk 2
  .simp only[cond_false]
   cases eqB e.bk 3
   .simp only[cond_false]
    cases leB 200 (n.aZ.length:Int)
    .simp only[cond_false]
     cases hf:n.aZ[e.cV.toNat]? with
     |none=>exact h
     |some f=>exact h.send (h.rd f (ZL hf))
    exact h
   exact(zy521 h _).same rfl rfl (λf hf=>hf)
  exact zy522 hn p h _
 split
 .exact YD hn p h e
 split
 .rw[Cc];cases !zy138 n.dV e.cV||booB (zy350 n e.cV) (eqB e.bk 10)
  .exact h.same rfl rfl (λf hf=>hf)
  exact h
 split
 .exact zy525 hn p h _ _
 split
 .rename_i h13
  rw[zy401];cases zy400 n e.bN
  .exact h
  exact h.send (hs h13)
 exact h
theorem zy527{m:aV}{rs:List aF}{p:bK}{b:Int}:PR (zy429 m rs p b rs.length):=by
 refine⟨λd hd _=>?_,λs hs _=>?_,λf hf=>by simp[zy429] at hf⟩
 .simp only[zy429,aaA] at hd;obtain⟨j,_,rfl⟩:=hd;rfl
 simp only[zy429,aaA] at hs;obtain⟨j,_,rfl⟩:=hs;rfl
theorem zy454.pr:∀{k:Nat} {n:ab},zy454 k n->k<=1000000->PR n
 |_,_,.new _ _ _ _ _,_=>zy527
 |_,_,.step (k:=k) (n:=n) (e:=e) h he hh hf,hk=>by
  have hn:=h.re.np oaa
  have hp:=h.re.pi oaa
  have ih:=h.pr oaa
  refine zy526 hn oaa hp ih λh13 hr=>?_
  obtain⟨u,d,zy19,e2,e3⟩:=(hf h13).2 hr
  refine⟨u,λs hs=>.inr ?_⟩
  obtain⟨d',s',a,q1,q2,q3,hm⟩:=hn.at_ (v0.1 zy19).1
  rw[zy19] at q1;cases q1;rw[hs] at q2;cases q2
  have si:=hp.si _ d s a zy19 hs q3
  have hr:d.aY=Gg s.bH d.ag:=by
   rw[Gg]
   split
   .rename_i h0;exact ih.dz d (ZL zy19) h0
   exact si.dk (by have:=hm.dp.gn.1;omega)
  rw[e2,<-hr];exact e3
section
variable{B:Int}{n:ab}(hn:NP B n)(p:PI n)(h:PR n){i:Nat}{s:ah}(hs:n.an[i]?=ς s)
include hn p h hs
end
theorem zy528{α ρ:Type}{L:Int->Option (ct Int ρ)}(xs:List α)(f:ρ){c:Option ρ}(hl:xs.length<=9223372036854775806)(hs:∀(k:Nat) (x:α),xs[k]?=ς x->k<xs.length->L (k:Int)=ς (.next ((k+1:Nat):Int)))(he:L (xs.length:Int)=dn c):iter L FU 0=c:=by
 have:=zy136 (L:=L) xs (λ_ _=>ζ) f c hl (λk x hx hk=>by rw[hs k x hx hk];rfl) he
 rw[this,zp];rfl
theorem zy529{xs:List Int}(hl:xs.length<=1048576)(hu:∀x∈xs,zy54 x){i:Int}(h0:0<=i)(h1:i<=1000):∃r,lat xs i=ς r/\0<=r/\r<=255:=by
 rw[lat]
 cases hb:ltB i (xs.length:Int)
 .simp only[cond_false]
  rw[zy46 (n:=i*31) oaa,zy46 (n:=(xs.length:Int)*7) oaa,zy46 oaa,abN oaa]
  exact⟨_,rfl,by omega,by omega⟩
 have hb:=zy59 hb
 obtain⟨k,rfl⟩:∃k:Nat,i=k:=⟨i.toNat,by omega⟩
 obtain⟨x,hx⟩:∃x,xs[k]?=ς x:=⟨_,ZM oaa⟩
 have:=hu x (ZL hx)
 unfold zy54 at this
 simp only[bh,hx,zy46 (n:=x) oaa,au]
 exact⟨_,rfl,this.1,this.2⟩
theorem zy530{x:ab}(ok:zy76 x)(b:BY x){d:aC}(hd:x.aj[i]?=ς d)(h:zy513 x i d=η):tQ x=ς false:=by
 cases hv:kf x
 .simp only[tQ,Ee ok,hv,au]
 rw[zy514 (NP.of ok hv b)]
 congr 1
 cases ha:zy77 (zy513 x) x.aj with
 |false=>rfl
 |true=>have:=zy78.1 ha i d hd;rw[h] at this;cases this
theorem hasX{x:ab}(h1:x.an.length=x.aj.length)(h2:x.aU.length=x.aj.length)(h3:x.aj.length<=1000)(hi:i<x.aj.length):lu x (i:Int)=ς ζ/\jS x (i:Int)=ς true:=by
 simp only[lu,jS,kR,zy46 (n:=(x.aj.length:Int)-1) oaa,zy46 (n:=(x.an.length:Int)-1) oaa,zy46 (n:=(x.aU.length:Int)-1) oaa,bE.2 (show(0:Int)<=(i:Int)/\(i:Int)<=(x.aj.length:Int)-1 by omega),bE.2 (show(0:Int)<=(i:Int)/\(i:Int)<=(x.an.length:Int)-1 by omega),bE.2 (show(0:Int)<=(i:Int)/\(i:Int)<=(x.aU.length:Int)-1 by omega),au]
 simp_all
theorem zy531{d:aC}{k:Nat}{z:bD}(h:d.bg.aP<+:s.av)(hk:d.bg.aP[k]?=ς p)(hz:z≠p)(dd:aC)(e:dd.bg.aP=d.bg.aP.set k z):zy506 dd s=false:=by
 simp only[zy506,decide_eq_false_iff_not,e]
 rintro⟨t',ht'⟩
 obtain⟨t,ht⟩:=h
 have hl:=(v0.1 hk).1
 have h1:s.av[k]?=ς p:=by rw[<-ht,ZU hl];exact hk
 have h2:s.av[k]?=ς z:=by rw[<-ht',ZU (by simpa using hl),List.getElem?_set_self hl]
 rw[h1] at h2;cases h2;exact hz rfl
theorem zy532{x:ab}(h1:x.an.length=x.aj.length)(h2:x.aU.length=x.aj.length)(h3:x.aj.length<=1000){d:aC}(hd:x.aj[i]?=ς d)(hs:x.an[i]?=ς s)(hb1:∀p∈d.bg.aP,okB p.bb)(hb2:∀p∈s.av,okB p.bb)(hl:d.bg.aP.length<=1000):eM x (i:Int)=ς (zy506 d s):=by
 obtain⟨zy19,e2⟩:=hasX h1 h2 h3 (v0.1 hd).1
 simp only[eM,zy19,bh,hd,hs,zy507 hb1 hb2 hl,zy506,au]
theorem runE(ok:zy76 n):zy35 n []=ς n:=by
 have h:iter (zy34 []) FU (0,n)=ς n:=by
  have h0:zy34 [] (0,n)=ς (.done n):=by simp[zy34,ltB]
  unfold FU
  rw[iter,h0]
 simp only[zy35,Sd ok,abJ,h]
theorem zy533(h:SP s):ec s=ς (gH s.ax):=by
 have hn:=h.win.n
 have hl:=h.win.l
 rw[ec,zy46 (n:=s.ax.bC-1) oaa,zy46 oaa];rfl
theorem Sp{x:ab}(h1:x.an.length=x.aj.length)(h2:x.aU.length=x.aj.length)(h3:x.aj.length<=1000)(hi:i<x.aj.length)(hs:x.an[i]?=ς s)(ha:x.aU[i]?=ς a)(sp:SP s)(hb: -1000000000<=a.dv/\a.dv<=1000000000)(hu:0<=s.bV.dW/\s.bV.dW<=1000000000):ei x (i:Int)=ς (eqB (a.dv+s.bV.dW) (zy471 s.av (gH s.ax).toNat)):=by
 obtain⟨zy19,e2⟩:=hasX h1 h2 h3 hi
 simp only[ei,kO,e2,zy533 sp,zy509 sp,bh,hs,ha,zy46 (n:=a.dv+s.bV.dW) oaa,au]
theorem zy534(ok:zy76 n){d:aC}(hd:n.aj[i]?=ς d){k:Int}(hp:p.bb.length<=1000):zy76 {n with aj:=n.aj.set i (zy38 d k p)}:=by
 obtain⟨o1,⟨o2,o3⟩,o4,o5,o6⟩:=ok
 have hdo:=o3 d (ZL hd)
 refine⟨o1,⟨by simpa using o2,λx hx=>?_⟩,o4,o5,o6⟩
 rcases abn hx with h|rfl
 .exact o3 x h
 obtain⟨q1,q2,q3⟩:=hdo
 refine⟨q1,by simpa [zy38] using q2,λy hy=>?_⟩
 rcases abn hy with h|rfl
 .exact q3 y h
 exact⟨by simp;omega,λ_ _=>trivial⟩
theorem zy535(b:BY n){d:aC}(hd:n.aj[i]?=ς d){k:Int}(hp:okB p.bb):BY {n with aj:=n.aj.set i (zy38 d k p)}:=by
 have hm:=ZL hd
 refine⟨λx hx y hy=>?_,λx hx y hy=>?_,b.s1,b.s2,b.f⟩
 .rcases abn hx with h|rfl
  .exact b.d1 x h y hy
  exact b.d1 d hm y hy
 rcases abn hx with h|rfl
 .exact b.d2 x h y hy
 rcases abn hy with h|rfl
 .exact b.d2 d hm y h
 intro z hz
 simp only[List.singleton_append,List.mem_cons] at hz
 rcases hz with rfl|hz
 .exact⟨by omega,by omega⟩
 exact hp z hz
theorem bad_a(h:NP B n)(pi:PI n){cs:List Int}{c:Int}(hc:lat cs 0=ς c)(c0:0<=c){d:aC}(hd:n.aj[i]?=ς d)(hs:n.an[i]?=ς s)(ha:n.aU[i]?=ς a)(hne:0<d.bg.aP.length):JU cs n d (i:Int)=ς false:=by
 have hm:=h.m i d s a hd hs ha
 have si:=pi.si i d s a hd hs ha
 have hr:=zy311.1 hm.dp.rc.v
 have hi:=(v0.1 hd).1
 have hl:d.bg.aP.length<=1000:=by have:=hr.l;omega
 obtain⟨k,hk,hkl⟩:∃k:Nat,abH c (d.bg.aP.length:Int)=(k:Int)/\k<d.bg.aP.length:=by
  refine⟨c.toNat%d.bg.aP.length,?_,Nat.mod_lt _ hne⟩
  rw[abN c0,Int.natCast_emod,Int.toNat_of_nonneg c0]
 obtain⟨p,hp⟩:∃p,d.bg.aP[k]?=ς p:=⟨_,ZM hkl⟩
 have hpm:=ZL hp
 have hpb:=hm.dp.rc.b2 p hpm
 have hpl:p.bb.length<=60:=by
  have h1:s.av[k]?=ς p:=by obtain⟨t,ht⟩:=si.pr;rw[<-ht,ZU hkl];exact hp
  exact hm.sg.sp.sd p (ZL h1)
 have zy19:eqB (d.bg.aP.length:Int) 0=false:=eqB_f.2 oaa
 have e2:cW 1 (([1]:List Int)++p.bb).length=true:=by simp[cW];omega
 have l1:=h.ls
 have l2:=h.la
 have l3:=h.ld
 have ho:zy506 (zy38 d (k:Int) p) s=false:=zy531 si.pr hp (z:=⟨[1]++p.bb⟩) (λe=>by have:=congrArg (λx=>x.bb.length) e;simp at this) _ (by simp[zy38])
 have hx:=zy532 (x:={n with aj:=n.aj.set i (zy38 d (k:Int) p)}) (i:=i) (d:=zy38 d (k:Int) p) (s:=s) (by simpa using l1) (by simpa using l2) (by simp;omega) (by simp[hi]) hs (λy hy=>(zy535 h.by_ hd (k:=(k:Int)) hpb).d2 (zy38 d (k:Int) p) (ZL (i:=i) (by simp[hi])) y hy) hm.sg.b1 (by simp[zy38];omega)
 have hau:=zy530 (zy534 h.okN hd (k:=(k:Int)) (p:=p) oaa) (zy535 h.by_ hd hpb) (i:=i) (d:=zy38 d (k:Int) p) (by simp[hi]) (by simp only[zy513,hs,ha,ho,acn])
 simp only[JU,runE h.okN,hc,hk,zy19,e2,bh,hd,hp,abL,hx,ho,hau,au]
theorem zy536(ok:zy76 n)(ha:n.aU[i]?=ς a):zy76 (zy39 n (i:Int) a):=by
 obtain⟨o1,o2,o4,⟨o5,o6⟩,o7⟩:=ok
 have hao:=o6 a (ZL ha)
 refine⟨o1,o2,o4,⟨by simpa [zy39] using o5,λx hx=>?_⟩,o7⟩
 simp only[zy39,abL,List.set_set] at hx
 rcases abn hx with h|rfl
 .exact o6 x h
 exact hao
theorem bad_b(h:NP B n)(pi:PI n){d:aC}(hd:n.aj[i]?=ς d)(hs:n.an[i]?=ς s)(ha:n.aU[i]?=ς a):Bp n (i:Int)=ς false:=by
 have hm:=h.m i d s a hd hs ha
 have si:=pi.si i d s a hd hs ha
 have hi:=(v0.1 hd).1
 have hia:=(v0.1 ha).1
 have l1:=h.ls
 have l2:=h.la
 have l3:=h.ld
 have q1:=hm.sg.mo.acc.s
 have q2:=hm.sg.mo.acc.t
 have q4:=hm.sg.sp.q.u
 have q5:=hm.sg.sp.q.g
 have q6:=hm.sg.sp.q.m
 have hb:=h.by_
 have w:WR (a.dv+1)=a.dv+1:=zy46 oaa
 obtain⟨a',ha'⟩:∃a':am,a'={a with bm:=WR (a.bm-1),dv:=WR (a.dv+1)}:=⟨_,rfl⟩
 have hxa:(zy39 n (i:Int) a).aU[i]?=ς a':=by simp[zy39,hia,ha']
 have hsp:a'.dv=a.dv+1:=by rw[ha'];exact w
 have ne:eqB (a'.dv+s.bV.dW) (zy471 s.av (gH s.ax).toNat)=false:=eqB_f.2 (by have:=si.ch;omega)
 have ho:=Sp (x:=zy39 n (i:Int) a) (by simpa [zy39] using l1) (by simpa [zy39] using l2) (by simp[zy39];omega) (by simpa [zy39] using hi) (by simpa [zy39] using hs) hxa hm.sg.sp oaa oaa
 have hau:=zy530 (zy536 h.okN ha) (x:=zy39 n (i:Int) a) ⟨hb.d1,hb.d2,hb.s1,hb.s2,hb.f⟩ (i:=i) (d:=d) (by simpa [zy39] using hd) (by simp only[zy513,hxa,show(zy39 n (i:Int) a).an[i]?=ς s from hs,ne,acn,Bool.and_false])
 simp only[Bp,runE h.okN,bh,ha,ho,ne,hau,au]
theorem zy537(xs:List Int)(hp:preL zy54 xs):zy41 xs=ς true:=by
 simp only[zy41,XM,abJ]
 cases hb:ltB 1048576 (xs.length:Int) with
 |true=>rfl
 |false=>
  have hl:=zy60 hb
  obtain⟨n,hd,hg⟩:=(zy517 (xs:=xs) oaa hp.2).ex
  obtain⟨B,hn,hB⟩:=hg.np
  have hld:=hn.ld
  obtain⟨c,hc,c0,c1⟩:=zy529 (xs:=xs) oaa hp.2 (i:=0) oaa oaa
  simp only[hd,au]
  refine zy528 n.aj η oaa (λk d hd hk=>?_) ?_
  .obtain⟨d',s,a,zy19,e2,e3,hm⟩:=hn.at_ hk
   rw[hd] at zy19;cases zy19
   have h2:=bad_b hn hg.pi hd e2 e3
   have tail:(abG (ix n.aU (k:Int)) λa=>bif ltB 0 a.bm then(abG (Bp n (k:Int)) λv=>bif v then dn (ς η) else ς (.next (WR ((k:Int)+1)))) else ς (.next (WR ((k:Int)+1))))=(ς (.next ((k+1:Nat):Int)):Option (ct Int Bool)):=by
    simp only[bh,e3,h2,WRs (k:=k),au]
    cases ltB 0 a.bm<;>rfl
   simp only[zy40,cE hk,bh,hd,au]
   cases hz:ltB 0 (d.bg.aP.length:Int) with
   |false=>simpa only[cond_false,bh] using tail
   |true=>
    have h1:=bad_a hn hg.pi hc c0 hd e2 e3 (by have:=zy59 hz;omega)
    simpa only[cond_true,cond_false,h1,abJ,bh] using tail
  simp only[zy40,zy49,cond_false,zy515 hn hg.pi]
end Go.AM
