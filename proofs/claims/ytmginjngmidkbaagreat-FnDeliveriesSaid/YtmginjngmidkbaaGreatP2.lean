/- A part. -/
import Derived.Test.YtmginjngmidkbaaGreatP1
set_option linter.unusedVariables false
set_option linter.unusedSimpArgs false
open List renaming getElem?_eq_some_iff->aab,mem_of_getElem?->aac,getElem?_eq_getElem->aaa,mem_append->aad,mem_map->aa8,prefix_refl->acN,range->hV,getElem?_of_mem->aar,getElem?_append_right->aap,getElem?_map->aaI,getElem?_append_left->aam,map_cons->aaA,mem_range->abj,mem_singleton->ab4,getD_eq_getElem?_getD->abm,getElem?_set->abJ,take_add_one->acf,mem_or_eq_of_mem_set->acT,any_eq_true->aaE,map_append->abc,length_nil->ab1,take_append_drop->abL,pairwise_append->ab3,mem_append_left->acV,mem_of_mem_take->aaC,sum_cons->acQ,append_assoc->aaT,all_eq_true->aah,length_cons->aaj,nil_append->aa9,sum_append->acS,map_nil->abe
open Option renaming bind_some->abX,bind->abU
open Int renaming le_refl->acM,toNat_natCast->abY,tmod_eq_emod_of_nonneg->ab0,tmod->abW,tdiv->acO,le_trans->acR
open Bool renaming and_eq_true->v0,or_eq_true->aan,or_eq_false_iff->aao,and_self->acP,eq_iff_iff->abZ,true_and->ab6,and_true->ab5,and_eq_false_iff->acU,false_or->aaJ,or_self->ace
namespace Go.AM
attribute [local simp] bR bw bu
variable {p:Go.AM.bN} {k i l:Nat} {B:Int} {n:Go.AM.ab} {e:Go.AM.dh} {α:Type} {a:Go.AM.am} {m:Go.AM.aD} {s s':Go.AM.ah} {f:Go.AM.bF} {x:α}
def uw (p:bN) (k:Int):Bool:=jK p&&(inR k 0 (p.fo-1)&&eqB (AT .i64 (FQ .i64 p.fj k) 1) 1)
theorem kj (h:jK p=true):1<=p.fo/\p.fo<=6:=by
 simp only[jK,v0,bO] at h;exact h.1
theorem QS (p:bN) (k:Int):qp p k=some (uw p k):=by
 simp only[qp,OD,fS,abX,uw]
 cases hp:jK p
 .rfl
 have:=kj hp
 rw[bK (n:=p.fo-1) oaa]
 cases hk:inR k 0 (p.fo-1)
 .rfl
 rw[leB_t.2 (bO.1 hk).1];rfl
theorem QR (p:bN) (k:Int):tx p k=some (uw p k):=by
 simp only[tx,KR,gv,abX,uw]
 cases hp:jK p
 .rfl
 have:=kj hp
 rw[bK (n:=p.fo-1) oaa]
 cases hk:inR k 0 (p.fo-1)
 .rfl
 rw[leB_t.2 (bO.1 hk).1];rfl
def lZ (p:bN) (k:Int) (up:Bool):bN:=
 bif !jK p||!inR k 0 (p.fo-1) then p else⟨p.fo,bif up then bOr .i64 p.fj (lJ .i64 1 k) else vZ .i64 p.fj (lJ .i64 1 k)⟩
theorem XJ (p:bN) (k:Int) (up:Bool):rK p k up=some (lZ p k up):=by
 simp only[rK,OD,fS,abX,lZ]
 cases hp:jK p
 .rfl
 have:=kj hp
 rw[bK (n:=p.fo-1) oaa]
 cases hk:inR k 0 (p.fo-1)
 .rfl
 rw[leB_t.2 (bO.1 hk).1];cases up<;>rfl
theorem XI (p:bN) (k:Int) (up:Bool):wv p k up=some (lZ p k up):=by
 simp only[wv,KR,gv,abX,lZ]
 cases hp:jK p
 .rfl
 have:=kj hp
 rw[bK (n:=p.fo-1) oaa]
 cases hk:inR k 0 (p.fo-1)
 .rfl
 rw[leB_t.2 (bO.1 hk).1];cases up<;>rfl
theorem Uz:∀c∈hV 7,∀d∈hV (2^c),∀i∈hV c,
 (inR (J5 .i64 (d:Int) (lJ .i64 1 (i:Int))) 0 (WR (lJ .i64 1 (c:Int)-1))&&(inR (bOr .i64 (d:Int) (lJ .i64 1 (i:Int))) 0 (WR (lJ .i64 1 (c:Int)-1))&&inR (vZ .i64 (d:Int) (lJ .i64 1 (i:Int))) 0 (WR (lJ .i64 1 (c:Int)-1))))=true:=by decide+kernel
theorem ZP:∀c∈hV 7,WR (lJ .i64 1 (c:Int)-1)=((2^c:Nat):Int)-1:=by decide+kernel
theorem Qg {c:Nat} (hc:c<=6) {d k:Int} (hd:inR d 0 (WR (lJ .i64 1 (c:Int)-1))=true) (hk:0<=k/\k<c):
 inR (J5 .i64 d (lJ .i64 1 k)) 0 (WR (lJ .i64 1 (c:Int)-1))=true/\inR (bOr .i64 d (lJ .i64 1 k)) 0 (WR (lJ .i64 1 (c:Int)-1))=true/\inR (vZ .i64 d (lJ .i64 1 k)) 0 (WR (lJ .i64 1 (c:Int)-1))=true:=by
 have hd':=bO.1 hd
 rw[ZP c (abj.2 oaa)] at hd'
 have:=Uz c (abj.2 oaa) d.toNat (abj.2 oaa) k.toNat (abj.2 oaa)
 rw[show(d.toNat:Int)=d by omega,show(k.toNat:Int)=k by omega] at this
 simpa only[v0] using this
theorem VB (h:jK p=true) (k:Int) (up:Bool):jK (lZ p k up)=true/\(lZ p k up).fo=p.fo:=by
 rw[lZ,h]
 cases hk:inR k 0 (p.fo-1)
 .exact⟨h,rfl⟩
 have hk:=bO.1 hk
 have hp:=kj h
 simp only[jK,v0] at h
 have hm:=Qg (c:=p.fo.toNat) oaa (d:=p.fj) (k:=k) (by rw[show(p.fo.toNat:Int)=p.fo by omega];exact h.2) oaa
 rw[show(p.fo.toNat:Int)=p.fo by omega] at hm
 simp only[ace,jK,v0,au]
 exact⟨⟨h.1,by cases up;exact hm.2.2;exact hm.2.1⟩,trivial⟩
def wt (a b:Int):Int:=abW (WR (ed 17 [a,b]*ed 17 [a,b])) 2147483647
theorem wt_s (a b:Int):i7 a b=some (wt a b):=by simp[i7,eu,wt]
theorem wt_i (a b:Int):ol a b=some (wt a b):=by simp[ol,et,wt]
theorem wt_nn (a b:Int):0<=wt a b:=by
 have h:=lu 17 [a,b]
 unfold hM at h
 have h2:0<=ed 17 [a,b]*ed 17 [a,b]:=Int.mul_nonneg h.1 h.1
 have h3:ed 17 [a,b]*ed 17 [a,b]<=2147483647*2147483647:=Int.mul_le_mul oaa oaa h.1 oaa
 rw[wt,bK oaa]
 exact Int.tmod_nonneg _ h2
def z1 (p:bN) (i v:Int) (k:Int):Int:=bif uw p k&&(ltB v 0||ltB (wt v i) (wt k i)) then k else v
def Sk (p:bN) (i:Int):Nat->Nat->Int->Int
 |0,_,v=>v
 |c+1,k,v=>Sk p i c (k+1) (z1 p i v k)
def sel (p:bN) (i:Int):Int:=Sk p i p.fo.toNat 0 (-1)
theorem JB {p:bN} (h:jK p=true) (i:Int):∀(c k fu:Nat) (v:Int),k+c=p.fo.toNat->c<fu->iter (lT p i) fu (v,(k:Int))=some (Sk p i c k v)
 |0,k,fu,v,h1,h2=>by
  have hp:=kj h
  cases fu with
  |zero=>omega
  |succ fu=>rw[iter];simp[lT,ltB_f.2 (show p.fo<=(k:Int) by omega),Sk]
 |c+1,k,fu,v,h1,h2=>by
  have hp:=kj h
  cases fu with
  |zero=>omega
  |succ fu=>
   have hc:(bif ltB (k:Int) p.fo then some (ltB (k:Int) 6) else some false)=some true:=by rw[ltB_t.2 (show(k:Int)<p.fo by omega),ltB_t.2 (show(k:Int)<6 by omega)];rfl
   have hs:(abU (bif uw p k then(bif ltB v 0 then some true else some (ltB (wt v i) (wt k i))) else some false) λ(v12:Bool)=>abU (bif v12 then some (k:Int) else some v) λ(v15:Int)=>some (cq.next (ρ:=Int) (v15,WR ((k:Int)+1))))=some (.next (z1 p i v k,((k+1:Nat):Int))):=by
    rw[nN oaa,z1]
    cases uw p k<;>cases ltB v 0<;>cases ltB (wt v i) (wt k i)<;>rfl
   rw[iter]
   simp only[lT,hc,QS,wt_s,hs,au]
   exact JB h i c (k+1) fu _ oaa oaa
def J7 (i v:Int):Int:=bif ltB v 0 then-1 else wt v i
theorem JA {p:bN} (h:jK p=true) (i:Int):∀(c k fu:Nat) (v:Int),k+c=p.fo.toNat->c<fu->iter (jv p i) fu (v,J7 i v,(k:Int))=some (Sk p i c k v)
 |0,k,fu,v,h1,h2=>by
  have hp:=kj h
  cases fu with
  |zero=>omega
  |succ fu=>rw[iter];simp[jv,ltB_f.2 (show p.fo<=(k:Int) by omega),Sk]
 |c+1,k,fu,v,h1,h2=>by
  have hp:=kj h
  cases fu with
  |zero=>omega
  |succ fu=>
   have hs:jv p i (v,J7 i v,(k:Int))=some (.next (z1 p i v k,J7 i (z1 p i v k),((k+1:Nat):Int))):=by
    simp only[jv,ltB_t.2 (show(k:Int)<p.fo by omega),QR,wt_i,WRs (k:=k),z1,au]
    have hw:=wt_nn k i
    have hk:J7 i (k:Int)=wt k i:=by rw[J7,ltB_f.2 (show(0:Int)<=k by omega)];rfl
    have hb:ltB (J7 i v) (wt k i)=(ltB v 0||ltB (wt v i) (wt k i)):=by
     rw[J7];cases ltB v 0
     .rfl
     simp only[cond_true,Bool.true_or];exact ltB_t.2 oaa
    rw[hb]
    cases uw p k<;>cases ltB v 0||ltB (wt v i) (wt k i)<;>simp[hk]
   rw[iter,hs]
   exact JA h i c (k+1) fu _ oaa oaa
theorem Yo (h:jK p=true) (i:Int):mA p i=some (sel p i):=by
 have hp:=kj h
 have:=JB h i p.fo.toNat 0 FU (-1) oaa (by have:=gW;omega)
 rw[show((0:Nat):Int)=0 from rfl] at this
 rw[mA,this];rfl
theorem Yn (h:jK p=true) (i:Int):pP p i=some (sel p i):=by
 have hp:=kj h
 have:=JA h i p.fo.toNat 0 FU (-1) oaa (by have:=gW;omega)
 rw[show((0:Nat):Int)=0 from rfl,show J7 i (-1)= -1 from by simp[J7,ltB]] at this
 simp only[pP,KR,h,this,sel,au]
def At (p q:bN):Nat->Nat->List ah->List ah
 |0,_,l=>l
 |c+1,i,l=>At p q c (i+1) (bif eqB (sel p i) (sel q i) then l else match l[i]? with
  |some s=>l.set i (lB s)
  |none=>l)
def pU (n:ab) (k:Int) (up:Bool):Bool×ab:=
 let q:=lZ n.ef k up
 bif !inR k 0 (n.ef.fo-1)||(booB (uw n.ef k) up||eqB q.fj 0) then(false,n) else(true,{n with aF:=At n.ef q n.aF.length 0 n.aF,ef:=q})
theorem rQ (p q:bN):∀(c i:Nat) (l:List ah) (j:Nat),(At p q c i l)[j]?=l[j]?\/∃s,l[j]?=some s/\(At p q c i l)[j]?=some (lB s)
 |0,i,l,j=>.inl rfl
 |c+1,i,l,j=>by
  rw[At]
  cases eqB (sel p i) (sel q i)
  .simp only[cond_false]
   cases hi:l[i]? with
   |none=>exact rQ p q c (i+1) l j
   |some s=>
    simp only
    by_cases e:i=j
    .subst e
     have hg:(l.set i (lB s))[i]?=some (lB s):=by simp[(aab.1 hi).1]
     rcases rQ p q c (i+1) (l.set i (lB s)) i with h|⟨t,h1,h2⟩
     .exact .inr ⟨s,hi,by rw[h,hg]⟩
     rw[hg] at h1;cases h1;exact .inr ⟨s,hi,h2⟩
    have hg:(l.set i (lB s))[j]?=l[j]?:=by rw[abJ,if_neg e]
    rcases rQ p q c (i+1) (l.set i (lB s)) j with h|⟨t,h1,h2⟩
    .exact .inl (by rw[h,hg])
    exact .inr ⟨t,by rw[<-hg];exact h1,h2⟩
  exact rQ p q c (i+1) l j
theorem IY (p q:bN):∀(c i:Nat) (l:List ah),(At p q c i l).length=l.length
 |0,i,l=>rfl
 |c+1,i,l=>by
  rw[At,IY]
  cases eqB (sel p i) (sel q i)
  .simp only[cond_false];cases l[i]?<;>simp
  rfl
theorem Gi {L:Int×List ah->Option (cq (Int×List ah) (List ah))} {p q:bN} (N:Nat)
 (hL:∀(i:Nat) (l:List ah),l.length=N->(i<N->(∀s∈l,dU s)->L ((i:Int),l)=some (.next (((i+1:Nat):Int),bif eqB (sel p i) (sel q i) then l else match l[i]? with|some s=>l.set i (lB s)|none=>l)))/\(N<=i->L ((i:Int),l)=some (.done l))):
 ∀(c i fu:Nat) (l:List ah),i+c=N->l.length=N->(∀s∈l,dU s)->c<fu->iter L fu ((i:Int),l)=some (At p q c i l)
 |0,i,fu,l,h1,h2,h3,h4=>by
  cases fu with
  |zero=>omega
  |succ fu=>rw[iter,(hL i l h2).2 oaa];rfl
 |c+1,i,fu,l,h1,h2,h3,h4=>by
  cases fu with
  |zero=>omega
  |succ fu=>
   rw[iter,(hL i l h2).1 oaa h3,At]
   simp only
   refine Gi N hL c (i+1) fu _ oaa ?_ (λs hs=>?_) oaa
   .cases eqB (sel p i) (sel q i)
    .simp only[cond_false];cases l[i]?<;>simp[h2]
    exact h2
   revert hs
   cases eqB (sel p i) (sel q i)
   .simp only[cond_false]
    cases hi:l[i]? with
    |none=>exact h3 s
    |some t=>
     intro hs
     rcases acT hs with hs|rfl
     .exact h3 s hs
     exact h3 t (aac hi)
   exact h3 s
theorem Nj (h:NP B n) (k:Int) (up:Bool):xf n k up=some (pU n k up)/\(∀e:dh,e.cF=k->eqB e.a8 12=up->sJ n e=some (pU n k up))/\NP B (pU n k up).2:=by
 have hp:=kj h.core
 have hls:=h.ls
 have hq:=VB h.core k up
 have hok:∀s∈n.aF,dU s:=λs hs=>by
  obtain⟨i,hi⟩:=aar hs
  have hlt:=(aab.1 hi).1
  obtain⟨d,s',a,e1,e2,e3,hm⟩:=h.at_ (show i<n.av.length by omega)
  rw[hi] at e2;cases e2;exact hm.sg.sp.ok
 have hl4:=h.ld
 have r1:=Gi (L:=p3 n (lZ n.ef k up)) (p:=n.ef) (q:=lZ n.ef k up) n.aF.length (λi l hl=>⟨λhi hl3=>by
  obtain⟨s,hs⟩:∃s,l[i]?=some s:=⟨_,aaa oaa⟩
  simp only[p3,hl,cy hi,Yo h.core,Yo hq.1,bu,hs,YU (hl3 s (aac hs)),abY,WRs (k:=i),au]
  cases eqB (sel n.ef i) (sel (lZ n.ef k up) i)<;>rfl,λhi=>by
  simp only[p3,hl,ltB_f.2 (show(n.aF.length:Int)<=(i:Int) by omega),cond_false]⟩) n.aF.length 0 FU n.aF oaa rfl hok (by have:=gW;omega)
 have r2:=Gi (L:=kN n (lZ n.ef k up)) (p:=n.ef) (q:=lZ n.ef k up) n.aF.length (λi l hl=>⟨λhi hl3=>by
  obtain⟨s,hs⟩:∃s,l[i]?=some s:=⟨_,aaa oaa⟩
  simp only[kN,cy hi,Yn h.core,Yn hq.1,bu,hs,YT (hl3 s (aac hs)),abY,WRs (k:=i),au]
  cases eqB (sel n.ef i) (sel (lZ n.ef k up) i)<;>rfl,λhi=>by
  simp only[kN,ltB_f.2 (show(n.aF.length:Int)<=(i:Int) by omega),cond_false]⟩) n.aF.length 0 FU n.aF oaa rfl hok (by have:=gW;omega)
 rw[show((0:Nat):Int)=0 from rfl] at r1 r2
 refine⟨?_,λe he hu=>?_,?_⟩
 .simp only[xf,XJ,fS,QS,r1,abX,bK (n:=n.ef.fo-1) oaa,pU]
  cases inR k 0 (n.ef.fo-1)<;>cases booB (uw n.ef k) up<;>cases eqB (lZ n.ef k up).fj 0<;>rfl
 .simp only[sJ,he,hu,XI,gv,QR,r2,abX,bK (n:=n.ef.fo-1) oaa,pU]
  cases inR k 0 (n.ef.fo-1)<;>cases booB (uw n.ef k) up<;>cases eqB (lZ n.ef k up).fj 0<;>rfl
 simp only[pU]
 cases hb:!inR k 0 (n.ef.fo-1)||(booB (uw n.ef k) up||eqB (lZ n.ef k up).fj 0)
 .simp only[aao] at hb
  refine {h with core:=hq.1,up:=H6 hb.2.2,ls:=by simp only[cond_false];rw[IY];exact hls,m:=λi d s a hd hs ha=>?_}
  simp only[cond_false] at hd hs ha ⊢
  rcases rQ n.ef (lZ n.ef k up) n.aF.length 0 n.aF i with e|⟨t,e1,e2⟩
  .rw[e] at hs;exact h.m i d s a hd hs ha
  rw[e2] at hs;cases hs
  have hm:=h.m i d t a hd e1 ha
  exact⟨hm.dp,hm.dc,Vt hm.sg,hm.sc,hm.si,hm.ids⟩
 exact h
theorem Qy:eqB 3 2=false:=by simp[eqB]
theorem QA:eqB 4 2=false:=by simp[eqB]
theorem QB:eqB 4 3=false:=by simp[eqB]
theorem QC:eqB 6 5=false:=by simp[eqB]
theorem QD:eqB 7 5=false:=by simp[eqB]
theorem QE:eqB 7 6=false:=by simp[eqB]
theorem MR:eqB 8 5=false:=by simp[eqB]
theorem MS:eqB 8 6=false:=by simp[eqB]
theorem MT:eqB 8 7=false:=by simp[eqB]
theorem Qz:eqB 3 4=false:=by simp[eqB]
theorem Qx:eqB 2 3=false:=by simp[eqB]
structure EP (e:dh):Prop where
 d:okB e.bg
 f:jD e.bS
 r:okB e.bS.cz.bz.bg
def tM (n:ab) (e:dh):Bool×ab:=
 bif !inR e.cF 0 ((n.aK.length:Int)-1) then(false,n) else
 bif eqB e.a8 2 then(true,hU n e.cF.toNat) else
 bif eqB e.a8 3 then(true,Ku (hP n e.cF.toNat)) else
 bif leB 200 (n.aK.length:Int) then(false,n) else match n.aK[e.cF.toNat]? with
  |none=>(true,n)
  |some f=>(true,fm n f)
theorem L7 (h:NP B n) (e:dh) (hk:e.a8=2\/e.a8=3\/e.a8=4) (hB:B+1<4611686018427387904):
 xe n e=some (tM n e)/\ov n e=some (tM n e)/\NP (B+1) (tM n e).2:=by
 have hfl:=h.fl
 simp only[xe,fS,ov,gv,tM,bK (n:=(n.aK.length:Int)-1) oaa,abX]
 cases hr:inR e.cF 0 ((n.aK.length:Int)-1)
 .exact⟨rt,rt,h.mono oaa⟩
 have hr:=bO.1 hr
 obtain⟨k,hk'⟩:∃k:Nat,e.cF=k:=⟨e.cF.toNat,by omega⟩
 have hlt:k<n.aK.length:=by omega
 obtain⟨f,hf⟩:∃f,n.aK[k]?=some f:=⟨_,aaa hlt⟩
 have hp:=h.fs f (aac hf)
 simp only[hk',abY,Rk h hlt,QW h.fl hf,Ch hp.ok,IS h hlt,QV h.fl hf,Cg hp.ok,bu,hf,au]
 rcases hk with e2|e2|e2<;>rw[e2]<;>simp only[Qy,QA,QB,QC,QD,QE,MR,MS,MT,Qz,Qx,bw,au]
 .exact⟨rt,rt,wh h k hB⟩
 .exact⟨rt,rt,Kv (Fg h k) oaa⟩
 cases leB 200 (n.aK.length:Int)
 .exact⟨rt,rt,Bb h hp oaa⟩
 exact⟨rt,rt,h.mono oaa⟩
def Il (n:ab) (e:dh):Bool×ab:=
 bif !inR e.cF 0 ((n.av.length:Int)-1) then(false,n) else match n.av[e.cF.toNat]?,n.aF[e.cF.toNat]? with
  |some d,some s=>
   bif eqB e.a8 5 then(bif !eqB d.bj 0 then(false,n) else(true,gh n e.cF.toNat (dOn d))) else
   bif eqB e.a8 6 then(bif eqB e.be d.be||!eO n.eo e.be then(false,n) else(true,gh n e.cF.toNat (sr d e.be))) else
   bif eqB e.a8 7 then(bif !eqB d.bj 2 then(false,n) else(true,{n with av:=n.av.set e.cF.toNat (vb d)})) else
   bif(tm s e.bg).2 then(true,{n with aF:=n.aF.set e.cF.toNat (tm s e.bg).1}) else(false,n)
  |_,_=>(false,n)
theorem N1 (d:aJ):(vb d).df=d.df/\(vb d).be=d.be:=by
 rw[vb];cases eqB d.bj 2<;>exact⟨rfl,rfl⟩
theorem U1 (h:NP B n) (e:dh) (he:EP e) (hk:e.a8=5\/e.a8=6\/e.a8=7\/e.a8=8) (hB:B+1<4611686018427387904):
 Fx n e=some (Il n e)/\mZ n e=some (Il n e)/\NP (B+1) (Il n e).2:=by
 have hl:=h.ld
 have hm6:=mR h.map
 have hnm:NP (B+1) n:=h.mono oaa
 simp only[Fx,fS,mZ,gv,wc (show n.eo.aX.length<=1048576 by omega),Il,bK (n:=(n.av.length:Int)-1) oaa,bK (n:=(n.eo.aX.length:Int)-1) oaa,abX]
 cases hr:inR e.cF 0 ((n.av.length:Int)-1)
 .exact⟨rt,rt,hnm⟩
 have hr:=bO.1 hr
 obtain⟨k,hk'⟩:∃k:Nat,e.cF=k:=⟨e.cF.toNat,by omega⟩
 have hlt:k<n.av.length:=by omega
 obtain⟨d,s,a,e1,e2,e3,hm⟩:=h.at_ hlt
 have l1:=(N2 d).len
 have l2:(sr d e.be).db.length<=1:=by rcases LX d e.be with h|h;exact h.len;exact h.2.len
 simp only[hk',abY,bu,e1,e2,on_s hm.dp.ok,Zk hm.dp.ok hm.dp.ep,Y1 hm.dp.ok,Yr hm.sg.sp.ok,yU hlt (show(dOn d).db.length<=1048576 by omega),yU hlt (show(sr d e.be).db.length<=1048576 by omega),on_i hm.dp.ok,Zj hm.dp.ok hm.dp.ep,Y0 hm.dp.ok,sub_i hm.sg.sp.ok,yT hlt (show(dOn d).db.length<=1048576 by omega),yT hlt (show(sr d e.be).db.length<=1048576 by omega),au]
 try rw[show inR e.be 0 ((n.eo.aX.length:Int)-1)=eO n.eo e.be from rfl]
 rcases hk with e4|e4|e4|e4<;>rw[e4]<;>simp only[Qy,QA,QB,QC,QD,QE,MR,MS,MT,Qz,Qx,bw,au]
 .cases eqB d.bj 0
  .exact⟨rt,rt,hnm⟩
  exact⟨rt,rt,nB h e1 (N2 d) (YM hm.dp) hm.dc hB⟩
 .cases hx:eqB e.be d.be<;>cases hy:eO n.eo e.be<;>try exact⟨rt,rt,hnm⟩
  refine⟨rt,rt,?_⟩
  have hc:=bO.1 (show inR e.be 0 ((n.eo.aX.length:Int)-1)=true from hy)
  rcases LX d e.be with h'|h'
  .exact nB h e1 h' (LY hm.dp _) hm.dc hB
  exact nB h e1 h'.2 (LY hm.dp _) oaa hB
 .cases eqB d.bj 2
  .exact⟨rt,rt,hnm⟩
  refine⟨rt,rt,NP.mono (B:=B) ?_ oaa⟩
  have hik:=N1 d
  refine h.setD e2 e3 ⟨TA hm.dp,by rw[hik.2];exact hm.dc,hm.sg,hm.sc,hm.si,?_⟩
  have:=hm.ids
  simp only[GE,hik.1] at this ⊢;exact this
 cases hb:(tm s e.bg).2
 .have hs:(tm s e.bg).1=s:=by
   revert hb;rw[tm];cases leB 24 (s.aM.length:Int)||ltB 60 (e.bg.length:Int)
   .intro hb;cases hb
   intro _;rfl
  refine⟨?_,rt,hnm⟩
  first|trivial|(rw[hs,gR e2];rfl)
 refine⟨rt,rt,NP.mono (B:=B) ?_ oaa⟩
 have hg:=XF hm.sg he.d
 refine h.setS e1 e3 ⟨hm.dp,hm.dc,hg,?_,?_,?_⟩
 all_goals
  rw[tm]
  cases leB 24 (s.aM.length:Int)||ltB 60 (e.bg.length:Int)
 .exact hm.sc
 .exact hm.sc
 .exact hm.si
 .exact hm.si
 .exact hm.ids
 exact hm.ids
def GT (n:ab) (c:Int) (up:Bool):Bool×ab:=
 bif !eO n.eo c||booB (A7 n c) up then(false,n) else(true,{n with dv:=J5 .i64 n.dv (lJ .i64 1 c)})
theorem Re (h:NP B n) (e:dh):
 CT n e.cF (eqB e.a8 10)=some (GT n e.cF (eqB e.a8 10))/\wy n e=some (GT n e.cF (eqB e.a8 10))/\NP B (GT n e.cF (eqB e.a8 10)).2:=by
 have hm6:=mR h.map
 simp only[CT,fS,Uo hm6,wy,wc (show n.eo.aX.length<=1048576 by omega),Un hm6,GT,bK (n:=(n.eo.aX.length:Int)-1) oaa,abX]
 try rw[show inR e.cF 0 ((n.eo.aX.length:Int)-1)=eO n.eo e.cF from rfl]
 cases hc:eO n.eo e.cF
 .exact⟨rt,rt,h⟩
 have hi:=bO.1 (show inR e.cF 0 ((n.eo.aX.length:Int)-1)=true from hc)
 rw[leB_t.2 hi.1]
 cases booB (A7 n e.cF) (eqB e.a8 10)
 .exact⟨rt,rt,{h with dn:=(Qg hm6.2 h.dn oaa).1}⟩
 exact⟨rt,rt,h⟩
def Cl (n:ab) (f:bF):Bool:=ltB (n.aK.length:Int) 200&&(inR f.bk 0 ((n.av.length:Int)-1)&&eO n.eo f.be)
def Ba (n:ab) (f:bF):Bool×ab:=bif !Cl n f then(false,n) else(true,fm n f)
theorem Oe (h:NP B n) (e:dh) (he:EP e) (hB:B<4611686018427387904):
 (abU (jW n e.bS) λr13=>bif !r13 then(some (false,n)) else(abU (gk n e.bS) λr14=>some (true,r14)))=some (Ba n e.bS)/\Om n e.bS=some (Ba n e.bS)/\NP (B+1) (Ba n e.bS).2:=by
 have hm6:=mR h.map
 have hl:=h.ld
 simp only[jW,fS,Ch he.f,Om,gv,wc (show n.eo.aX.length<=1048576 by omega),Cg he.f,Ba,Cl,bK (n:=(n.eo.aX.length:Int)-1) oaa,bK (n:=(n.av.length:Int)-1) oaa,abX]
 try rw[show inR e.bS.be 0 ((n.eo.aX.length:Int)-1)=eO n.eo e.bS.be from rfl]
 try rw[show leB 200 (n.aK.length:Int)=!ltB (n.aK.length:Int) 200 by simp only[leB,ltB];rw[abZ];simp]
 cases h1:ltB (n.aK.length:Int) 200<;>cases h2:inR e.bS.bk 0 ((n.av.length:Int)-1)<;>cases h3:eO n.eo e.bS.be<;>try exact⟨rt,rt,h.mono oaa⟩
 have hd:=bO.1 h2
 have hc:=bO.1 (show inR e.bS.be 0 ((n.eo.aX.length:Int)-1)=true from h3)
 exact⟨rt,rt,Bb h ⟨by omega,by omega,he.r,he.f⟩ oaa⟩
def jC (n:ab) (e:dh):Bool×ab:=
 if e.a8=1 then GU n else
 if e.a8=2\/e.a8=3\/e.a8=4 then tM n e else
 if e.a8=5\/e.a8=6\/e.a8=7\/e.a8=8 then Il n e else
 if e.a8=9\/e.a8=10 then GT n e.cF (eqB e.a8 10) else
 if e.a8=11\/e.a8=12 then pU n e.cF (eqB e.a8 12) else
 if e.a8=13 then Ba n e.bS else(false,n)
theorem AS (h:NP B n) (he:EP e) (hB:B+10000<4611686018427387904):
 z8 n e=some (jC n e)/\tG n e=some (jC n e)/\NP (B+10000) (jC n e).2:=by
 rw[jC,z8,tG]
 by_cases h1:e.a8=1
 .rw[if_pos h1,h1]
  have:=Sy h hB
  simp only[bw,this.1,this.2.1,au]
  exact⟨rt,rt,this.2.2⟩
 rw[if_neg h1]
 have n1:eqB e.a8 1=false:=by simpa [eqB] using h1
 by_cases h2:e.a8=2\/e.a8=3\/e.a8=4
 .rw[if_pos h2]
  have:=L7 h e h2 oaa
  have hb':(bif eqB e.a8 2 then(some (eqB e.a8 2)) else(abU (bif eqB e.a8 3 then(some (eqB e.a8 3)) else(some (eqB e.a8 4))) λ(v3:Bool)=>some v3))=some true:=by
   rcases h2 with e|e|e<;>rw[e]<;>simp only[Qy,QA,QB,QC,QD,QE,MR,MS,MT,Qz,Qx,bw,au]<;>rfl
  rw[n1,hb']
  simp only[this.1,this.2.1,au]
  exact⟨rt,rt,this.2.2.mono oaa⟩
 rw[if_neg h2]
 have hb':(bif eqB e.a8 2 then(some (eqB e.a8 2)) else(abU (bif eqB e.a8 3 then(some (eqB e.a8 3)) else(some (eqB e.a8 4))) λ(v3:Bool)=>some v3))=some false:=by
  rw[show eqB e.a8 2=false by simp[eqB];omega,show eqB e.a8 3=false by simp[eqB];omega,show eqB e.a8 4=false by simp[eqB];omega];rfl
 rw[n1,hb']
 simp only[au]
 by_cases h3:e.a8=5\/e.a8=6\/e.a8=7\/e.a8=8
 .rw[if_pos h3]
  have:=U1 h e he h3 oaa
  have hb3:(bif eqB e.a8 5 then(some (eqB e.a8 5)) else(abU (bif eqB e.a8 6 then(some (eqB e.a8 6)) else(abU (bif eqB e.a8 7 then(some (eqB e.a8 7)) else(some (eqB e.a8 8))) λ(v7:Bool)=>some v7)) λ(v6:Bool)=>some v6))=some true:=by
   rcases h3 with e|e|e|e<;>rw[e]<;>simp only[Qy,QA,QB,QC,QD,QE,MR,MS,MT,Qz,Qx,bw,au]<;>rfl
  rw[hb3]
  simp only[this.1,this.2.1,au]
  exact⟨rt,rt,this.2.2.mono oaa⟩
 rw[if_neg h3]
 have hb3:(bif eqB e.a8 5 then(some (eqB e.a8 5)) else(abU (bif eqB e.a8 6 then(some (eqB e.a8 6)) else(abU (bif eqB e.a8 7 then(some (eqB e.a8 7)) else(some (eqB e.a8 8))) λ(v7:Bool)=>some v7)) λ(v6:Bool)=>some v6))=some false:=by
  rw[show eqB e.a8 5=false by simp[eqB];omega,show eqB e.a8 6=false by simp[eqB];omega,show eqB e.a8 7=false by simp[eqB];omega,show eqB e.a8 8=false by simp[eqB];omega];rfl
 rw[hb3]
 simp only[au]
 by_cases h4:e.a8=9\/e.a8=10
 .rw[if_pos h4]
  have:=Re h e
  have hb4:(bif eqB e.a8 9 then(some (eqB e.a8 9)) else(some (eqB e.a8 10)))=some true:=by rcases h4 with e|e<;>rw[e]<;>simp[eqB]
  rw[hb4]
  simp only[this.1,this.2.1,au]
  exact⟨rt,rt,this.2.2.mono oaa⟩
 rw[if_neg h4]
 have hb4:(bif eqB e.a8 9 then(some (eqB e.a8 9)) else(some (eqB e.a8 10)))=some false:=by
  rw[show eqB e.a8 9=false by simp[eqB];omega,show eqB e.a8 10=false by simp[eqB];omega];rfl
 rw[hb4]
 simp only[au]
 by_cases h5:e.a8=11\/e.a8=12
 .rw[if_pos h5]
  have:=Nj h e.cF (eqB e.a8 12)
  have hb5:(bif eqB e.a8 11 then(some (eqB e.a8 11)) else(some (eqB e.a8 12)))=some true:=by rcases h5 with e|e<;>rw[e]<;>simp[eqB]
  rw[hb5]
  simp only[this.1,this.2.1 e rfl rfl,au]
  exact⟨rt,rt,this.2.2.mono oaa⟩
 rw[if_neg h5]
 have hb5:(bif eqB e.a8 11 then(some (eqB e.a8 11)) else(some (eqB e.a8 12)))=some false:=by
  rw[show eqB e.a8 11=false by simp[eqB];omega,show eqB e.a8 12=false by simp[eqB];omega];rfl
 rw[hb5]
 simp only[au]
 by_cases h6:e.a8=13
 .rw[if_pos h6,h6]
  have:=Oe h e he oaa
  simp only[bw,this.1,this.2.1,au]
  exact⟨rt,rt,this.2.2.mono oaa⟩
 rw[if_neg h6,show eqB e.a8 13=false by simpa [eqB] using h6]
 exact⟨rt,rt,h.mono oaa⟩
structure BY (n:ab):Prop where
 d1:∀d∈n.av,∀x∈d.bV.aC,okB x.bg
 d2:∀d∈n.av,∀p∈d.bV.bi,okB p.bg
 s1:∀s∈n.aF,∀p∈s.aM,okB p.bg
 s2:∀s∈n.aF,∀x∈s.ax.aw,okB x.bg
 f:∀f∈n.aK,okB f.cz.bz.bg
theorem NP.of (ok:g8 n) (v:mJ n=true) (b:BY n):NP n.jr n:=by
 simp only[mJ,AY,v0,bO,eJ,aah,flB] at v
 obtain⟨v1,v2,v3,v4,v5,v6,v7,v8,v9,v10,v11,v12⟩:=v
 have v4:=Am v4
 have v5:=zP v5
 have v6:=zP v6
 have v8:=Am v8
 have v12:=Am v12
 refine⟨v1,ok.1,v2,H6 (by simpa using v3),by omega,v5,v6,λi d s a hd hs ha=>?_,by omega,λf hf=>?_,bO.2 v10,v11,⟨v12,by omega⟩⟩
 .have:=v7 i d hd
  simp only[wM,hs,ha,v0] at this
  obtain⟨m1,m2,m3,m4,m5,m6,m7,m8⟩:=this
  have hdm:=aac hd
  have hsm:=aac hs
  have c1:=bO.1 (show inR d.be 0 ((n.eo.aX.length:Int)-1)=true from m5)
  have c2:=bO.1 (show inR s.be 0 ((n.eo.aX.length:Int)-1)=true from m6)
  exact⟨DP.of m1 (ok.2.1.2 d hdm) (b.d1 d hdm) (b.d2 d hdm),by omega,⟨(vI (ok.2.2.1.2 s hsm)).1 m2,b.s1 s hsm,b.s2 s hsm,rU.1 m8⟩,by omega,mc m7,m4⟩
 have:=v9 f hf
 have c2:=bO.1 (show inR f.be 0 ((n.eo.aX.length:Int)-1)=true from this.2)
 exact⟨by omega,by omega,b.f f hf,ok.2.2.2.2.2 f hf⟩
theorem NP.okN (h:NP B n):g8 n:=by
 have h1:=h.ld
 have h2:=h.ls
 have h3:=h.la
 have h4:=h.fl
 refine⟨h.mok,⟨by omega,λd hd=>?_⟩,⟨by omega,λs hs=>?_⟩,⟨by omega,λa ha=>?_⟩,⟨by omega,λf hf=>(h.fs f hf).ok⟩⟩
 .obtain⟨i,hi⟩:=aar hd
  have hlt:=(aab.1 hi).1
  obtain⟨d',s,a,e1,e2,e3,hm⟩:=h.at_ hlt
  rw[hi] at e1;cases e1;exact hm.dp.ok
 .obtain⟨i,hi⟩:=aar hs
  have hlt:=(aab.1 hi).1
  obtain⟨d',s,a,e1,e2,e3,hm⟩:=h.at_ (show i<n.av.length by omega)
  rw[hi] at e2;cases e2;exact hm.sg.sp.ok
 obtain⟨i,hi⟩:=aar ha
 have hlt:=(aab.1 hi).1
 obtain⟨d',s,a,e1,e2,e3,hm⟩:=h.at_ (show i<n.av.length by omega)
 rw[hi] at e3;cases e3;exact hm.sg.mo.acc.ok
theorem NP.vn (h:NP B n):mJ n=true:=by
 have h1:=h.ld
 have h2:=h.ls
 have h3:=h.la
 have h4:=h.fl
 have h5:=h.lo
 have hu:eqB n.ef.fj 0=false:=by simpa [eqB] using h.up
 simp only[mJ,AY,v0,bO,eJ,aah,flB]
 refine⟨h.map,h.core,by simp[hu],leB_t.2 oaa,eqB_t.2 oaa,eqB_t.2 oaa,λi d hd=>?_,leB_t.2 oaa,λf hf=>?_,bO.1 h.dn,h.nw,leB_t.2 h5.1⟩
 .obtain⟨d',s,a,e1,e2,e3,hm⟩:=h.at_ (aab.1 hd).1
  rw[hd] at e1;cases e1
  have hc:=hm.dp.ce
  have hsc:=hm.sg.sp
  simp only[wM,e2,e3,v0]
  exact⟨hm.dp.v,(vI hm.sg.sp.ok).2 hm.sg.sp,zG.2 hm.sg.mo.acc,hm.ids,bO.2 (by have:=hm.dc;omega),bO.2 (by have:=hm.sc;have:=hsc.ce;omega),eqB_t.2 hm.si,rU.2 hm.sg.mo⟩
 have hf:=h.fs f hf
 exact⟨by have:=hf.d;omega,bO.2 (by have:=hf.c;omega)⟩
theorem WU (h:NP B n) (he:EP e) (hB:B+10000<4611686018427387904):p7 n e=some (bif(jC n e).1 then((jC n e).2,true) else(n,false)):=by
 have:=(AS h he hB).2.1
 simp only[p7,Ox h.okN,zW h.okN,h.vn,this,au]
 cases(jC n e).1<;>rfl
open Go.Proofs
theorem J0 (x:Int) (m:Nat) (hm:m<9223372036854775808):0<=AT .i64 x (m:Int)/\AT .i64 x (m:Int)<=m:=by
 unfold AT
 have h1:(BitVec.ofInt IntKind.i64.bits x&&& BitVec.ofInt IntKind.i64.bits (m:Int)).toNat<=m:=by
  rw[BitVec.toNat_and]
  refine Nat.le_trans Nat.and_le_right ?_
  show(BitVec.ofInt 64 (m:Int)).toNat<=m
  rw[BitVec.toNat_ofInt]
  omega
 rw[Lw oaa]
 omega
structure dO (c:bm):Prop where
 l:c.fb.length<=1048576
 u:∀x∈c.fb,wN x
 a:0<=c.fi
 b:c.fi<=c.fb.length
theorem BF {c:bm} (h:dO c):∃v c',ug c=some (v,c')/\0<=v/\v<=255/\dO c':=by
 unfold ug
 have:=h.l
 have ha:=h.a
 have hb:=h.b
 by_cases hi:c.fi<c.fb.length
 .obtain⟨x,hx,e⟩:=Uq h.a hi
  rw[show ltB c.fi (c.fb.length:Int)=true from by simp[ltB,hi]]
  simp only[e,au]
  refine⟨_,_,rfl,(J0 _ 255 oaa).1,(J0 _ 255 oaa).2,⟨h.l,h.u,?_,?_⟩⟩
  .show 0<=WR (c.fi+1);rw[bK oaa];omega
  show WR (c.fi+1)<=(c.fb.length:Int);rw[bK oaa];omega
 rw[show ltB c.fi (c.fb.length:Int)=false from by simp[ltB];omega]
 simp only[au]
 exact⟨_,_,rfl,(J0 _ 255 oaa).1,(J0 _ 255 oaa).2,⟨h.l,h.u,h.a,h.b⟩⟩
theorem Fz {v n:Int} (hv:0<=v) (hn:0<n):0<=abW v n/\abW v n<n:=by
 rw[ab0 hv]
 exact⟨Int.emod_nonneg _ oaa,Int.emod_lt_of_pos _ hn⟩
theorem LL {c:bm} (h:dO c) {n:Int} (hn:1<=n):∃v c',cI c n=some (v,c')/\0<=v/\v<n/\dO c':=by
 unfold cI
 rw[show leB n 0=false from by simp[leB];omega]
 have hz:(!eqB n 0)=true:=by simp[eqB];omega
 simp only[hz,au]
 by_cases h2:n<=256
 .rw[show leB n 256=true from by simp[leB,h2]]
  obtain⟨v,c',e,h0,h1,hc⟩:=BF h
  have:=Fz h0 (show 0<n by omega)
  simp only[e,au]
  exact⟨_,_,rfl,this.1,this.2,hc⟩
 rw[show leB n 256=false from by simp[leB];omega]
 obtain⟨v,c1,e,h0,h1,hc⟩:=BF h
 obtain⟨v2,c2,e2,h02,h12,hc2⟩:=BF hc
 obtain⟨v3,c3,e3,h03,h13,hc3⟩:=BF hc2
 simp only[e,e2,e3,au]
 rw[bK (n:=v*65536) oaa,bK (n:=v2*256) oaa,bK (n:=v*65536+v2*256) oaa,bK (n:=v*65536+v2*256+v3) oaa]
 have:=Fz (v:=v*65536+v2*256+v3) oaa (show 0<n by omega)
 exact⟨_,_,rfl,this.1,this.2,hc3⟩
theorem Xm {c:bm} (h:dO c) {n:Int} (hn:1<=n):∃v c',i9 c n=some (v,c')/\dO c':=by
 obtain⟨v,c',e,_,_,hc⟩:=LL h hn
 exact⟨_,_,by rw[i9,e];rfl,hc⟩
theorem Zq {xs:List Int} (hl:xs.length<=1048576) (hu:∀x∈xs,wN x):∃c,Ld xs=some c/\dO c/\c.fb=xs:=by
 have key:∀(m n k:Nat) (v:Int),m=xs.length-k->k<=xs.length->m<n->∃r,iter (vL xs) n (v,(k:Int))=some r:=by
  intro m
  induction m with
  |zero=>
   intro n k v hm hk hn
   cases n with
   |zero=>omega
   |succ n=>
    have:k=xs.length:=by omega
    subst this
    exact⟨v,by rw[iter];simp[vL]⟩
  |succ m ih=>
   intro n k v hm hk hn
   cases n with
   |zero=>omega
   |succ n=>
    have hlt:k<xs.length:=by omega
    rw[iter]
    simp only[vL,cy hlt,bu,aaa hlt,WRs (k:=k),au]
    cases ltB (k:Int) 4000
    .exact⟨v,rfl⟩
    exact ih n (k+1) _ oaa oaa oaa
 obtain⟨r,hr⟩:=key xs.length FU 0 (WR (193017+(xs.length:Int))) oaa oaa (by have:=gW;omega)
 refine⟨⟨xs,0,r⟩,?_,⟨hl,hu,acM 0,Int.natCast_nonneg _⟩,rfl⟩
 rw[Ld,show iter (vL xs) FU (WR (193017+(xs.length:Int)),0)=some r from hr]
 rfl
theorem em {c:bm} (h:dO c) {n:Int} (hn:1<=n):Wp (cI c n) (λr=>dO r.2/\0<=r.1/\r.1<n):=by
 obtain⟨v,c',e,h0,h1,hc⟩:=LL h hn
 exact Wp.of e ⟨hc,h0,h1⟩
theorem zD {c:bm} (h:dO c) {n:Int} (hn:1<=n):Wp (i9 c n) (λr=>dO r.2):=by
 obtain⟨v,c',e,hc⟩:=Xm h hn
 exact Wp.of e hc
theorem XY {c:bm} (h:dO c) {xs:List Int} (hx:xs≠[]):Wp (Bp c xs) (λr=>dO r.2/\r.1∈xs):=by
 have hl:0<xs.length:=List.length_pos_iff.2 hx
 unfold Bp
 refine Wp.call (em h oaa) λr hr=>?_
 exact Wp.ix hr.2.1 hr.2.2 λx hm _=>Wp.some ⟨hr.1,hm⟩
theorem Wb {c:bm} (h:dO c) {n:Int} (h0:0<=n) (hn:n<=4000):Wp (zm c n) (λr=>dO r.2/\okB r.1/\(r.1.length:Int)=n):=by
 unfold zm
 refine Wp.call (P:=λx=>dO x.2/\okB x.1/\(x.1.length:Int)=n) ?_ λx hx=>Wp.some hx
 refine Wp.iterF (λx=>(0<=x.1/\x.1<=n)/\dO x.2.2/\okB x.2.1/\(x.2.1.length:Int)=x.1) (λx=>(n-x.1).toNat) ⟨⟨by omega,by omega⟩,h,λx hx=>by simp at hx,by simp⟩ (by simp only;have:=gW;omega) ?_
 rintro⟨v1,v5,v6⟩ ⟨⟨i0,i1⟩,i2,i3,i4⟩
 simp only at i0 i1 i2 i3 i4
 simp only[EA]
 refine Wp.cond (λhb=>?_) (λhb=>Wp.some ⟨i2,i3,by have:=px hb;show(v5.length:Int)=n;omega⟩)
 have hb:=lP hb
 obtain⟨b,c',e,b0,b1,hc⟩:=BF i2
 refine Wp.call (Wp.of (Q:=λr=>dO r.2/\0<=r.1/\r.1<=255) e ⟨hc,b0,b1⟩) λr hr=>?_
 refine Wp.ok (gj (by simp;omega) (by simp;omega)) (Wp.some ⟨⟨⟨?_,?_⟩,hr.1,?_,?_⟩,?_⟩)
 all_goals simp only[bK (show-9223372036854775808<=v1+1/\v1+1<=9223372036854775807 by omega)]
 .omega
 .omega
 .intro x hx
  rcases aad.1 hx with hx|hx
  .exact i3 x hx
  simp at hx;subst hx
  have e1:IntKind.u8.wrap r.1=r.1:=by rw[HY];omega
  rw[e1];exact hr.2
 .simp;omega
 omega
theorem La {P:α->Prop} {xs:List α} {a:α} (h:∀x∈xs,P x) (ha:P a):∀x∈xs.set i a,P x:=λx hx=>by
 rcases acT hx with h'|h'
 .exact h x h'
 rw[h'];exact ha
theorem UV {v:List (Int×List Int)} (h1:v.length<=5) (h2:∀e∈v,e.2.length<=1000):f8 (⟨v.map λe=>(⟨e.1,e.2⟩:fr)⟩:aS):=by
 refine⟨by show(v.map _).length<=_;simp;omega,λx hx=>?_⟩
 obtain⟨e,he,rfl⟩:=aa8.1 hx
 exact⟨by have:=h2 e he;show e.2.length<=_;omega,λ_ _=>trivial⟩
theorem wKey {c:bm} (h:dO c):Wp (Bt c) (λr=>dO r.2):=by
 unfold Bt
 exact Wp.call (em h oaa) λr1 h1=>Wp.some h1.1
structure JM (v:List (Int×List Int)):Prop where
 ar:∀e∈v,0<=e.1/\e.1<=1
 rg:∀(i:Nat) e,v[i]?=some e->∀x∈e.2,0<=x/\x<v.length/\x≠i
 sy:∀(i j:Nat) e f,v[i]?=some e->v[j]?=some f->(j:Int)∈e.2->(i:Int)∈f.2
def P5 (v:List (Int×List Int)) (a b:Nat) (x y:Int×List Int):List (Int×List Int):=(v.set a (x.1,x.2++[(b:Int)])).set b (y.1,y.2++[(a:Int)])
theorem Ca {v:List (Int×List Int)} {a b:Nat} {x y:Int×List Int} (hx:v[a]?=some x) (hy:v[b]?=some y) (hab:a≠b) {e':Int×List Int} (h:(P5 v a b x y)[i]?=some e'):
 ∃e,v[i]?=some e/\e'.1=e.1/\∀z,z∈e'.2↔z∈e.2\/(i=a/\z=b)\/(i=b/\z=a):=by
 rcases pM h with⟨e1,e2⟩|⟨e1,e2⟩
 .subst e1;subst e2
  refine⟨y,hy,rfl,λz=>?_⟩
  simp only[aad,ab4]
  refine⟨λh=>?_,λh=>?_⟩
  .rcases h with h|h
   .exact .inl h
   exact .inr (.inr ⟨by trivial,h⟩)
  rcases h with h|h|h
  .exact .inl h
  .exact absurd h.1.symm hab
  exact .inr h.2
 rcases pM e2 with⟨e3,e4⟩|⟨e3,e4⟩
 .subst e3;subst e4
  refine⟨x,hx,rfl,λz=>?_⟩
  simp only[aad,ab4]
  refine⟨λh=>?_,λh=>?_⟩
  .rcases h with h|h
   .exact .inl h
   exact .inr (.inl ⟨by trivial,h⟩)
  rcases h with h|h|h
  .exact .inl h
  .exact .inr h.2
  exact absurd h.1 hab
 refine⟨e',e4,rfl,λz=>⟨.inl,λh=>?_⟩⟩
 rcases h with h|h|h
 .exact h
 .exact absurd h.1.symm e3
 exact absurd h.1.symm e1
theorem Us {v:List (Int×List Int)} (h:JM v) {a b:Nat} {x y:Int×List Int} (hx:v[a]?=some x) (hy:v[b]?=some y) (hab:a≠b):JM (P5 v a b x y):=by
 have ha:=(aab.1 hx).1
 have hb:=(aab.1 hy).1
 have hl:(P5 v a b x y).length=v.length:=by simp[P5]
 refine⟨λe he=>?_,λi e he z hz=>?_,λi j e f he hf hj=>?_⟩
 .obtain⟨i,hi⟩:=aar he
  obtain⟨e0,h0,h1,_⟩:=Ca hx hy hab hi
  rw[h1];exact h.ar e0 (aac h0)
 .obtain⟨e0,h0,h1,h2⟩:=Ca hx hy hab he
  rw[hl]
  rcases(h2 z).1 hz with hz|hz|hz
  .exact h.rg i e0 h0 z hz
  .obtain⟨rfl,rfl⟩:=hz;omega
  obtain⟨rfl,rfl⟩:=hz;omega
 obtain⟨e0,h0,h1,h2⟩:=Ca hx hy hab he
 obtain⟨f0,g0,g1,g2⟩:=Ca hx hy hab hf
 rw[g2]
 rcases(h2 j).1 hj with hz|hz|hz
 .exact .inl (h.sy i j e0 f0 h0 g0 hz)
 .exact .inr (.inr ⟨by omega,by omega⟩)
 exact .inr (.inl ⟨by omega,by omega⟩)
theorem wJoinJ {v:List (Int×List Int)} {a b:Int} {B:Nat} (hB:B<=1000) (hv:∀e∈v,e.2.length<=B) (hj:JM v) (a0:0<=a) (a1:a<v.length) (b0:0<=b) (b1:b<v.length) (hab:a≠b):Wp (vJ v a b) (λr=>(r.length=v.length/\∀e∈r,e.2.length<=B+2)/\JM r):=by
 obtain⟨i,rfl⟩:∃i:Nat,a=i:=⟨a.toNat,by omega⟩
 obtain⟨j,rfl⟩:∃j:Nat,b=j:=⟨b.toNat,by omega⟩
 obtain⟨x,hx⟩:∃x,v[i]?=some x:=⟨_,aaa oaa⟩
 obtain⟨y,hy⟩:∃y,v[j]?=some y:=⟨_,aaa oaa⟩
 have h1:=hv x (aac hx)
 have h2:=hv y (aac hy)
 have hy':(v.set i (x.1,x.2++[(j:Int)]))[j]?=some y:=by rw[abJ,if_neg oaa];exact hy
 unfold vJ
 rw[bu,hx]
 simp only[abX,abY]
 refine Wp.ok (gj (by simp;omega) (by simp;omega)) ?_
 rw[bu,hy']
 simp only[abX]
 refine Wp.ok (gj (by simp;omega) (by simp;omega)) (Wp.some ⟨⟨by simp,La (La (λe he=>by have:=hv e he;omega) (by simp;omega)) (by simp;omega)⟩,?_⟩)
 exact Us hj hx hy oaa
structure RW (n:Int) (e e':Int×List Int):Prop where
 a:e'.1=e.1
 m:∀z,z∈e'.2↔z∈e.2/\(0<=z/\z<n)
 o:e'.2.Pairwise λx y=>x<y
 l:(e'.2.length:Int)<=n
theorem OH {v w:List (Int×List Int)} (h:JM v) (hl:w.length=v.length) (h2:2<=v.length/\v.length<=5) (hw:∀(i:Nat) e,v[i]?=some e->∃e',w[i]?=some e'/\RW v.length e e'):pJ (⟨w.map λe=>(⟨e.1,e.2⟩:fr)⟩:aS)=true:=by
 have hlen:(w.map λe=>(⟨e.1,e.2⟩:fr)).length=v.length:=by simp[hl]
 have get:∀(i:Nat) c,(w.map λe=>(⟨e.1,e.2⟩:fr))[i]?=some c->∃e e',v[i]?=some e/\w[i]?=some e'/\RW v.length e e'/\c=⟨e'.1,e'.2⟩:=by
  intro i c hc
  have hi:=(aab.1 hc).1
  obtain⟨e,he⟩:∃e,v[i]?=some e:=⟨_,aaa oaa⟩
  obtain⟨e',he',hr⟩:=hw i e he
  rw[aaI,he'] at hc
  cases hc;exact⟨e,e',he,he',hr,rfl⟩
 simp only[pJ,v0,bO,eJ,hlen]
 refine⟨by omega,λi c hc=>?_⟩
 obtain⟨e,e',he,he',hr,rfl⟩:=get i c hc
 have har:=h.ar e (aac he)
 simp only[zy,v0,bO,eJ,nbB,eO,hlen]
 refine⟨by rw[hr.a];omega,λk x hx=>?_⟩
 have hm:=aac hx
 have hme:=(hr.m x).1 hm
 have hrg:=h.rg i e he x hme.1
 obtain⟨j,rfl⟩:∃j:Nat,x=j:=⟨x.toNat,by omega⟩
 refine⟨by omega,by have:=hrg.2.2;simpa [eqB] using this,Fp (key:=id) (by simpa using hr.o) hx,?_⟩
 obtain⟨f,hf⟩:∃f,v[j]?=some f:=⟨_,aaa oaa⟩
 obtain⟨f',hf',hrf⟩:=hw j f hf
 have hi:=(aab.1 he).1
 have hs:=h.sy i j e f he hf hme.1
 simp only[BD,abY,aaI,hf',Option.map_some,aaE]
 exact⟨i,(hrf.m i).2 ⟨hs,by omega,by omega⟩,bw _⟩
theorem Z9 {c:bm} (h:dO c):Wp (z6 c) (λr=>dO r.2/\((2<=r.1.length/\r.1.length<=5)/\∀e∈r.1,e.2.length<=200)/\pJ (⟨r.1.map λe=>(⟨e.1,e.2⟩:fr)⟩:aS)=true):=by
 unfold z6
 refine Wp.call (em h oaa) λr1 h1=>?_
 obtain⟨n,hn⟩:∃n:Int,n=WR (2+r1.1):=⟨_,rfl⟩
 have hn1:n=2+r1.1:=by rw[hn,bK oaa]
 refine Wp.call (P:=λx=>dO ⟨x.1,x.2.1,x.2.2.1⟩/\(x.2.2.2.length:Int)=n/\∀a∈x.2.2.2,0<=a/\a<=1) ?_ ?_
 .refine Wp.iterF (λx=>(0<=x.1/\x.1<=n)/\dO ⟨x.2.1,x.2.2.1,x.2.2.2.1⟩/\(x.2.2.2.2.length:Int)=x.1/\∀a∈x.2.2.2.2,0<=a/\a<=1) (λx=>(n-x.1).toNat) ⟨⟨by simp only;omega,by simp only;omega⟩,h1.1,by simp,by simp⟩ (by simp only;omega) ?_
  rintro⟨v2,v3,v4,v5,v6⟩ ⟨⟨i0,i1⟩,i2,i3,i4⟩
  simp only at i0 i1 i2 i3 i4
  simp only[Ev,<-hn]
  refine Wp.cond (λhb=>?_) (λhb=>Wp.some ⟨i2,by have:=px hb;show(v6.length:Int)=n;omega,i4⟩)
  have hb:=lP hb
  refine Wp.call (em i2 oaa) λr12 h12=>Wp.ok (gj (by simp;omega) (by simp;omega)) (Wp.some ⟨⟨⟨?_,?_⟩,h12.1,?_,?_⟩,?_⟩)
  all_goals simp only[bK (show-9223372036854775808<=v2+1/\v2+1<=9223372036854775807 by omega)]
  .omega
  .omega
  .simp;omega
  .intro a ha
   rcases aad.1 ha with ha|ha
   .exact i4 a ha
   simp at ha;subst ha;omega
  omega
 rintro⟨v8,v9,v10,v11⟩ ⟨hc,hl,har⟩
 simp only at hc hl har
 refine Wp.call (P:=λx=>dO ⟨x.1,x.2.1,x.2.2.1⟩/\((x.2.2.2.length:Int)=n/\∀e∈x.2.2.2,e.2.length<=200)/\JM x.2.2.2) ?_ ?_
 .refine Wp.iterF (λx=>(1<=x.1/\x.1<=n)/\dO ⟨x.2.1,x.2.2.1,x.2.2.2.1⟩/\((x.2.2.2.2.length:Int)=n/\∀e∈x.2.2.2.2,e.2.length<=20*x.1.toNat)/\JM x.2.2.2.2) (λx=>(n-x.1).toNat) ⟨⟨by simp only;omega,by simp only;omega⟩,hc,⟨by simpa using hl,by simp⟩,⟨by simpa using har,λi e he x hx=>?_,λi j e f he hf hj=>?_⟩⟩ (by simp only;omega) ?_
  .simp only[aaI] at he
   cases hv:v11[i]?<;>rw[hv] at he<;>cases he;simp at hx
  .simp only[aaI] at he
   cases hv:v11[i]?<;>rw[hv] at he<;>cases he;simp at hj
  rintro⟨v13,v14,v15,v16,v17⟩ ⟨⟨i0,i1⟩,i2,⟨i3,i4⟩,i5⟩
  simp only at i0 i1 i2 i3 i4 i5
  simp only[Ew,<-hn]
  refine Wp.cond (λhb=>?_) (λhb=>Wp.some ⟨i2,⟨i3,λe he=>by have:=i4 e he;show e.2.length<=200;omega⟩,i5⟩)
  have hb:=lP hb
  refine Wp.call (P:=λx=>dO ⟨x.1,x.2.1,x.2.2.1⟩/\((x.2.2.2.length:Int)=n/\∀e∈x.2.2.2,e.2.length<=20*v13.toNat+2*v13.toNat)/\JM x.2.2.2) ?_ ?_
  .refine Wp.iterF (λx=>(0<=x.1/\x.1<=v13)/\dO ⟨x.2.1,x.2.2.1,x.2.2.2.1⟩/\((x.2.2.2.2.length:Int)=n/\∀e∈x.2.2.2.2,e.2.length<=20*v13.toNat+2*x.1.toNat)/\JM x.2.2.2.2) (λx=>(v13-x.1).toNat) ⟨⟨by simp only;omega,by simp only;omega⟩,i2,⟨i3,by simpa using i4⟩,i5⟩ (by simp only;omega) ?_
   rintro⟨v43,v44,v45,v46,v47⟩ ⟨⟨j0,j1⟩,j2,⟨j3,j4⟩,j5⟩
   simp only at j0 j1 j2 j3 j4 j5
   simp only[Ex]
   refine Wp.cond (λhc=>?_) (λhc=>Wp.some ⟨j2,⟨j3,λe he=>by have:=j4 e he;have:=px hc;show e.2.length<=_;omega⟩,j5⟩)
   have hc:=lP hc
   refine Wp.call (P:=λx=>dO ⟨x.2.1,x.2.2.1,x.2.2.2⟩) ?_ ?_
   .refine Wp.cond (λ_=>Wp.call (zD j2 oaa) λr62 h62=>?_) (λ_=>Wp.call (zD j2 oaa) λr64 h64=>Wp.some h64)
    exact Wp.cond (λ_=>Wp.some h62) (λ_=>Wp.call (zD h62 oaa) λr63 h63=>Wp.some h63)
   rintro⟨v58,v59,v60,v61⟩ hc2
   refine Wp.call (P:=λx=>((x.length:Int)=n/\∀e∈x,e.2.length<=20*v13.toNat+2*v43.toNat+2)/\JM x) ?_ ?_
   .refine Wp.cond (λ_=>Wp.call (wJoinJ (B:=20*v13.toNat+2*v43.toNat) oaa j4 j5 oaa oaa oaa oaa oaa) λr65 h65=>Wp.some ⟨⟨by rw[h65.1.1];exact j3,h65.1.2⟩,h65.2⟩) (λ_=>Wp.some ⟨⟨j3,λe he=>by have:=j4 e he;omega⟩,j5⟩)
   intro v62 h62
   refine Wp.some ⟨⟨⟨?_,?_⟩,hc2,⟨h62.1.1,λe he=>?_⟩,h62.2⟩,?_⟩
   all_goals simp only[bK (show-9223372036854775808<=v43+1/\v43+1<=9223372036854775807 by omega)]
   .omega
   .omega
   .have:=h62.1.2 e he;omega
   omega
  rintro⟨v55,v56,v57,v58⟩ ⟨k1,⟨k2,k3⟩,k4⟩
  simp only at k1 k2 k3 k4
  refine Wp.some ⟨⟨⟨?_,?_⟩,k1,⟨k2,λe he=>?_⟩,k4⟩,?_⟩
  all_goals simp only[bK (show-9223372036854775808<=v13+1/\v13+1<=9223372036854775807 by omega)]
  .omega
  .omega
  .have:=k3 e he;omega
  omega
 rintro⟨v40,v41,v42,v43⟩ ⟨hc,⟨hl,hb⟩,hj⟩
 simp only at hc hl hb hj
 have hn5:2<=v43.length/\v43.length<=5:=by omega
 refine Wp.call (P:=λx=>((x.length:Int)=n/\∀e∈x,e.2.length<=200)/\∀(i:Nat) e,v43[i]?=some e->∃e',x[i]?=some e'/\RW n e e') ?_ λv78 h78=>Wp.some ⟨hc,⟨by have:=h78.1.1;show 2<=v78.length/\v78.length<=5;omega,h78.1.2⟩,OH hj (by have:=h78.1.1;show v78.length=v43.length;omega) hn5 (by rw[hl];exact h78.2)⟩
 refine Wp.iterF (λx=>(0<=x.1/\x.1<=n)/\((x.2.length:Int)=n/\∀e∈x.2,e.2.length<=200)/\∀(i:Nat) e,v43[i]?=some e->∃e',x.2[i]?=some e'/\((i:Int)<x.1->RW n e e')/\(x.1<=(i:Int)->e'=e)) (λx=>(n-x.1).toNat) ⟨⟨by simp only;omega,by simp only;omega⟩,⟨hl,hb⟩,λi e he=>⟨e,he,λhi=>by simp only at hi;omega,λ_=>rfl⟩⟩ (by simp only;omega) ?_
 rintro⟨v66,v67⟩ ⟨⟨i0,i1⟩,⟨i3,i4⟩,i5⟩
 simp only at i0 i1 i3 i4 i5
 simp only[Ey,<-hn]
 refine Wp.cond (λhb=>?_) (λhb=>Wp.some ⟨⟨i3,i4⟩,λi e he=>?_⟩)
 rotate_left
 .obtain⟨e',h1,h2,h3⟩:=i5 i e he
  have hi:=(aab.1 he).1
  have:=px hb
  exact⟨e',h1,h2 oaa⟩
 have hb:=lP hb
 obtain⟨q,rfl⟩:∃q:Nat,v66=q:=⟨v66.toNat,by omega⟩
 obtain⟨e0,he0⟩:∃e0,v43[q]?=some e0:=⟨_,aaa oaa⟩
 obtain⟨eq',hq1,_,hq3⟩:=i5 q e0 he0
 have hq3:=hq3 (acM _)
 subst hq3
 have hl0:=i4 eq' (aac hq1)
 refine Wp.call (P:=λx=>(x.length:Int)<=n/\(∀z,z∈x↔z∈eq'.2/\(0<=z/\z<n))/\x.Pairwise λx y=>x<y) ?_ ?_
 .refine Wp.iterF (λx=>(0<=x.1/\x.1<=n)/\(x.2.length:Int)<=x.1/\(∀z,z∈x.2↔z∈eq'.2/\(0<=z/\z<x.1))/\x.2.Pairwise λx y=>x<y) (λx=>(n-x.1).toNat) ⟨⟨by simp only;omega,by simp only;omega⟩,by simp,λz=>by simp,by simp⟩ (by simp only;omega) ?_
  rintro⟨v79,v80⟩ ⟨⟨j0,j1⟩,j2,j3,j4⟩
  simp only at j0 j1 j2 j3 j4
  simp only[Ez,<-hn]
  refine Wp.cond (λhc=>?_) (λhc=>?_)
  rotate_left
  .have:=px hc
   have e:v79=n:=by omega
   subst e
   exact Wp.some ⟨j2,j3,j4⟩
  have hc:=lP hc
  simp only[bu,hq1,abX,Ue (show eq'.2.length<=1048576 by omega)]
  have key:(eq'.2.any λx=>eqB x v79)=true↔v79∈eq'.2:=by
   rw[aaE];exact⟨λ⟨x,h1,h2⟩=>by rw[<-mc h2];exact h1,λh=>⟨v79,h,bw _⟩⟩
  refine Wp.call (P:=λx=>(x.length:Int)<=v79+1/\(∀z,z∈x↔z∈eq'.2/\(0<=z/\z<v79+1))/\x.Pairwise λx y=>x<y) ?_ λx hx=>Wp.some ⟨⟨⟨?_,?_⟩,?_,?_,hx.2.2⟩,?_⟩
  .refine Wp.cond (λhh=>Wp.ok (gj (by simp;omega) (by simp;omega)) (Wp.some ⟨by simp;omega,λz=>?_,?_⟩)) (λhh=>Wp.some ⟨by omega,λz=>?_,j4⟩)
   .have:=key.1 hh
    rw[aad,j3 z]
    constructor
    .rintro(h|h)
     .exact⟨h.1,by omega⟩
     simp at h;subst h;exact⟨this,by omega⟩
    rintro⟨h1,h2⟩
    by_cases e:z=v79
    .exact .inr (by simp[e])
    exact .inl ⟨h1,by omega⟩
   .refine ab3.2 ⟨j4,by simp,λx hx y hy=>?_⟩
    simp at hy;subst hy
    exact((j3 x).1 hx).2.2
   rw[j3 z]
   constructor
   .rintro⟨h1,h2⟩;exact⟨h1,by omega⟩
   rintro⟨h1,h2⟩
   refine⟨h1,h2.1,?_⟩
   by_cases e:z=v79
   .subst e;rw[key.2 h1] at hh;cases hh
   omega
  all_goals simp only[bK (show-9223372036854775808<=v79+1/\v79+1<=9223372036854775807 by omega)]
  .omega
  .omega
  .exact hx.1
  .exact hx.2.1
  omega
 intro v84 h84
 simp only[bu,hq1,abX,abY]
 refine Wp.some ⟨⟨⟨?_,?_⟩,⟨by simpa using i3,La i4 (by have:=h84.1;show v84.length<=200;omega)⟩,λi e he=>?_⟩,?_⟩
 all_goals simp only[bK (show-9223372036854775808<=(q:Int)+1/\(q:Int)+1<=9223372036854775807 by omega)]
 .omega
 .omega
 .obtain⟨e',h1,h2,h3⟩:=i5 i e he
  by_cases hi:q=i
  .subst hi
   rw[he0] at he;cases he
   exact⟨(eq'.1,v84),by simp[(aab.1 hq1).1],λ_=>⟨rfl,h84.2.1,h84.2.2,h84.1⟩,λh=>by omega⟩
  exact⟨e',by rw[abJ,if_neg hi];exact h1,λh=>h2 oaa,λh=>h3 oaa⟩
 omega
theorem V8 {c:bm} (h:dO c):Wp (CI c) (λr=>dO r.2/\f8 r.1/\pJ r.1=true):=by
 unfold CI
 exact Wp.call (Z9 h) λr hr=>Wp.some ⟨hr.1,UV hr.2.1.1.2 (λe he=>by have:=hr.2.1.2 e he;omega),hr.2.2⟩
theorem FJ {τ ρ:Type} {L:τ->Option (cq τ ρ)} (mk:Nat->τ) (xs:List α) (p:Nat->α->Bool) (f:ρ) (c:Option ρ) (hl:xs.length<=9223372036854775806)
 (hs:∀(k:Nat) (x:α),xs[k]?=some x->k<xs.length->L (mk k)=bif p k x then some (.next (mk (k+1))) else some (.done f)) (he:L (mk xs.length)=dn c):
 iter L FU (mk 0)=bif fM p xs then c else some f:=by
 have:=eK (step:=L) xs.zipIdx (λk (_:Unit)=>mk k) (λ_ y=>bif p y.2 y.1 then some (.next ()) else some (.done f)) (λ_=>c) (by simpa using hl)
  (λk y s hy hk=>by
   have hk':k<xs.length:=by simpa using hk
   have:y=(xs[k],k):=by rw[aaa hk] at hy;simpa using hy.symm
   subst this
   rw[hs k xs[k] (aaa hk') hk'];cases p k xs[k]<;>rfl) (λs=>by rw[List.length_zipIdx,he]) ()
 refine Eq.trans (show iter L FU (mk 0)=_ from this) ?_
 have key:∀ys:List (α×Nat),kX (λ(_:Unit) y=>bif p y.2 y.1 then some (.next ()) else some (cq.done f)) (λ_=>c) ys ()=bif ys.all (λy=>p y.2 y.1) then c else some f:=by
  intro ys
  induction ys with
  |nil=>rfl
  |cons x xs ih=>rw[kX];cases hp:p x.2 x.1<;>simp[hp,ih]
 exact key _
theorem C9 (xs:List α):fM (λ_ _=>true) xs=true:=eJ.2 λ_ _ _=>rfl
theorem Nk {m:aS} (h:f8 m):qt m=some m:=by
 have hl:=h.1
 have:=FJ (L:=jJ m) (λk=>((k:Int),m.aX.take k)) m.aX (λ_ _=>true) m.aX (some m.aX) oaa (λk x hx hk=>by
  have hm:=aac hx
  have h1:=(h.2 x hm).1
  have e:m.aX.take (k+1)=m.aX.take k++[x]:=by rw[acf,hx];rfl
  simp only[jJ,cy hk,bu,hx,aa9,e,WRs (k:=k),
   gj (b:=8) (n:=x.cr.length) oaa oaa,
   gj (b:=32) (n:=(m.aX.take k++[(⟨x.fJ,x.cr⟩:fr)]).length) (by simp;omega) (by simp;omega),au]) (by simp[jJ])
 rw[C9] at this
 have this:iter (jJ m) FU (0,[])=some m.aX:=by simpa using this
 rw[qt,this];rfl
def Bl (x y:aP):Bool:=eqB x.ID.dN y.ID.dN&&(eqB x.ID.bL y.ID.bL&&true)
theorem Sj (x y:aP):Bl x y=(eqB x.ID.dN y.ID.dN&&(eqB x.ID.bL y.ID.bL&&true)):=rfl
def Er (rs:List aP) (k:Nat) (x:aP):Bool:=tp x&&fM (λ_ y=>!Bl y x) (rs.take k)
def uz (rs:List aP):Bool:=fM (Er rs) rs&&leB (rs.length:Int) 4
theorem Nz {xs:List α} (h:(xs.take k)[i]?=some x):xs[i]?=some x/\i<k:=by
 rw[List.getElem?_take] at h
 split at h
 .exact⟨h,by assumption⟩
 cases h
theorem OE {rs:List aP} (hl:rs.length<=1000):uo rs=some (uz rs):=by
 have h2:∀(i:Nat) (x:aP),rs[i]?=some x->iter (o6 rs (i:Int)) FU 0=bif fM (λ_ y=>!Bl y x) (rs.take i) then some (.next ((i+1:Nat):Int)) else some (.done false):=by
  intro i x hx
  have hi:=(aab.1 hx).1
  have hlt:(rs.take i).length=i:=by simp;omega
  refine lc (rs.take i) (λ_ y=>!Bl y x) (cq.done false) _ oaa (λk y hy hk=>?_) (by simp[o6,hlt,WRs (k:=i)])
  obtain⟨hy',hki⟩:=Nz hy
  simp only[o6,cy hki,bu,hx,hy',WRs (k:=k),<-Sj,au]
  cases Bl y x<;>rfl
 have hL:iter (o5 rs) FU 0=bif fM (Er rs) rs then some (leB (rs.length:Int) 4) else some false:=by
  refine lc rs (Er rs) false _ oaa (λk x hx hk=>?_) (by simp[o5])
  simp only[o5,cy hk,bu,hx,Vf,h2 k x hx,Er,au]
  cases tp x<;>cases fM (λ_ y=>!Bl y x) (rs.take k)<;>rfl
 simp only[uo,hL,uz]
 cases fM (Er rs) rs<;>rfl
def uE (c:Nat) (rs:List aP) (j:Nat):aJ:=⟨⟨(rs.getD j default).ID,(rs.getD j default).eP,(rs.getD j default).cV⟩,0,abW (j:Int) (c:Int),0,0,0,false,0,⟨1,[],[]⟩⟩
def mF (p:bD) (rs:List aP) (j:Nat):ah:=⟨rs.getD j default,p,0,⟨0,0,0,0,0⟩,0,0,0,0,0,0,⟨0,0,0⟩,[],⟨1,[]⟩,0,⟨(j:Int),0,0⟩⟩
def BE (b:Int):Int:=bif inR b 0 100000 then b else 0
def AO (b:Int):am:=⟨BE b,BE b,0,[]⟩
def iz (m:aS) (rs:List aP) (p:bD) (b:Int) (n:Nat):ab:=
 ⟨m,(hV n).map (uE m.aX.length rs),(hV n).map (mF p rs),(hV n).map (λ_=>AO b),[],0,⟨2,3⟩,0,0⟩
def zeroN:ab:=⟨⟨[]⟩,[],[],[],[],0,⟨0,0⟩,0,0⟩
theorem acc_s (b:Int):tX b=some (AO b):=by
 simp only[tX,fS,abX,AO,BE];cases inR b 0 100000<;>rfl
theorem ses_s {p:bD} (h:ez p) (x:aP) (k:Int):tZ x p k=some (⟨x,p,0,⟨0,0,0,0,0⟩,0,0,0,0,0,0,⟨0,0,0⟩,[],⟨1,[]⟩,0,⟨k,0,0⟩⟩:ah):=by
 have h1:=h.1
 simp only[tZ,vP,aa9,gj (b:=8) (n:=p.bC.length) oaa oaa,au];rfl
theorem WL (c:kZ) (k:Int):wV c k=some (⟨c,0,k,0,0,0,false,0,⟨1,[],[]⟩⟩:aJ):=by rw[wV];rfl
theorem R7 (f:Nat->α) (k:Nat):(hV (k+1)).map f=(hV k).map f++[f k]:=by rw[List.range_succ,abc];rfl
theorem PS [Inhabited α] {xs:List α} (h:xs[k]?=some x):xs.getD k default=x:=by rw[abm,h];rfl
def mkN (m:aS) (rs:List aP) (p:bD) (b:Int) (k:Nat):Int×List am×List ah×List aJ:=((k:Int),(iz m rs p b k).bG,(iz m rs p b k).aF,(iz m rs p b k).av)
theorem new_s {m:aS} (hm:f8 m) {rs:List aP} (hl:rs.length<=1000) {p:bD} (hp:ez p) (b:Int):
 tY m rs p b=some (bif pJ m&&(qx p&&uz rs) then iz m rs p b rs.length else zeroN):=by
 simp only[tY,Ye hm,VL hp,OE hl,abX]
 cases hv:pJ m with
 |false=>rfl
 |true=>
  cases qx p with
  |false=>rfl
  |true=>
   cases uz rs with
   |false=>rfl
   |true=>
    have hc:1<=m.aX.length:=by
     simp only[pJ,v0] at hv
     have:=bO.1 hv.1;omega
    have hz:eqB (m.aX.length:Int) 0=false:=eqB_f.2 oaa
    have:=FJ (L:=oP m rs p b) (mkN m rs p b) rs (λ_ _=>true) ((iz m rs p b rs.length).bG,(iz m rs p b rs.length).aF,(iz m rs p b rs.length).av) (some ((iz m rs p b rs.length).bG,(iz m rs p b rs.length).aF,(iz m rs p b rs.length).av)) oaa (λk x hx hk=>by
     simp only[mkN,iz,oP,cy hk,bu,hx,hz,WL,c7,ses_s hp,acc_s,WRs (k:=k),R7,
      gj (b:=144) (n:=((hV k).map (uE m.aX.length rs)++[(⟨⟨x.ID,x.eP,x.cV⟩,0,abW (k:Int) (m.aX.length:Int),0,0,0,false,0,⟨1,[],[]⟩⟩:aJ)]).length) (by simp;omega) (by simp;omega),
      gj (b:=288) (n:=((hV k).map (mF p rs)++[(⟨x,p,0,⟨0,0,0,0,0⟩,0,0,0,0,0,0,⟨0,0,0⟩,[],⟨1,[]⟩,0,⟨(k:Int),0,0⟩⟩:ah)]).length) (by simp;omega) (by simp;omega),
      gj (b:=48) (n:=((hV k).map (λ_=>AO b)++[(⟨(AO b).fw,(AO b).bJ,(AO b).eD,[]⟩:am)]).length) (by simp;omega) (by simp;omega),uE,mF,PS hx,au]
     rfl) (by simp[mkN,oP])
    rw[C9] at this
    simp only[acP,Nk hm,au]
    rw[show((0:Int),([]:List am),([]:List ah),([]:List aJ))=mkN m rs p b 0 from rfl,this]
    rfl
section
variable {m:aS} {rs:List aP} {p:bD} {b:Int}
theorem w0:WR 0=0:=bK oaa
theorem w1:WR 1=1:=bK oaa
theorem okN (hm:f8 m) (hp:ez p) (hl:rs.length<=1000):g8 (iz m rs p b rs.length):=by
 refine⟨hm,⟨by simp[iz];omega,λx hx=>?_⟩,⟨by simp[iz];omega,λx hx=>?_⟩,⟨by simp[iz];omega,λx hx=>?_⟩,⟨by simp[iz],λx hx=>by simp[iz] at hx⟩⟩
 .obtain⟨k,_,rfl⟩:=aa8.1 hx
  exact⟨⟨by simp[uE],by simp[uE]⟩,⟨by simp[uE],by simp[uE]⟩⟩
 .obtain⟨k,_,rfl⟩:=aa8.1 hx
  exact⟨hp,⟨by simp[mF],by simp[mF]⟩,⟨by simp[mF],by simp[mF]⟩⟩
 obtain⟨k,_,rfl⟩:=aa8.1 hx
 exact⟨by simp[AO],λ_ _=>trivial⟩
theorem Jp (f:Nat->α) {n:Nat} (hk:k<n):((hV n).map f)[k]?=some (f k):=by simp[hk]
theorem Cn {f:Nat->α} {n:Nat} (h:((hV n).map f)[k]?=some x):k<n/\x=f k:=by
 rw[aaI] at h
 by_cases hk:k<n
 .simp[hk] at h;exact⟨hk,h.symm⟩
 simp[hk] at h
theorem YF (b:Int):0<=BE b/\BE b<=100000:=by
 unfold BE
 cases h:inR b 0 100000 with
 |false=>simp
 |true=>simpa using bO.1 h
variable (H:pJ m=true/\qx p=true/\uz rs=true)
include H
theorem FX:1<=m.aX.length/\m.aX.length<=6:=by
 obtain⟨hv,hs,hr⟩:=id H
 simp only[pJ,v0] at hv
 have:=bO.1 hv.1;omega
theorem QI (hk:k<rs.length):tp (rs.getD k default)=true:=by
 obtain⟨hv,hs,hr⟩:=id H
 simp only[uz,v0] at hr
 have:=eJ.1 hr.1 k _ (aaa hk)
 simp only[Er,v0] at this
 rw[abm,aaa hk]
 exact this.1
theorem Vg:rs.length<=4:=by
 obtain⟨hv,hs,hr⟩:=id H
 simp only[uz,v0] at hr
 have:=Am hr.2;omega
theorem YP (hk:k<rs.length):kW (uE m.aX.length rs k)=true:=by
 obtain⟨hv,hs,hr⟩:=id H
 have h1:=QI H hk
 obtain⟨c1,c2⟩:=FX H
 have h2:=Fz (v:=(k:Int)) (n:=(m.aX.length:Int)) oaa oaa
 simp only[tp,v0] at h1
 simp only[kW,uE,ti,h1.1,h1.2.1,h1.2.2,bO.2 (show(0:Int)<=abW (k:Int) (m.aX.length:Int)/\abW (k:Int) (m.aX.length:Int)<=5 from⟨h2.1,by omega⟩),ab6,ab5]
 simp[inR,leB,mI,pa,Bw,fM,eqB,w1]
theorem ZO (hk:k<rs.length):jb (mF p rs k)=true:=by
 obtain⟨hv,hs,hr⟩:=id H
 have h1:=QI H hk
 have hq:ji (⟨(k:Int),0,0⟩:cX)=true:=by simp[ji,leB]
 simp only[jb,mF,h1,hs,hq,ab6]
 have hp:tQ (mF p rs k)=true:=by
  simp[tQ,mF,MX,hq,yO,w0,leB]
 simp only[mF] at hp
 rw[hp]
 simp[inR,leB,ltB,mI,jX,jp,GH,Bw,fM,eqB,w1]
theorem SX:iL (AO b)=true:=by
 obtain⟨hv,hs,hr⟩:=id H
 obtain⟨b1,b2⟩:=YF b
 simp only[iL,AO,SB,SC,List.foldl_nil,Int.add_zero,bK (show-9223372036854775808<=BE b/\BE b<=9223372036854775807 by omega),bO.2 (show(0:Int)<=BE b/\BE b<=100000 from⟨b1,b2⟩),bO.2 (show(0:Int)<=BE b/\BE b<=BE b from⟨b1,by omega⟩),bO.2 (show(0:Int)<=0/\(0:Int)<=BE b from⟨by omega,b1⟩),bw,ab6,ab5]
 simp[leB,fM]
theorem Zg (hk:k<rs.length):wM (iz m rs p b rs.length) k (uE m.aX.length rs k)=true:=by
 obtain⟨hv,hs,hr⟩:=id H
 obtain⟨c1,c2⟩:=FX H
 have h2:=Fz (v:=(k:Int)) (n:=(m.aX.length:Int)) oaa oaa
 have hq:ji (⟨(k:Int),0,0⟩:cX)=true:=by simp[ji,leB]
 have e1:(iz m rs p b rs.length).aF[k]?=some (mF p rs k):=Jp _ hk
 have e2:(iz m rs p b rs.length).bG[k]?=some (AO b):=Jp _ hk
 have i1:GE (uE m.aX.length rs k) (mF p rs k)=true:=by simp[GE,uE,mF]
 have i2:eO (iz m rs p b rs.length).eo (uE m.aX.length rs k).be=true:=bO.2 (show(0:Int)<=abW (k:Int) (m.aX.length:Int)/\abW (k:Int) (m.aX.length:Int)<=(m.aX.length:Int)-1 from⟨h2.1,by omega⟩)
 have i3:eO (iz m rs p b rs.length).eo (mF p rs k).be=true:=bO.2 (show(0:Int)<=0/\(0:Int)<=(m.aX.length:Int)-1 from⟨by omega,by omega⟩)
 have i4:xj (AO b) (mF p rs k).bT=true:=by
  have ha:=SX (b:=b) H
  simp only[AO] at ha
  simp[xj,ha,mF,hq,iO,AO,eqB]
 have i5:eqB (mF p rs k).bT.aG (k:Int)=true:=by simp[mF]
 simp only[wM,e1,e2,YP H hk,ZO H hk,SX (b:=b) H,i1,i2,i3,i4,i5,ab5]
theorem Zo:mJ (iz m rs p b rs.length)=true:=by
 obtain⟨hv,hs,hr⟩:=id H
 obtain⟨c1,c2⟩:=FX H
 have hl:=Vg H
 have he:AY (iz m rs p b rs.length)=true:=by
  have:∀c:Nat,1<=c->c<=6->inR 0 0 (WR ((lJ .i64 1 (c:Int))-1))=true:=by
   intro c h1 h2
   rcases(show c=1\/c=2\/c=3\/c=4\/c=5\/c=6 by omega) with rfl|rfl|rfl|rfl|rfl|rfl<;>kernel_rfl
  simp only[AY,iz,this _ c1 c2,ab6];simp[inR,leB]
 have hp:jK (iz m rs p b rs.length).ef=true:=by show jK ⟨2,3⟩=true;kernel_rfl
 have ha:fM (wM (iz m rs p b rs.length)) (iz m rs p b rs.length).av=true:=eJ.2 λk d hd=>by
  obtain⟨hk,rfl⟩:=Cn hd
  exact Zg H hk
 have hd:(iz m rs p b rs.length).av.length=rs.length:=by simp[iz]
 have hse:(iz m rs p b rs.length).aF.length=rs.length:=by simp[iz]
 have hac:(iz m rs p b rs.length).bG.length=rs.length:=by simp[iz]
 simp only[mJ,show pJ (iz m rs p b rs.length).eo=true from hv,hp,ha,he,hd,hse,hac,bw,leB_t.2 (show(rs.length:Int)<=4 by omega),ab6,ab5]
 simp[iz,leB,eqB]
end
theorem Db:∀(l:List Int) (r:ByteArray),(l.foldl (λr n=>r.push (UInt8.ofNat n.toNat)) r).data.toList=r.data.toList++l.map λn=>UInt8.ofNat n.toNat
 |[],r=>by simp
 |x::l,r=>by
  rw[List.foldl_cons,Db l,aaA]
  simp[ByteArray.push]
theorem Tn {a b:List Int} (ha:okB a) (hb:okB b) (h:xP a=xP b):a=b:=by
 have h1:=Db a ByteArray.empty
 have h2:=Db b ByteArray.empty
 have e:(a.foldl (λr n=>r.push (UInt8.ofNat n.toNat)) ByteArray.empty).data.toList=(b.foldl (λr n=>r.push (UInt8.ofNat n.toNat)) ByteArray.empty).data.toList:=by
  have:xP a=xP b:=h
  unfold xP at this;rw[this]
 rw[h1,h2] at e
 replace e:=List.append_cancel_left e
 clear h h1 h2
 induction a generalizing b with
 |nil=>cases b with
  |nil=>rfl
  |cons y b=>simp at e
 |cons x a ih=>cases b with
  |nil=>simp at e
  |cons y b=>
   simp only[aaA,List.cons.injEq] at e
   have hx:=ha x (by simp)
   have hy:=hb y (by simp)
   have e1:=congrArg UInt8.toNat e.1
   simp only[wN] at hx hy
   rw[UInt8.toNat_ofNat',UInt8.toNat_ofNat'] at e1
   rw[ih (λz hz=>ha z (by simp[hz])) (λz hz=>hb z (by simp[hz])) e.2,show x=y by omega]
theorem XM {a b:List Int} (ha:okB a) (hb:okB b):strB (xP a) (xP b)=decide (a=b):=by
 rw[abZ,strB_t,decide_eq_true_eq]
 exact⟨Tn ha hb,λh=>by rw[h]⟩
theorem Xt {x y:aA} (hx:okB x.bz.bg) (hy:okB y.bz.bg):tR x y=some (decide (x=y)):=by
 have key:(bif eqB x.ag y.ag then bif eqB x.aT y.aT then bif eqB x.bz.cM y.bz.cM then bif eqB x.bz.fE y.bz.fE then bif eqB x.bz.iM y.bz.iM then decide (x.bz.bg=y.bz.bg) else false else false else false else false else false)=decide (x=y):=by
  rw[abZ]
  obtain⟨g,e,⟨a,b,c,d⟩⟩:=x
  obtain⟨g',e',⟨a',b',c',d'⟩⟩:=y
  simp only[eqB,cond_eq_ite]
  simp only[decide_eq_true_eq,aA.mk.injEq,bp.mk.injEq]
  constructor
  .intro h
   split at h<;>try (cases h;done)
   split at h<;>try (cases h;done)
   split at h<;>try (cases h;done)
   split at h<;>try (cases h;done)
   split at h<;>try (cases h;done)
   simp_all
  rintro⟨rfl,rfl,rfl,rfl,rfl,rfl⟩;simp
 rw[<-key]
 simp only[tR,uW,qo,XM hx hy]
 cases eqB x.ag y.ag<;>cases eqB x.aT y.aT<;>cases eqB x.bz.cM y.bz.cM<;>cases eqB x.bz.fE y.bz.fE<;>cases eqB x.bz.iM y.bz.iM<;>rfl
def VC (a b:aD):Bool:=(eqB a.a8 b.a8&&(eqB a.be b.be&&(eqB a.ag b.ag&&(eqB a.aT b.aT&&(eqB a.bL b.bL&&(eqB a.bW.er b.bW.er&&(eqB a.bW.fY b.bW.fY&&(eqB a.bW.iM b.bW.iM&&(eqB a.bW.vT b.bW.vT&&(eqB a.bW.eP b.bW.eP&&(eqB a.iM b.iM&&true)))))))))))
theorem XL (a b:aD):VC a b=decide (a=b):=by
 rw[abZ]
 obtain⟨a1,a2,a3,a4,a5,⟨v1,v2,v3,v4,v5⟩,a6⟩:=a
 obtain⟨b1,b2,b3,b4,b5,⟨w1,w2,w3,w4,w5⟩,b6⟩:=b
 simp only[VC,v0,eqB_t,decide_eq_true_eq,aD.mk.injEq,cA.mk.injEq]
 constructor
 .rintro⟨rfl,rfl,rfl,rfl,rfl,rfl,rfl,rfl,rfl,rfl,rfl,_⟩;simp
 rintro⟨rfl,rfl,rfl,rfl,rfl,⟨rfl,rfl,rfl,rfl,rfl⟩,rfl⟩;simp
theorem ZK {x y:bF} (hx:okB x.cz.bz.bg) (hy:okB y.cz.bz.bg):o7 x y=some (decide (x=y)):=by
 have key:(eqB x.bk y.bk&&(booB x.eH y.eH&&(booB x.dR y.dR&&(eqB x.be y.be&&(VC x.bh y.bh&&decide (x.cz=y.cz))))))=decide (x=y):=by
  rw[abZ]
  obtain⟨a1,a2,a3,a4,a5,a6⟩:=x
  obtain⟨b1,b2,b3,b4,b5,b6⟩:=y
  simp only[XL,v0,eqB_t,booB_t,decide_eq_true_eq,bF.mk.injEq]
 rw[<-key]
 simp only[o7,Xt hx hy,abX]
 rw[show(eqB x.bh.a8 y.bh.a8&&(eqB x.bh.be y.bh.be&&(eqB x.bh.ag y.bh.ag&&(eqB x.bh.aT y.bh.aT&&(eqB x.bh.bL y.bh.bL&&(eqB x.bh.bW.er y.bh.bW.er&&(eqB x.bh.bW.fY y.bh.bW.fY&&(eqB x.bh.bW.iM y.bh.bW.iM&&(eqB x.bh.bW.vT y.bh.bW.vT&&(eqB x.bh.bW.eP y.bh.bW.eP&&(eqB x.bh.iM y.bh.iM&&true)))))))))))=VC x.bh y.bh from rfl]
 cases eqB x.bk y.bk<;>cases booB x.eH y.eH<;>cases booB x.dR y.dR<;>cases eqB x.be y.be<;>cases VC x.bh y.bh<;>rfl
def hUp (s:ah) (m:aD):Bool:=
 bif eqB m.a8 3 then leB m.ag s.bA.cV&&(!eqB m.ag s.bE||!eqB m.bL s.aC.vT) else
 bif eqB m.a8 5||eqB m.a8 8 then ltB m.ag s.ag||(eqB m.ag s.ag&&!qT s.aV m) else true
def Jb (d:aJ) (m:aD):Bool:=
 bif eqB m.a8 2 then eqB (jj d.df.eP d.df.dm m.bW) 1||eqB (jj d.df.eP d.df.dm m.bW) 2 else
 bif eqB m.a8 4||eqB m.a8 6 then ltB m.ag d.ag||(eqB m.ag d.ag&&!qT d.aV m) else true
def Md (d:aJ) (x:aA):Bool:=ltB x.ag d.ag||(eqB x.ag d.ag&&!xk d.aV x)
def Uc (n:ab) (f:bF):Bool:=match n.av[f.bk.toNat]?,n.aF[f.bk.toNat]? with
 |some d,some s=>bif f.dR then f.eH||Md d f.cz else bif f.eH then hUp s f.bh else Jb d f.bh
 |_,_=>true
def sE (n:ab) (e:dh):Bool:=!eqB e.a8 13||(!Cl n e.bS||(n.aK.any (λf=>decide (f=e.bS))||Uc n e.bS))
theorem hUp_s (s:ah) (m:aD):o9 s m=some (hUp s m):=by
 simp only[o9,Lr,abX,hUp]
 cases eqB m.a8 3<;>cases eqB m.a8 5<;>cases eqB m.a8 8<;>cases leB m.ag s.bA.cV<;>cases eqB m.ag s.bE<;>cases ltB m.ag s.ag<;>cases eqB m.ag s.ag<;>rfl
theorem WZ {d:aJ} (m:aD):lV d m=some (Jb d m):=by
 simp only[lV,Lr,Q1,abX,Jb]
 cases eqB m.a8 2<;>cases eqB m.a8 4<;>cases eqB m.a8 6<;>cases eqB (jj d.df.eP d.df.dm m.bW) 1<;>cases ltB m.ag d.ag<;>cases eqB m.ag d.ag<;>rfl
theorem ZA (h:NP B n) (f:bF):jW n f=some (Cl n f):=by
 have hm6:=mR h.map
 have hl:=h.ld
 simp only[jW,Cl,fS,bK (n:=(n.eo.aX.length:Int)-1) oaa,bK (n:=(n.av.length:Int)-1) oaa,abX]
 rw[show inR f.be 0 ((n.eo.aX.length:Int)-1)=eO n.eo f.be from rfl]
 cases ltB (n.aK.length:Int) 200<;>cases inR f.bk 0 ((n.av.length:Int)-1)<;>rfl
theorem W2 (h:NP B n) (he:EP e):tT n e=some (sE n e):=by
 have hfl:=h.fl
 simp only[tT,RU h.okN,h.vn,ZA h,abX,sE]
 cases eqB e.a8 13
 .rfl
 cases hp:Cl n e.bS
 .rfl
 simp only[aaJ,au]
 simp only[Cl,v0,bO] at hp
 obtain⟨d,s,a,e1,e2,e3,hm⟩:=h.at_ (show e.bS.bk.toNat<n.av.length by omega)
 have hdev:=N6 e.bS.bk hp.2.1.1
 have i1:ix n.av e.bS.bk=some d:=by rw[hdev,bu];exact e1
 have i2:ix n.aF e.bS.bk=some s:=by rw[hdev,bu];exact e2
 have:=lc (L:=oG n e) n.aK (λ_ f=>!decide (f=e.bS)) true (some (Uc n e.bS)) oaa (λk x hx hk=>by
  have hx':=h.fs x (aac hx)
  simp only[oG,cy hk,bu,hx,ZK hx'.b he.r,WRs (k:=k),dn,au]
  cases decide (x=e.bS)<;>rfl) (by
  simp only[oG,bR,i1,i2,hUp_s,WZ,xK he.r,Uc,e1,e2,Md,au]
  cases e.bS.dR<;>cases e.bS.eH<;>cases ltB e.bS.cz.ag d.ag<;>cases eqB e.bS.cz.ag d.ag<;>rfl)
 rw[this,sh]
 rw[show n.aK.all (λf=>!decide (f=e.bS))=!n.aK.any (λf=>decide (f=e.bS)) by rw[<-List.not_any_eq_all_not]]
 cases n.aK.any (λf=>decide (f=e.bS))<;>rfl
theorem wPlanV {c:bm} (h:dO c):Wp (CN c) (λr=>dO r.2/\r.1.bC.length<=4/\qx r.1=true):=by
 unfold CN
 refine Wp.call (em h oaa) λr1 h1=>Wp.call (em h1.1 oaa) λr2 h2=>Wp.call (em h2.1 oaa) λr3 h3=>?_
 refine Wp.call (P:=λx=>dO x.2/\x.1.length<=4/\(∀a∈x.1,0<=a/\a<=3)/\x.1.Pairwise λa b=>a<b) ?_ ?_
 .refine Wp.iterF (λx=>(0<=x.1/\x.1<=4)/\dO x.2.2/\(x.2.1.length:Int)<=x.1/\(∀a∈x.2.1,0<=a/\a<x.1)/\x.2.1.Pairwise λa b=>a<b) (λx=>(4-x.1).toNat) ⟨⟨by omega,by omega⟩,h3.1,by simp,by simp,by simp⟩ (by simp) ?_
  rintro⟨v4,v8,v9⟩ ⟨⟨i0,i1⟩,i2,i3,i4,i5⟩
  simp only at i0 i1 i2 i3 i4 i5
  simp only[EB]
  refine Wp.cond (λhb=>?_) (λhb=>Wp.some ⟨i2,by show v8.length<=4;omega,λa ha=>by have:=i4 a ha;omega,i5⟩)
  have hb:=lP hb
  refine Wp.call (zD i2 oaa) λr15 h15=>?_
  refine Wp.call (P:=λx=>(x.length:Int)<=v4+1/\(∀a∈x,0<=a/\a<v4+1)/\x.Pairwise λa b=>a<b) ?_ λx hx=>Wp.some ⟨⟨⟨?_,?_⟩,h15,?_,?_,hx.2.2⟩,?_⟩
  .refine Wp.cond (λ_=>Wp.ok (gj (by simp;omega) (by simp;omega)) (Wp.some ⟨by simp;omega,λa ha=>?_,?_⟩)) (λ_=>Wp.some ⟨by omega,λa ha=>by have:=i4 a ha;omega,i5⟩)
   .rcases aad.1 ha with ha|ha
    .have:=i4 a ha;omega
    simp at ha;omega
   refine ab3.2 ⟨i5,by simp,λx hx y hy=>?_⟩
   simp at hy;have:=i4 x hx;omega
  all_goals simp only[bK (show-9223372036854775808<=v4+1/\v4+1<=9223372036854775807 by omega)]
  .omega
  .omega
  .exact hx.1
  .exact hx.2.1
  omega
 rintro⟨x,c2⟩ ⟨k1,k2,k3,k4⟩
 simp only at k1 k2 k3 k4
 refine Wp.some ⟨k1,k2,?_⟩
 simp only[qx,DA,v0,bO,eJ]
 rw[bK (show-9223372036854775808<=1+r1.1/\1+r1.1<=9223372036854775807 by omega),bK (show-9223372036854775808<=1+r2.1/\1+r2.1<=9223372036854775807 by omega),bK (show-9223372036854775808<=1+r3.1/\1+r3.1<=9223372036854775807 by omega)]
 refine⟨⟨by omega,by omega,by omega⟩,λk a ha=>⟨k3 a (aac ha),Fp (key:=id) (by simpa using k4) ha⟩⟩
theorem Wa {c:bm} (h:dO c):Wp (mV c) (λr=>dO r.2/\(1<=r.1.length/\r.1.length<=3)/\uz r.1=true/\∀y∈r.1,y.cV<=20):=by
 unfold mV
 refine Wp.call (em h oaa) λr1 h1=>?_
 have hw:WR (1+r1.1)=1+r1.1:=bK oaa
 refine Wp.call (P:=λx=>dO x.2/\(x.1.length:Int)=1+r1.1/\∀(k:Nat) y,x.1[k]?=some y->tp y=true/\y.ID.bL=1+r1.1-k/\y.cV<=20) ?_ ?_
 .refine Wp.iterF (λx=>0<=x.1/\dO x.2.2/\(x.2.1.length:Int)+x.1=1+r1.1/\∀(k:Nat) y,x.2.1[k]?=some y->tp y=true/\y.ID.bL=1+r1.1-k/\y.cV<=20) (λx=>x.1.toNat) ⟨by rw[hw];omega,h1.1,by rw[hw];simp,by simp⟩ (by simp only;rw[hw];omega) ?_
  rintro⟨v2,v6,v7⟩ ⟨i0,i2,i3,i4⟩
  simp only at i0 i2 i3 i4
  simp only[tf]
  refine Wp.cond (λhb=>?_) (λhb=>Wp.some ⟨i2,by have:=px hb;show(v6.length:Int)=_;omega,i4⟩)
  have hb:=lP hb
  have hkey:Wp (Bt v7) (λr=>dO r.2/\mI r.1=true):=by
   unfold Bt
   exact Wp.call (em i2 oaa) λr1 h1=>Wp.some ⟨h1.1,bO.2 (by rw[bK oaa];omega)⟩
  refine Wp.call hkey λr13 h13=>Wp.call (em h13.1 oaa) λr14 h14=>Wp.ok (gj (by simp;omega) (by simp;omega)) (Wp.some ⟨⟨?_,h14.1,?_,λk y hy=>?_⟩,?_⟩)
  rotate_left 2
  .rw[List.getElem?_append] at hy
   split at hy
   .exact i4 k y hy
   rename_i hk
   have hk0:k-v6.length=0:=by
    have:=(aab.1 hy).1
    simp at this;omega
   rw[hk0] at hy
   simp at hy;subst hy
   simp only[tp,HV,v0,bO]
   exact⟨⟨⟨by omega,by omega⟩,h13.2,by omega⟩,by omega,by omega⟩
  all_goals simp only[bK (show-9223372036854775808<=v2-1/\v2-1<=9223372036854775807 by omega)]
  .omega
  .omega
  simp;omega
 rintro⟨x,c2⟩ ⟨k1,k2,k3⟩
 simp only at k1 k2 k3
 refine Wp.some ⟨k1,by show 1<=x.length/\x.length<=3;omega,?_,λy hy=>by obtain⟨k,hk⟩:=aar hy;exact(k3 k y hk).2.2⟩
 simp only[uz,v0,eJ,Er]
 refine⟨λk y hy=>⟨(k3 k y hy).1,λi z hz=>?_⟩,leB_t.2 oaa⟩
 obtain⟨hz1,hz2⟩:=Nz hz
 have e1:=(k3 k y hy).2.1
 have e2:=(k3 i z hz1).2.1
 have:eqB z.ID.bL y.ID.bL=false:=eqB_f.2 oaa
 simp[Bl,this]
inductive Reach:Nat->ab->Prop
 |new {m:aS} {rs:List aP} {p:bD} {b:Int} (h:pJ m=true/\qx p=true/\uz rs=true) (hm:f8 m) (hp:ez p) (hl:1<=rs.length/\rs.length<=3) (hq:∀y∈rs,y.cV<=20):Reach 0 (iz m rs p b rs.length)
 |step {k:Nat} {n:ab} {e:dh}:Reach k n->EP e->sE n e=true->Reach (k+1) (jC n e).2
def FS (n:ab) (e:dh):Prop:=e.a8=13->e.bS.dR=true->e.bS.eH=false/\∃d,n.av[e.bS.bk.toNat]?=some d/\e.bS.cz.ag=d.ag/\xk d.aV e.bS.cz=false
theorem Gl (n:ab) (h:e.a8≠13):FS n e:=λh1=>absurd h1 h
inductive FC:Nat->ab->Prop
 |new {m:aS} {rs:List aP} {p:bD} {b:Int} (h:pJ m=true/\qx p=true/\uz rs=true) (hm:f8 m) (hp:ez p) (hl:1<=rs.length/\rs.length<=3) (hq:∀y∈rs,y.cV<=20):FC 0 (iz m rs p b rs.length)
 |step {k:Nat} {n:ab} {e:dh}:FC k n->EP e->sE n e=true->FS n e->FC (k+1) (jC n e).2
theorem FC.re:∀{k:Nat} {n:ab},FC k n->Reach k n
 |_,_,.new h hm hp hl hq=>.new h hm hp hl hq
 |_,_,.step h he hh _=>.step h.re he hh
theorem Reach.np:∀{k:Nat} {n:ab},Reach k n->k<=1000000->NP (10000*(k:Int)) n
 |_,_,.new (m:=m) (rs:=rs) (p:=p) (b:=b) h hm hp hl _,_=>by
  have ok:g8 (iz m rs p b rs.length):=okN hm hp oaa
  have v:=Zo (b:=b) h
  have by':BY (iz m rs p b rs.length):=by
   refine⟨λd hd=>?_,λd hd=>?_,λs hs=>?_,λs hs=>?_,by simp[iz]⟩
   .simp only[iz,aa8] at hd;obtain⟨j,_,rfl⟩:=hd;simp[uE]
   .simp only[iz,aa8] at hd;obtain⟨j,_,rfl⟩:=hd;simp[uE]
   .simp only[iz,aa8] at hs;obtain⟨j,_,rfl⟩:=hs;simp[mF]
   simp only[iz,aa8] at hs;obtain⟨j,_,rfl⟩:=hs;simp[mF]
  exact(NP.of ok v by').mono (by show(0:Int)<=_;omega)
 |_,_,.step (k:=k) h he _,hk=>by
  have:=(AS (h.np oaa) he oaa).2.2
  exact this.mono oaa
theorem BP {k i c:Int} {b:List Int} (hb:okB b):EP ⟨k,i,c,b,eF⟩:=⟨hb,Ly,λx hx=>by simp[eF,eE,lX] at hx⟩
theorem yg (n:ab) (h:e.a8≠13):sE n e=true:=by
 rw[sE,eqB_f.2 h];rfl
theorem Xn (h:NP B n) (hs:n.aF[i]?=some s) (b:List Int):(jC n ⟨8,i,0,b,eF⟩).2={n with aF:=n.aF.set i (tm s b).1}:=by
 have hi:=(aab.1 hs).1
 have hls:=h.ls
 obtain⟨d,s',a,e1,e2,e3,hm⟩:=h.at_ (show i<n.av.length by omega)
 have hr:inR (i:Int) 0 ((n.av.length:Int)-1)=true:=bO.2 oaa
 simp only[jC]
 rw[if_neg (show ¬(8:Int)=1 by omega),if_neg (show ¬((8:Int)=2\/(8:Int)=3\/(8:Int)=4) by omega),if_pos (show(8:Int)=5\/(8:Int)=6\/(8:Int)=7\/True by simp)]
 simp only[Il,hr,abY,e1,hs,MR,MS,MT,au]
 cases hb:(tm s b).2
 .have hs':(tm s b).1=s:=by
   revert hb;rw[tm];cases leB 24 (s.aM.length:Int)||ltB 60 (b.length:Int)
   .intro hb;cases hb
   intro _;rfl
  simp only[cond_false,hs',gR hs]
 rfl
theorem Zw (h:NP B n) {d:aJ} (hd:n.av[i]?=some d):(jC n ⟨5,i,0,[],eF⟩).2=gh n i (dOn d):=by
 have hi:=(aab.1 hd).1
 obtain⟨d',s,a,e1,e2,e3,hm⟩:=h.at_ hi
 have hr:inR (i:Int) 0 ((n.av.length:Int)-1)=true:=bO.2 oaa
 simp only[jC]
 rw[if_neg (show ¬(5:Int)=1 by omega),if_neg (show ¬((5:Int)=2\/(5:Int)=3\/(5:Int)=4) by omega),if_pos (show True\/(5:Int)=6\/(5:Int)=7\/(5:Int)=8 by simp)]
 simp only[Il,hr,abY,hd,e2,bw,au]
 cases hb:eqB d.bj 0
 .simp only[gh,dOn,hb,gR hd,abe,au];rfl
 rfl
def RN (B:Nat) (l:Nat) (n:ab):Prop:=∃k,FC k n/\k<=B/\n.av.length=l
theorem RN.np {B:Nat} (h:RN B l n) (hB:B<=1000000):∃b:Int,NP b n/\b<=10000000000:=by
 obtain⟨k,h1,h2,_⟩:=h
 exact⟨_,h1.re.np oaa,by omega⟩
theorem RN.sub {B:Nat} (h:RN B l n) (hB:B<=1000000) (hs:n.aF[i]?=some s) {b:List Int} (hb:okB b):RN (B+1) l {n with aF:=n.aF.set i (tm s b).1}:=by
 obtain⟨b',hn,_⟩:=h.np hB
 obtain⟨k,h1,h2,h3⟩:=h
 have:=FC.step h1 (BP (k:=8) (i:=(i:Int)) (c:=0) hb) (yg n (by simp)) (Gl n (by simp))
 rw[Xn hn hs b] at this
 exact⟨_,this,by omega,h3⟩
theorem RN.on {B:Nat} (h:RN B l n) (hB:B<=1000000) {d:aJ} (hd:n.av[i]?=some d):RN (B+1) l (gh n i (dOn d)):=by
 obtain⟨b',hn,_⟩:=h.np hB
 obtain⟨k,h1,h2,h3⟩:=h
 have:=FC.step h1 (BP (k:=5) (i:=(i:Int)) (c:=0) (b:=[]) (λx hx=>by simp at hx)) (yg n (by simp)) (Gl n (by simp))
 rw[Zw hn hd] at this
 exact⟨_,this,by omega,by rw[(pB n i (dOn d)).1];exact h3⟩
def RZ (B:Nat) (l:Nat) (n:ab):Prop:=∃k,FC k n/\k<=B/\n.av.length=l/\n.dv=0
theorem RZ.rn {B:Nat} (h:RZ B l n):RN B l n:=by
 obtain⟨k,h1,h2,h3,_⟩:=h;exact⟨k,h1,h2,h3⟩
theorem RZ.np {B:Nat} (h:RZ B l n) (hB:B<=1000000):∃b:Int,NP b n/\b<=10000000000:=h.rn.np hB
theorem RZ.sub {B:Nat} (h:RZ B l n) (hB:B<=1000000) (hs:n.aF[i]?=some s) {b:List Int} (hb:okB b):RZ (B+1) l {n with aF:=n.aF.set i (tm s b).1}:=by
 obtain⟨k,h1,h2,h3⟩:=h.rn.sub hB hs hb
 exact⟨k,h1,h2,h3,h.choose_spec.2.2.2⟩
theorem RZ.on {B:Nat} (h:RZ B l n) (hB:B<=1000000) {d:aJ} (hd:n.av[i]?=some d):RZ (B+1) l (gh n i (dOn d)):=by
 obtain⟨k,h1,h2,h3⟩:=h.rn.on hB hd
 exact⟨k,h1,h2,h3,(lF ((dOn d).db.map (ie i true)) {n with av:=n.av.set i (dOn d).bk}).2.2.2.2.1.trans h.choose_spec.2.2.2⟩
theorem XX {c:bm} (h:dO c):Wp (CS c) (λr=>dO r.2/\∃l,(1<=l/\l<=3)/\RZ 40 l r.1):=by
 unfold CS
 refine Wp.call (wPlanV h) λr1 h1=>?_
 have hp:ez r1.1:=⟨by have:=h1.2.1;omega,λ_ _=>trivial⟩
 refine Wp.call (P:=λx=>dO x.2.2.2.2.2.2.2.1/\∃l,(1<=l/\l<=3)/\RZ 0 l ⟨⟨x.2.2.2.2.2.2.1⟩,x.2.2.2.2.2.1,x.2.2.2.2.1,x.2.2.2.1,[],x.1,x.2.2.2.2.2.2.2.2,x.2.1,x.2.2.1⟩) ?_ ?_
 .refine Wp.call (V8 h1.1) λr16 h16=>Wp.call (Wa h16.1) λr17 h17=>Wp.call (em h17.1 oaa) λr18 h18=>?_
  have hv:pJ r16.1=true/\qx r1.1=true/\uz r17.1=true:=⟨h16.2.2,h1.2.2,h17.2.2.1⟩
  have hl:=h17.2.1
  rw[new_s h16.2.1 oaa hp,hv.1,hv.2.1,hv.2.2]
  refine Wp.some ⟨h18.1,r17.1.length,hl,0,?_,Nat.le_refl _,by simp[iz]⟩
  exact FC.new (b:=WR (30+r18.1)) hv h16.2.1 hp hl h17.2.2.2
 rintro⟨v5,v8,v9,v10,v11,v12,v13,v14,v15⟩ ⟨hc,l,hl,hr⟩
 simp only at hc hr
 refine Wp.call (P:=λx=>dO x.1/\RZ 40 l x.2) ?_ λx hx=>Wp.some ⟨hx.1,l,hl,hx.2⟩
 refine Wp.iterF (λx=>(0<=x.1/\x.1<=(l:Int))/\dO x.2.1/\RZ (7*x.1.toNat) l x.2.2) (λx=>((l:Int)-x.1).toNat) ⟨⟨by simp only;omega,by simp only;omega⟩,hc,hr⟩ (by simp only;omega) ?_
 rintro⟨v20,v34,n⟩ ⟨⟨i0,i1⟩,i2,i3⟩
 simp only at i0 i1 i2 i3
 obtain⟨b,hn,hb⟩:=i3.np oaa
 have hdl:n.av.length=l:=i3.choose_spec.2.2.1
 simp only[HM]
 refine Wp.cond (λhb=>?_) (λhb=>Wp.some ⟨i2,?_⟩)
 rotate_left
 .obtain⟨k,g1,g2,g3⟩:=i3;exact⟨k,g1,by omega,g3⟩
 have hb:=lP hb
 obtain⟨q,rfl⟩:∃q:Nat,v20=q:=⟨v20.toNat,by omega⟩
 refine Wp.call (em i2 oaa) λr117 h117=>?_
 refine Wp.call (P:=λx=>dO x.2/\RZ (7*q+6) l {n with aF:=x.1}) ?_ ?_
 .refine Wp.iterF (λx=>(0<=x.1/\x.1<=6)/\dO x.2.2/\RZ (7*q+(6-x.1.toNat)) l {n with aF:=x.2.1}) (λx=>x.1.toNat) ⟨⟨by simp only;omega,by simp only;omega⟩,h117.1,?_⟩ (by simp only;omega) ?_
  .obtain⟨k,g1,g2,g3⟩:=i3;exact⟨k,g1,by simp only[abY] at g2;omega,g3⟩
  rintro⟨v118,v122,v123⟩ ⟨⟨j0,j1⟩,j2,j3⟩
  simp only at j0 j1 j2 j3
  simp only[HN]
  refine Wp.cond (λhc=>?_) (λhc=>Wp.some ⟨j2,?_⟩)
  rotate_left
  .obtain⟨k,g1,g2,g3⟩:=j3;exact⟨k,g1,by omega,g3⟩
  have hc:=lP hc
  obtain⟨b',hn',_⟩:=j3.np oaa
  have hls:=hn'.ls
  simp only at hls
  obtain⟨s,hs⟩:∃s,v122[q]?=some s:=⟨_,aaa oaa⟩
  obtain⟨d',s',a',e1,e2,e3,hm⟩:=hn'.at_ (i:=q) (by simp only;omega)
  simp only at e1 e2 e3
  rw[hs] at e2;cases e2
  simp only[bu,hs,abX]
  refine Wp.call (em j2 oaa) λr135 h135=>Wp.call (Wb h135.1 h135.2.1 oaa) λr136 h136=>?_
  rw[Yr hm.sg.sp.ok]
  simp only[abX,abY]
  refine Wp.some ⟨⟨⟨?_,?_⟩,h136.1,?_⟩,?_⟩
  all_goals simp only[bK (show-9223372036854775808<=v118-1/\v118-1<=9223372036854775807 by omega)]
  .omega
  .omega
  .have:=j3.sub oaa (i:=q) hs h136.2.1
   obtain⟨k,g1,g2,g3⟩:=this
   exact⟨k,g1,by omega,g3⟩
  omega
 rintro⟨v132,v133⟩ ⟨k1,k2⟩
 simp only at k1 k2
 obtain⟨b',hn',_⟩:=k2.np oaa
 obtain⟨d,hd⟩:∃d,n.av[q]?=some d:=⟨_,aaa oaa⟩
 obtain⟨d',s',a',e1,e2,e3,hm⟩:=hn'.at_ (i:=q) (by simp only;omega)
 simp only at e1
 rw[hd] at e1;cases e1
 refine Wp.call (zD k1 oaa) λr139 h139=>?_
 refine Wp.call (P:=λx=>RZ (7*q+7) l x) ?_ λx hx=>Wp.some ⟨⟨⟨?_,?_⟩,h139,?_⟩,?_⟩
 .refine Wp.cond (λ_=>?_) (λ_=>Wp.some ?_)
  .simp only[bu,hd,on_s hm.dp.ok,abX,abY]
   have hlen:=(N2 d).len
   have:=eK (step:=ta (q:Int) (dOn d)) (dOn d).db (λk n=>((k:Int),n)) (λn x=>abU (gk n (ie (q:Int) true x)) λr=>some (.next r)) some oaa
    (λk x n hx hk=>by
     simp only[ta,cy hk,bu,hx,WRs (k:=k),ie,au]
     cases gk n ⟨(q:Int),true,false,x.be,x,eE⟩<;>rfl) (λn=>by simp[ta]) {n with av:=n.av.set q (dOn d).bk,aF:=v132}
   rw[vh gk (ie (q:Int) true) (λn x=>Ch (CH (q:Int) true x))] at this
   rw[show iter (ta (q:Int) (dOn d)) FU (0,{n with av:=n.av.set q (dOn d).bk,aF:=v132})=_ from this]
   exact Wp.some (k2.on oaa (i:=q) hd)
  obtain⟨k,g1,g2,g3⟩:=k2;exact⟨k,g1,by omega,g3⟩
 all_goals simp only[bK (show-9223372036854775808<=(q:Int)+1/\(q:Int)+1<=9223372036854775807 by omega)]
 .omega
 .omega
 .obtain⟨k,g1,g2,g3⟩:=hx;exact⟨k,g1,by omega,g3⟩
 omega
theorem Z7 {c:bm} (h:dO c):Wp (CS c) (λr=>dO r.2/\∃l,(1<=l/\l<=3)/\RN 40 l r.1):=
 Wp.mono (XX h) λr ⟨h1,l,h2,h3⟩=>⟨h1,l,h2,h3.rn⟩
abbrev C2 {α:Type} (r:α×bm):Prop:=dO r.2
abbrev C1 {α:Type} (r:bm×α):Prop:=dO r.1
theorem Ph {c:bm} (h:dO c):Wp (Ab c) C2:=by
 unfold Ab
 refine Wp.call (zD h oaa) λr1 h1=>Wp.cond (λ_=>Wp.call (XY h1 (by simp)) λr2 h2=>Wp.some h2.1) (λ_=>?_)
 refine Wp.call (zD h1 oaa) λr3 h3=>Wp.cond (λ_=>Wp.call (XY h3 (by simp)) λr2 h2=>Wp.some h2.1) (λ_=>?_)
 exact Wp.call (em h3 oaa) λr5 h5=>Wp.call (em h5.1 oaa) λr6 h6=>Wp.some h6.1
theorem w5Seq {c:bm} (h:dO c):Wp (Lj c) C2:=by
 unfold Lj
 refine Wp.call (zD h oaa) λr1 h1=>Wp.cond (λ_=>Wp.call (XY h1 (by simp)) λr2 h2=>Wp.some h2.1) (λ_=>?_)
 exact Wp.call (em h1 oaa) λr5 h5=>Wp.some h5.1
theorem w5Vec {c:bm} (h:dO c):Wp (Ac c) C2:=by
 unfold Ac
 refine Wp.call (wKey h) λr1 h1=>Wp.call (em h1 oaa) λr2 h2=>Wp.call (w5Seq h2.1) λr3 h3=>?_
 rw[Q3]
 simp only[abX]
 refine Wp.call (em h3 oaa) λr5 h5=>?_
 refine Wp.call (P:=C1) ?_ λx hx=>Wp.some hx
 refine Wp.cond (λ_=>Wp.call (Ph h5.1) λr h=>Wp.some h) (λ_=>?_)
 refine Wp.call (P:=C1) ?_ λx hx=>Wp.some hx
 refine Wp.cond (λ_=>Wp.call (XY h5.1 (by simp)) λr h=>Wp.some h.1) (λ_=>?_)
 refine Wp.call (P:=λ_=>True) (Wp.cond (λ_=>Wp.some trivial) (λ_=>Wp.some trivial)) λx _=>Wp.some h5.1
theorem w30 {c:bm} (h:dO c) (s:ah):Wp (xa c s) C2:=by
 unfold xa
 refine Wp.call (em h oaa) λr1 h1=>Wp.call (em h1.1 oaa) λr2 h2=>Wp.call (em h2.1 oaa) λr3 h3=>Wp.call (em h3.1 oaa) λr4 h4=>?_
 refine Wp.call (P:=C1) ?_ λx hx=>?_
 .refine Wp.cond (λ_=>Wp.some h4.1) (λ_=>?_)
  refine Wp.call (P:=C2) ?_ λx hx=>Wp.some hx
  refine Wp.cond (λ_=>?_) (λ_=>Wp.some h4.1)
  refine Wp.call (em h4.1 oaa) λr17 h17=>Wp.call (em h17.1 oaa) λr18 h18=>?_
  rw[MB];exact Wp.some h18.1
 obtain⟨v10,v11⟩:=x
 simp only[D2,abX]
 replace hx:dO _:=hx
 refine Wp.call (em hx oaa) λr21 h21=>?_
 refine Wp.call (P:=C1) ?_ λx hx=>Wp.some hx
 refine Wp.cond (λ_=>Wp.call (Ph h21.1) λr h=>Wp.some h) (λ_=>?_)
 refine Wp.call (P:=λ_=>True) ?_ λx _=>Wp.some h21.1
 refine Wp.cond (λ_=>Wp.some trivial) (λ_=>?_)
 exact Wp.call (P:=λ_=>True) (Wp.cond (λ_=>Wp.some trivial) (λ_=>Wp.some trivial)) λx _=>Wp.some trivial
theorem w29 {c:bm} (h:dO c) (d:aJ):Wp (Fw c d) C2:=by
 unfold Fw
 refine Wp.call (em h oaa) λr1 h1=>?_
 refine Wp.call (P:=C1) ?_ λx hx=>?_
 .refine Wp.cond (λ_=>?_) (λ_=>?_)
  .rw[To]
   simp only[abX]
   rw[Q3]
   simp only[abX]
   refine Wp.call (zD h1.1 oaa) λr20 h20=>?_
   refine Wp.call (P:=C1) ?_ λx hx=>Wp.some hx
   exact Wp.cond (λ_=>Wp.call (w5Vec h20) λr h=>Wp.some h) (λ_=>Wp.some h20)
  refine Wp.call (P:=C2) ?_ λx hx=>Wp.some hx
  exact Wp.cond (λ_=>Wp.call (em h1.1 oaa) λr h=>Wp.some h.1) (λ_=>Wp.some h1.1)
 obtain⟨v16,v17⟩:=x
 simp only[D2,abX]
 replace hx:dO _:=hx
 refine Wp.call (em hx oaa) λr39 h39=>?_
 refine Wp.call (P:=C1) ?_ λx hx=>Wp.some hx
 refine Wp.cond (λ_=>Wp.call (Ph h39.1) λr h=>Wp.some h) (λ_=>?_)
 refine Wp.call (P:=C1) ?_ λx hx=>Wp.some hx
 refine Wp.cond (λ_=>Wp.call (em h39.1 oaa) λr h=>Wp.some h.1) (λ_=>?_)
 exact Wp.call (P:=λ_=>True) (Wp.cond (λ_=>Wp.some trivial) (λ_=>Wp.some trivial)) λx _=>Wp.some h39.1
theorem ZC {y:aA} (h:xo y) (i c:Int) (k:Int):jD ⟨i,false,true,c,dQ,{y with bz:={y.bz with iM:=k}}⟩/\okB y.bz.bg:=⟨⟨Nat.le_trans h.2 (by decide),λ_ _=>trivial⟩,h.1⟩
abbrev FR (f:bF):Prop:=jD f/\okB f.cz.bz.bg
abbrev FP2 (d:aJ) (i:Int) (x:bm×bF):Prop:=dO x.1/\FR x.2/\(x.2.bk=i)/\((x.2.dR=true/\x.2.eH=false/\Md d x.2.cz=true/\x.2.cz.ag=d.ag/\xk d.aV x.2.cz=false)\/x.2.dR=false)
theorem Xv {d:aJ} {y:aA} {k i cell:Int} {c:bm} (hc:dO c) (h:xo y) (hh:Md d {y with bz:={y.bz with iM:=k}}=true) (hg:y.ag=d.ag) (hv:xk d.aV {y with bz:={y.bz with iM:=k}}=false):
 Wp (some (c,(⟨i,false,true,cell,dQ,{y with bz:={y.bz with iM:=k}}⟩:bF))) (FP2 d i):=
 Wp.some ⟨hc,ZC h _ _ _,rfl,.inl ⟨rfl,rfl,hh,hg,hv⟩⟩
theorem JI (d:aJ) (x:ae):xk d.aV {iJ d.aV d.ag d.aT x with bz:={(iJ d.aV d.ag d.aT x).bz with iM:=abW (WR ((iJ d.aV d.ag d.aT x).bz.iM+1)) 2147483647}}=false:=by
 have hin:∀k (m:bp),0<=mac k m/\mac k m<2147483647:=λk m=>lu _ _
 have key:∀a:Int,0<=a->a<2147483647->abW (WR (a+1)) 2147483647≠a:=by
  intro a h0 h1 h
  rw[bK oaa,ab0 oaa] at h
  omega
 simp only[iJ,Hw,xk]
 rw[acU];right
 rw[acU];right
 refine eqB_f.2 ?_
 simp only[mac]
 exact key _ (hin _ ⟨1,x.cV,tl (dk (M3 d.aV d.aT) (2*x.cV+1)) x.bg,0⟩).1 (hin _ ⟨1,x.cV,tl (dk (M3 d.aV d.aT) (2*x.cV+1)) x.bg,0⟩).2
theorem Rr (d:aJ) (x:ae):Md d {iJ d.aV d.ag d.aT x with bz:={(iJ d.aV d.ag d.aT x).bz with iM:=abW (WR ((iJ d.aV d.ag d.aT x).bz.iM+1)) 2147483647}}=true:=by
 rw[Md,JI d x]
 simp[iJ,bw]
theorem wForge (h:NP B n) (hd:1<=n.av.length) {c:bm} (hc:dO c):Wp (Aa c n) (λr=>dO r.2/\EP r.1/\sE n r.1=true/\(r.1.bS.dR=true->r.1.bS.eH=false/\∃d,n.av[r.1.bS.bk.toNat]?=some d/\r.1.bS.cz.ag=d.ag/\xk d.aV r.1.bS.cz=false)):=by
 have hm6:=mR h.map
 have hls:=h.ls
 unfold Aa
 refine Wp.call (em hc oaa) λr1 h1=>?_
 obtain⟨i,hi⟩:∃i:Nat,r1.1=i:=⟨r1.1.toNat,by omega⟩
 obtain⟨d,s,a,e1,e2,e3,hm⟩:=h.at_ (i:=i) oaa
 simp only[hi,bu,e1,e2,abX]
 refine Wp.call (em h1.1 oaa) λr3 h3=>Wp.call (zD h3.1 oaa) λr4 h4=>Wp.call (em h4 oaa) λr5 h5=>?_
 refine Wp.call (P:=FP2 d (i:Int)) ?_ ?_
 .refine Wp.cond (λ_=>?_) (λ_=>?_)
  .refine Wp.call (em h5.1 oaa) λr30 h30=>?_
   have hs:=OS (x:=⟨WR (1+r30.1),[9]⟩) (by show 0<=WR (1+r30.1);rw[bK oaa];omega) (by show WR (1+r30.1)<=1000000;rw[bK oaa];omega) (λx hx=>by simp at hx;subst hx;simp[wN]) (by simp) d.aV d.ag d.aT
   have hr:=Bm d.aV d.ag d.aT (x:=⟨WR (1+r30.1),[9]⟩) (by simp)
   have hh:=Rr d ⟨WR (1+r30.1),[9]⟩
   have hv:=JI d ⟨WR (1+r30.1),[9]⟩
   have hg:(iJ d.aV d.ag d.aT ⟨WR (1+r30.1),[9]⟩).ag=d.ag:=rfl
   generalize iJ d.aV d.ag d.aT ⟨WR (1+r30.1),[9]⟩=y at hs hr hh hv hg
   rw[hs]
   exact Xv h30.1 hr hh hg hv
  refine Wp.call (P:=λx=>dO x.2.1) ?_ λx hx=>Wp.some ⟨hx,⟨Ly,λx hx=>by simp[eE,lX] at hx⟩,rfl,.inr rfl⟩
  exact Wp.cond (λ_=>Wp.call (w29 h5.1 d) λr h=>Wp.some h) (λ_=>Wp.call (w30 h5.1 s) λr h=>Wp.some h)
 rintro⟨c2,f⟩ ⟨k1,k2,k3,k4⟩
 simp only at k1 k2 k3 k4
 have he:EP {d9 with a8:=13,bS:=f}:=⟨λx hx=>by simp[d9] at hx,k2.1,k2.2⟩
 rw[W2 h he]
 simp only[abX]
 refine Wp.call (P:=λk=>k=bif sE n {d9 with a8:=13,bS:=f} then f.bh.a8 else 7) ?_ ?_
 .cases sE n {d9 with a8:=13,bS:=f}<;>exact Wp.some rfl
 rintro k rfl
 refine Wp.some ⟨k1,⟨λx hx=>by simp[d9] at hx,k2.1,k2.2⟩,?_,λhr=>by
  rcases k4 with⟨q1,q2,q3,q4,q5⟩|q1
  .exact⟨q2,d,by show n.av[f.bk.toNat]?=some d;rw[k3];exact e1,q4,q5⟩
  rw[show f.dR=true from hr] at q1;cases q1⟩
 cases hh:sE n {d9 with a8:=13,bS:=f}
 .simp only[cond_false,sE]
  rw[aan,aan,aan];right;right;right
  simp only[Uc,k3,abY,e1,e2]
  rcases k4 with⟨q1,q2,q3,_,_⟩|q1
  .rw[q1,q2,q3];rfl
  rw[q1]
  have z:∀k:Int,k≠7->eqB 7 k=false:=λk hk=>eqB_f.2 (Ne.symm hk)
  cases f.eH<;>simp only[hUp,Jb,z _ (show(2:Int)≠7 by omega),z _ (show(3:Int)≠7 by omega),z _ (show(4:Int)≠7 by omega),z _ (show(5:Int)≠7 by omega),z _ (show(6:Int)≠7 by omega),z _ (show(8:Int)≠7 by omega),ace,au]
 simp only[cond_true]
 rw[show({f with bh:={f.bh with a8:=f.bh.a8}}:bF)=f from rfl]
 exact hh
theorem GW (n:ab) (f:bF):(fm n f).av.length=n.av.length:=by rw[(rz n f).1]
theorem NB:∀(c i:Nat) (n:ab),(qZ c i n).av.length=n.av.length
 |0,_,_=>rfl
 |c+1,i,n=>by
  rw[qZ]
  cases n.av[i]? with
  |none=>rfl
  |some d=>simp only;rw[NB,(pB _ _ _).1]
theorem ND:∀(c i:Nat) (n:ab),(xO c i n).av.length=n.av.length
 |0,_,_=>rfl
 |c+1,i,n=>by
  rw[xO]
  cases n.aF[i]? with
  |none=>rfl
  |some s=>cases n.bG[i]? with
   |none=>rfl
   |some a=>simp only;rw[ND,(Jo _ _ _).1]
theorem N4 (n:ab) (k:Nat):(hU n k).av.length=n.av.length:=by
 rw[hU]
 cases n.aK[k]? with
 |none=>rfl
 |some f=>
  simp only
  cases A7 (hP n k) f.be
  .rfl
  simp only[au]
  cases f.eH
  .simp only[cond_false]
   cases hd:(hP n k).av[f.bk.toNat]? with
   |none=>rfl
   |some d=>
    simp only
    cases eqB d.be f.be
    .rfl
    simp only[au];rw[(pB _ _ _).1];rfl
  simp only[cond_true]
  cases f.dR||!eqB f.bh.be f.be
  .simp only[cond_false]
   cases hs:(hP n k).aF[f.bk.toNat]? with
   |none=>rfl
   |some s=>simp only[Bd];rw[(lF _ _).1];rfl
  rfl
theorem Te (n:ab) (e:dh):(jC n e).2.av.length=n.av.length:=by
 rw[jC]
 split
 .rw[GU]
  cases leB 100000 n.qz
  .simp only[cond_false];rw[ND,NB]
  rfl
 split
 .rw[tM]
  cases inR e.cF 0 ((n.aK.length:Int)-1)
  .rfl
  simp only[au]
  cases eqB e.a8 2
  .simp only[cond_false]
   cases eqB e.a8 3
   .simp only[cond_false]
    cases leB 200 (n.aK.length:Int)
    .simp only[cond_false]
     cases n.aK[e.cF.toNat]? with
     |none=>rfl
     |some f=>exact GW n f
    rfl
   rfl
  exact N4 n _
 split
 .rw[Il]
  cases inR e.cF 0 ((n.av.length:Int)-1)
  .rfl
  simp only[au]
  cases n.av[e.cF.toNat]? with
  |none=>rfl
  |some d=>cases n.aF[e.cF.toNat]? with
   |none=>rfl
   |some s=>
    simp only
    cases eqB e.a8 5
    .simp only[cond_false]
     cases eqB e.a8 6
     .simp only[cond_false]
      cases eqB e.a8 7
      .simp only[cond_false]
       cases(tm s e.bg).2<;>rfl
      simp only[cond_true]
      cases eqB d.bj 2
      .rfl
      simp
     simp only[cond_true]
     cases eqB e.be d.be||!eO n.eo e.be
     .exact(pB _ _ _).1
     rfl
    simp only[cond_true]
    cases eqB d.bj 0
    .rfl
    exact(pB _ _ _).1
 split
 .rw[GT];cases !eO n.eo e.cF||booB (A7 n e.cF) (eqB e.a8 10)<;>rfl
 split
 .rw[pU]
  cases !inR e.cF 0 (n.ef.fo-1)||(booB (uw n.ef e.cF) (eqB e.a8 12)||eqB (lZ n.ef e.cF (eqB e.a8 12)).fj 0)<;>rfl
 split
 .rw[Ba];cases Cl n e.bS
  .rfl
  exact GW n _
 rfl
abbrev NQ (n:ab) (r:dh×bm):Prop:=dO r.2/\EP r.1/\sE n r.1=true/\FS n r.1
theorem wPl {c:bm} (h:dO c) {k i cell:Int} {b:List Int} (hb:okB b) (hk:k≠13):Wp (some ((⟨k,i,cell,b,eF⟩:dh),c)) (NQ n):=
 Wp.some ⟨h,BP hb,yg n hk,Gl n hk⟩
theorem mS:okB []:=λx hx=>by simp at hx
theorem wNo {b:Bool} {y:α} {β:Type} {f:α->Option β} {Q:β->Prop} (h:∀z,Wp (f z) Q):Wp (abU (bif b then some x else some y) f) Q:=by
 cases b<;>exact h _
theorem Yw {c':bm} (hc:dO c'):Wp (abU (bif ltB 0 (n.aK.length:Int) then(abU (i9 c' 4) λr21=>some (!r21.1,r21.2)) else(some (false,c'))) λ((v16,v20):Bool×bm)=>bif v16 then(abU (Hk (n.aK.length:Int) 3) λr22=>abU (cI v20 r22) λr23=>abU (cI r23.2 12) λr24=>bif eqB r24.1 0 then(some ({d9 with a8:=3,cF:=r23.1},r24.2)) else(bif eqB r24.1 1 then(some ({d9 with a8:=4,cF:=r23.1},r24.2)) else(some ({d9 with a8:=2,cF:=r23.1},r24.2)))) else(some ({d9 with a8:=1},v20))) (NQ n):=by
 refine Wp.call (P:=λx=>dO x.2/\(x.1=true->0<n.aK.length)) ?_ ?_
 .refine Wp.cond (λhb=>?_) (λ_=>Wp.some ⟨hc,λh=>by simp at h⟩)
  have hb:=lP hb
  exact Wp.call (zD hc oaa) λr21 h21=>Wp.some ⟨h21,λ_=>by omega⟩
 rintro⟨v16,v20⟩ ⟨k1,k2⟩
 simp only at k1 k2
 refine Wp.cond (λhb=>?_) (λ_=>wPl k1 mS oaa)
 have:=k2 hb
 rw[MC]
 simp only[abX]
 have hm:1<=kY (n.aK.length:Int) 3:=by unfold kY;split<;>omega
 refine Wp.call (em k1 hm) λr23 h23=>Wp.call (em h23.1 oaa) λr24 h24=>?_
 exact Wp.cond (λ_=>wPl h24.1 mS oaa) (λ_=>Wp.cond (λ_=>wPl h24.1 mS oaa) (λ_=>wPl h24.1 mS oaa))
theorem wNext (h:NP B n) (hd:1<=n.av.length) {c:bm} (hc:dO c):Wp (CU c n) (NQ n):=by
 have hm6:=mR h.map
 have hl:=h.ld
 unfold CU
 rw[MB]
 simp only[abX]
 have hmx:1<=GR 1 (n.av.length:Int):=by unfold GR;split<;>omega
 have hw:WR ((n.eo.aX.length:Int)+1)=(n.eo.aX.length:Int)+1:=bK oaa
 refine Wp.call (em hc hmx) λr2 h2=>Wp.call (em h2.1 oaa) λr3 h3=>?_
 refine Wp.cond (λ_=>wPl h3.1 mS oaa) (λ_=>wNo λ_=>?_)
 refine Wp.cond (λ_=>Wp.call (em h3.1 oaa) λr5 h5=>wPl h5.1 mS oaa) (λ_=>?_)
 refine Wp.cond (λ_=>wPl h3.1 mS oaa) (λ_=>wNo λ_=>?_)
 refine Wp.cond (λ_=>Wp.call (em h3.1 oaa) λr7 h7=>Wp.call (Wb h7.1 h7.2.1 oaa) λr8 h8=>wPl h8.1 h8.2.1 oaa) (λ_=>?_)
 refine Wp.cond (λ_=>Wp.call (em h3.1 oaa) λr9 h9=>wPl h9.1 mS oaa) (λ_=>wNo λ_=>?_)
 refine Wp.cond (λ_=>Wp.call (em h3.1 oaa) λr9 h9=>wPl h9.1 mS oaa) (λ_=>?_)
 refine Wp.cond (λ_=>Wp.call (em h3.1 oaa) λr9 h9=>wPl h9.1 mS oaa) (λ_=>?_)
 refine Wp.cond (λ_=>Wp.call (em h3.1 oaa) λr9 h9=>wPl h9.1 mS oaa) (λ_=>wNo λ_=>?_)
 refine Wp.cond (λ_=>Wp.cond (λ_=>?_) (λ_=>Yw h3.1)) (λ_=>Yw h3.1)
 refine Wp.call (wForge h hd h3.1) λr15 h15=>Wp.some ⟨h15.1,⟨mS,h15.2.1.f,h15.2.1.r⟩,?_,λ_=>h15.2.2.2⟩
 exact h15.2.2.1
theorem RN.apply {B:Nat} (h:RN B l n) (he:EP e) (hh:sE n e=true) (hf:FS n e):RN (B+1) l (jC n e).2:=by
 obtain⟨k,h1,h2,h3⟩:=h
 exact⟨k+1,h1.step he hh hf,by omega,by rw[Te];exact h3⟩
theorem RN.mono {B B':Nat} (h:RN B l n) (hb:B<=B'):RN B' l n:=by
 obtain⟨k,h1,h2,h3⟩:=h;exact⟨k,h1,by omega,h3⟩
theorem Z8 {c:bm} (h:dO c) {most:Int} (hm:1<=most/\most<=1000):Wp (CW c most) (λr=>dO r.2.2.2/\∃l,(1<=l/\l<=3)/\RN 40 l r.1/\RN (42+most.toNat) l r.2.2.1/\(r.2.1.length<=1010/\∀e∈r.2.1,EP e)):=by
 unfold CW
 refine Wp.call (Z7 h) λr1 h1=>?_
 obtain⟨h11,l,hl,hr⟩:=h1
 obtain⟨b,hn,hb⟩:=hr.np oaa
 rw[Yi hn.okN]
 simp only[abX]
 refine Wp.call (em h11 hm.1) λr3 h3=>?_
 have hw:WR (3+r3.1)=3+r3.1:=bK oaa
 refine Wp.call (P:=λx=>dO x.2.1/\RN (42+most.toNat) l x.2.2/\(x.1.length<=1010/\∀e∈x.1,EP e)) ?_ λx hx=>Wp.some ⟨hx.1,l,hl,hr,hx.2.1,hx.2.2⟩
 refine Wp.iterF (λx=>(0<=x.1/\x.1<=2+most)/\dO x.2.2.1/\RN (40+(2+most-x.1).toNat) l x.2.2.2/\((x.2.1.length:Int)<=1010-x.1/\∀e∈x.2.1,EP e)) (λx=>x.1.toNat) ⟨⟨by rw[hw];omega,by rw[hw];omega⟩,h3.1,hr.mono oaa,by simp only[ab1];rw[hw];omega,by simp⟩ (by simp only;rw[hw];omega) ?_
 rintro⟨v4,v8,v19,n⟩ ⟨⟨i0,i1⟩,i2,i3,i4,i5⟩
 simp only at i0 i1 i2 i3 i4 i5
 simp only[HO]
 refine Wp.cond (λhb=>?_) (λhb=>Wp.some ⟨i2,i3.mono oaa,by show v8.length<=1010;omega,i5⟩)
 have hb:=lP hb
 obtain⟨b',hn',hb'⟩:=i3.np oaa
 have hdl:n.av.length=l:=i3.choose_spec.2.2
 refine Wp.call (wNext hn' oaa i2) λr51 h51=>?_
 refine Wp.ok (gj (by simp;omega) (by simp;omega)) ?_
 have ha:=AS hn' h51.2.1 oaa
 rw[Yi hn'.okN]
 simp only[abX]
 rw[ha.1]
 simp only[abX]
 have hst:=i3.apply h51.2.1 h51.2.2.1 h51.2.2.2
 refine Wp.call (P:=λx=>RN (40+(2+most-v4).toNat+1) l x) (Wp.cond (λ_=>Wp.some hst) (λ_=>Wp.some (i3.mono oaa))) λx hx=>Wp.some ⟨⟨⟨?_,?_⟩,h51.1,?_,?_,?_⟩,?_⟩
 all_goals simp only[bK (show-9223372036854775808<=v4-1/\v4-1<=9223372036854775807 by omega)]
 .omega
 .omega
 .exact hx.mono oaa
 .simp;omega
 .intro e he
  rcases aad.1 he with he|he
  .exact i5 e he
  simp at he;subst he;exact h51.2.1
 omega
def Az (r:aP) (g:Int):Int:=(vec r.eP (FY r.ID g) g).eP
def mX (l:List bM) (k:Nat):Int:=((l.take k).map λp=>(p.bg.length:Int)).sum
def lb (w:aY):Int:=w.bB-1-w.aw.length
structure SI (d:aJ) (s:ah) (a:am):Prop where
 cl:d.df.dm<=s.bA.cV
 pq:s.bE<=s.bA.cV
 pg:0<s.bE->s.ag<s.bE
 pv:0<s.bE->s.aC=vec s.bA.eP (FY s.bA.ID s.bE) s.bE
 sg:s.ag<=s.bA.cV
 s1:s.bj=1->0<s.ag
 sk:0<s.ag->s.aV=Az s.bA s.ag
 dg:d.ag<=d.df.dm
 dk:0<d.ag->d.aV=Az s.bA d.ag
 pr:d.bV.bi<+:s.aM
 pe:∀x∈d.bV.aC,s.aM[(x.cV-1).toNat]?=some ⟨x.bg⟩/\x.cV<s.ax.bB
 nx:d.bV.bB<=s.ax.bB
 wn:∀x∈s.ax.aw,s.aM[(x.cV-1).toNat]?=some ⟨x.bg⟩
 ak:lb s.ax<d.bV.bB
 ch:a.eD+s.bT.ev=mX s.aM (lb s.ax).toNat
def EG (s:ah) (x:aA):Prop:=∃(k g e:Int) (b:List Int),0<g/\(1<=k/\k<s.ax.bB)/\s.aM[(k-1).toNat]?=some ⟨b⟩/\x=iJ (Az s.bA g) g e ⟨k,b⟩
def RadB (d:aJ) (x:aA):Prop:=x.ag<d.ag\/(x.ag=d.ag/\xk d.aV x=false)
def Wl (s:ah) (m:aD):Prop:=∃q,(1<=q/\q<=s.bA.cV)/\m.ag=q/\m.bW=vec s.bA.eP (FY s.bA.ID q) q
def Wk (d:aJ) (m:aD):Prop:=jj d.df.eP d.df.dm m.bW=1\/jj d.df.eP d.df.dm m.bW=2
def Yy (s:ah) (m:aD):Prop:=m.ag<s.ag\/(m.ag=s.ag/\qT s.aV m=false)
structure FI (d:aJ) (s:ah) (f:bF):Prop where
 up:f.eH=true->f.dR=false->f.bh.a8=8->f.bh.bL<=d.bV.bB\/Yy s f.bh
 rd:f.eH=false->f.dR=true->EG s f.cz\/RadB d f.cz
 dn:f.eH=false->f.dR=false->f.bh.a8=2->Wl s f.bh\/Wk d f.bh
structure C7 (d:aJ) (s:ah) (d':aJ) (s':ah):Prop where
 ck:d'.df.eP=d.df.eP
 cl:d.df.dm<=d'.df.dm
 dg:d.ag<d'.ag\/(d'.ag=d.ag/\d'.aV=d.aV)
 rn:d.bV.bB<=d'.bV.bB
 ri:s'.bA.ID=s.bA.ID
 rk:s'.bA.eP=s.bA.eP
 rs:s.bA.cV<=s'.bA.cV
 sg:s.ag<s'.ag\/(s'.ag=s.ag/\s'.aV=s.aV)
 su:s.aM<+:s'.aM
 wn:s.ax.bB<=s'.ax.bB
theorem C7.refl (d:aJ) (s:ah):C7 d s d s:=⟨rfl,acM _,.inr ⟨rfl,rfl⟩,acM _,rfl,rfl,acM _,.inr ⟨rfl,rfl⟩,acN _,acM _⟩
theorem KS {xs ys:List α} (h:xs<+:ys) (hx:xs[k]?=some x):ys[k]?=some x:=by
 obtain⟨zs,rfl⟩:=h
 rw[aam (aab.1 hx).1];exact hx
theorem Ut {r r':aP} (h1:r'.ID=r.ID) (h2:r'.eP=r.eP) (g:Int):Az r' g=Az r g:=by rw[Az,Az,h1,h2]
theorem Pg {k l l':Int} {v:cA} (h:l<=l') (hb:jj k l v=1\/jj k l v=2):jj k l' v=1\/jj k l' v=2:=by
 revert hb
 rw[jj,jj]
 intro hb
 split at hb
 .rename_i h1;rw[if_pos h1];exact hb
 rename_i h1;rw[if_neg h1]
 split at hb
 .rename_i h2;rw[if_pos oaa];exact .inr rfl
 split at hb<;>omega
theorem FI.mono {d d':aJ} (h:FI d s f) (m:C7 d s d' s'):FI d' s' f:=by
 refine⟨λh1 h2 h3=>?_,λh1 h2=>?_,λh1 h2 h3=>?_⟩
 .rcases h.up h1 h2 h3 with q|q
  .exact .inl (acR q m.rn)
  right
  rcases m.sg with g|⟨g1,g2⟩
  .left;rcases q with q|q<;>omega
  rcases q with q|q
  .left;omega
  right;rw[g1,g2];exact q
 .rcases h.rd h1 h2 with⟨k,g,e,b,q1,q2,q3,q4⟩|q
  .left;exact⟨k,g,e,b,q1,⟨q2.1,Int.lt_of_lt_of_le q2.2 m.wn⟩,KS m.su q3,by rw[Ut m.ri m.rk];exact q4⟩
  right
  rcases m.dg with g|⟨g1,g2⟩
  .left;rcases q with q|q<;>omega
  rcases q with q|q
  .left;omega
  right;rw[g1,g2];exact q
 rcases h.dn h1 h2 h3 with⟨q,q1,q2,q3⟩|q
 .left;exact⟨q,⟨q1.1,acR q1.2 m.rs⟩,q2,by rw[m.ri,m.rk];exact q3⟩
 right;rw[Wk,m.ck];exact Pg m.cl q
structure PI (n:ab):Prop where
 si:∀(i:Nat) d s a,n.av[i]?=some d->n.aF[i]?=some s->n.bG[i]?=some a->SI d s a
 fi:∀f∈n.aK,∀d s,n.av[f.bk.toNat]?=some d->n.aF[f.bk.toNat]?=some s->FI d s f
theorem PI.send (h:PI n) (hf:∀d s,n.av[f.bk.toNat]?=some d->n.aF[f.bk.toNat]?=some s->FI d s f):PI (fm n f):=by
 rw[fm]
 cases leB 200 (n.aK.length:Int)
 .refine⟨h.si,λg hg=>?_⟩
  rcases aad.1 hg with hg|hg
  .exact h.fi g hg
  simp at hg;subst hg;exact hf
 exact⟨h.si,h.fi⟩
theorem PI.sends:∀(l:List bF) {n:ab},PI n->(∀f∈l,∀d s,n.av[f.bk.toNat]?=some d->n.aF[f.bk.toNat]?=some s->FI d s f)->PI (sends n l)
 |[],n,h,_=>h
 |f::l,n,h,hf=>by
  have hk:=rz n f
  exact PI.sends l (h.send (hf f (by simp))) (λg hg=>by rw[hk.1,hk.2.1];exact hf g (by simp[hg]))
theorem PI.setM (h:PI n) {d d':aJ} {a':am} (hd:n.av[i]?=some d) (hs:n.aF[i]?=some s) (hm:C7 d s d' s') (hi:SI d' s' a'):
 PI {n with av:=n.av.set i d',aF:=n.aF.set i s',bG:=n.bG.set i a'}:=by
 refine⟨λj x y z hx hy hz=>?_,λf hf x y hx hy=>?_⟩
 .rcases pM hx with⟨e1,e2⟩|⟨e1,e2⟩<;>rcases pM hy with⟨e3,e4⟩|⟨e3,e4⟩<;>rcases pM hz with⟨e5,e6⟩|⟨e5,e6⟩<;>first|omega|skip
  .subst e2;subst e4;subst e6;exact hi
  exact h.si j x y z e2 e4 e6
 rcases pM hx with⟨e1,e2⟩|⟨e1,e2⟩<;>rcases pM hy with⟨e3,e4⟩|⟨e3,e4⟩<;>first|omega|skip
 .subst e2;subst e4
  exact(h.fi f hf d s (by rw[<-e1];exact hd) (by rw[<-e1];exact hs)).mono hm
 exact h.fi f hf x y e2 e4
structure C6 (d:aJ) (s:ah) (a:am) (r:a9):Prop where
 mo:C7 d s r.bk s
 si:SI r.bk s a
 sg:∀m∈r.db,m.a8=8->m.bL<=r.bk.bV.bB
theorem C6.keep {d:aJ} (h:SI d s a) {r:a9} (h1:r.bk.df=d.df) (h2:r.bk.ag=d.ag) (h3:r.bk.aV=d.aV) (h4:r.bk.bV=d.bV) (h5:∀m∈r.db,m.a8≠8):C6 d s a r:=
 ⟨⟨by rw[h1],by rw[h1];exact acM _,.inr ⟨h2,h3⟩,by rw[h4];exact acM _,rfl,rfl,acM _,.inr ⟨rfl,rfl⟩,acN _,acM _⟩,
  {h with cl:=by rw[h1];exact h.cl,dg:=by rw[h1,h2];exact h.dg,dk:=by rw[h2,h3];exact h.dk,pr:=by rw[h4];exact h.pr,pe:=by rw[h4];exact h.pe,nx:=by rw[h4];exact h.nx,ak:=by rw[h4];exact h.ak},
  λm hm e=>absurd e (h5 m hm)⟩
theorem C6.none {d:aJ} (h:SI d s a):C6 d s a ⟨d,[]⟩:=.keep h rfl rfl rfl rfl (by simp)
section
variable {d:aJ} {s:ah} {a:am} (h:SI d s a)
include h
theorem NV {d':aJ} (h1:d'.df=d.df) (h2:d'.ag=d.ag) (h3:d'.aV=d.aV) (h4:d'.bV=d.bV):C6 d s a (va d'):=
 .keep h h1 h2 h3 h4 (by simp[va,xt,sZ])
theorem TC:C6 d s a (qW d):=by
 rw[qW]
 cases ltB 0 d.eU<;>cases eqB d.bj 1<;>cases eqB d.bj 2&&!d.cj<;>exact .keep h rfl rfl rfl rfl (by simp[zN,xt,sZ])
theorem YL:C6 d s a (dOn d):=by
 rw[dOn];cases eqB d.bj 0<;>exact .keep h rfl rfl rfl rfl (by simp[zN])
theorem TB (c:Int):C6 d s a (sr d c):=by
 rw[sr]
 cases eqB c d.be||!inR c 0 5
 .cases eqB d.bj 2&&ltB d.aT 999999
  .exact .keep h rfl rfl rfl rfl (by simp)
  exact NV h rfl rfl rfl rfl
 exact .none h
theorem WB (hk:d.df.eP=s.bA.eP) (hr:s.bA.cV<=999999) (hf:Wl s m\/Wk d m):C6 d s a (F6 d m):=by
 rw[F6]
 cases hv:eqB (jj d.df.eP d.df.dm m.bW) 0
 .exact .none h
 have hv:=mc hv
 rcases hf with⟨q,q1,q2,q3⟩|q
 .have hq:inR q 0 999999=true:=bO.2 oaa
  rw[q3,hk,SD oaa oaa] at hv
  have hlt:d.df.dm<q:=by
   by_cases hle:q<=d.df.dm
   .rw[if_pos hle] at hv;omega
   omega
  have hu:unm d.df.eP m.bW.er m.bW.fY=q:=by
   rw[q3,hk];simp only[vec,hq,cond_true];exact QY oaa oaa
  have hrand:m.bW.er=FY s.bA.ID q:=by rw[q3];simp only[vec,hq,cond_true]
  have hg:=h.dg
  rw[hk,hrand] at hu
  simp only[cond_true,hu,hrand,q2,hk]
  refine⟨⟨hk.symm,by simp only;omega,.inl (by simp only;omega),acM _,rfl,rfl,acM _,.inr ⟨rfl,rfl⟩,acN _,acM _⟩,{h with cl:=q1.2,dg:=acM _,dk:=λ_=>rfl},λm hm=>by simp at hm;subst hm;intro e;simp at e⟩
 rcases q with q|q<;>omega
theorem WF (hk:d.df.eP=s.bA.eP) (hr:s.bA.cV<=999999) (hf:m.a8=2->Wl s m\/Wk d m):C6 d s a (wg d m):=by
 rw[wg]
 cases !ki m||(!eqB m.be d.be||eqB d.bj 0)
 .simp only[cond_false]
  cases h2:eqB m.a8 2&&eqB d.bj 1
  .simp only[cond_false]
   cases eqB m.a8 4&&(eqB d.bj 1&&(mI d.aV&&(eqB m.ag d.ag&&qT d.aV m)))
   .simp only[cond_false]
    cases eqB m.a8 6&&(eqB d.bj 2&&(eqB m.ag d.ag&&(eqB m.aT d.aT&&qT d.aV m)))
    .simp only[cond_false]
     cases eqB m.a8 7&&(eqB d.bj 3&&ltB d.aT 999999)
     .simp only[cond_false]
      cases eqB m.a8 7&&eqB d.bj 2
      .exact .none h
      exact NV h rfl rfl rfl rfl
     exact NV h rfl rfl rfl rfl
    exact .keep h rfl rfl rfl rfl (by simp)
   exact .keep h rfl rfl rfl rfl (by simp)
  rw[v0] at h2
  exact WB h hk hr (hf (mc h2.1))
 exact .none h
omit h in
theorem U8 {l sub:List bM} {t:List ae} {nx:Int} (hp:l<+:sub) (hn:nx=(l.length:Int)+1) (ht:∀(k:Nat) (y:ae),t[k]?=some y->y.cV=nx+k/\sub[(y.cV-1).toNat]?=some ⟨y.bg⟩):l++t.map (λy=>(⟨y.bg⟩:bM))<+:sub:=by
 obtain⟨zs,hz⟩:=hp
 refine⟨zs.drop t.length,?_⟩
 apply List.ext_getElem?
 intro i
 rw[<-hz]
 by_cases h1:i<l.length
 .rw[aaT,aam h1,aam h1]
 rw[aaT,aap oaa,aap (show l.length<=i by omega)]
 by_cases h2:i-l.length<t.length
 .rw[aam (by simpa using h2),aaI,aaa h2]
  obtain⟨e1,e2⟩:=ht (i-l.length) _ (aaa h2)
  rw[<-hz,e1,aap oaa] at e2
  rw[show(nx+((i-l.length:Nat):Int)-1).toNat-l.length=i-l.length by omega] at e2
  rw[e2];rfl
 rw[aap (by simpa using h2),List.getElem?_drop]
 congr 1;simp;omega
theorem WD (hp:RcV d.bV) (hs:SP s) (hb:∀p∈s.aM,okB p.bg) {x:aA} (hf:EG s x\/RadB d x):C6 d s a (we d x):=by
 simp only[we]
 cases ho:eqB d.bj 2&&(qm d.aV d.ag d.aT x).2
 .exact .none h
 simp only[cond_true]
 rw[v0] at ho
 have hcond:x.ag=d.ag/\x.aT=d.aT/\xk d.aV x=true:=by
  have:=ho.2
  rw[qm] at this
  split at this
  .assumption
  cases this
 rcases hf with⟨k,g,e,b,q1,q2,q3,q4⟩|q
 .have hsub:=aac q3
  have hl:=hs.sl
  have hnx:=hs.nx
  have hgen:d.ag=g:=by rw[<-hcond.1,q4];rfl
  have hep:d.aT=e:=by rw[<-hcond.2.1,q4];rfl
  have hkey:d.aV=Az s.bA g:=by rw[<-hgen];exact h.dk oaa
  have hopen:qm d.aV d.ag d.aT x=(⟨k,b⟩,true):=by
   rw[q4,hgen,hep,hkey]
   exact R4 q2.1 (by show k<=100000;omega) (hb _ hsub) (hs.sd _ hsub) _ _ _
  rw[hopen]
  simp only
  cases hlate:yJ d.bV ⟨k,b⟩
  .obtain⟨t,dd,t1,t2,t3,t4,t5,t6,t7,t8⟩:=HR hp hlate
   have hmem:∀y∈qc ⟨k,b⟩ d.bV.aC,s.aM[(y.cV-1).toNat]?=some ⟨y.bg⟩/\y.cV<s.ax.bB:=λy hy=>by
    rcases B7.1 hy with e|e
    .subst e;exact⟨q3,q2.2⟩
    exact h.pe y e
   have hpre:=U8 (l:=d.bV.bi) (sub:=s.aM) (t:=t) h.pr hp.n (λk y hy=>⟨t2 k y hy,(hmem y (by rw[t1];exact acV _ (aac hy))).1⟩)
   have hnext:(nJ d.bV ⟨k,b⟩).bB<=s.ax.bB:=by
    rw[t3]
    by_cases ht:t.length=0
    .rw[ht];have:=h.nx;simp;omega
    obtain⟨y,hy⟩:∃y,t[t.length-1]?=some y:=⟨_,aaa oaa⟩
    have e1:=t2 _ y hy
    have e2:=(hmem y (by rw[t1];exact acV _ (aac hy))).2
    omega
   have hak:=h.ak
   refine⟨⟨rfl,acM _,.inr ⟨rfl,rfl⟩,by simp only;rw[t3];omega,rfl,rfl,acM _,.inr ⟨rfl,rfl⟩,acN _,acM _⟩,
    {h with pr:=by simp only;rw[t4];exact hpre,pe:=λy hy=>?_,nx:=hnext,ak:=by simp only;rw[t3];omega},λm hm _=>?_⟩
   .simp only at hy
    rcases t6 with e|e
    .rw[e] at hy;exact hmem y (by rw[t1];exact List.mem_append_right _ hy)
    rw[e] at hy;simp at hy
   simp at hm;subst hm;exact acM _
  have e:nJ d.bV ⟨k,b⟩=d.bV:=by rw[nJ,hlate];rfl
  rw[e]
  refine⟨C7.refl d s,h,λm hm _=>?_⟩
  simp at hm;subst hm;exact acM _
 exfalso
 rcases q with q|⟨q1,q2⟩
 .omega
 rw[hcond.2.2] at q2;cases q2
end
theorem W3 {d:aJ} (h:SI d s a):SI (vb d) s a/\C7 d s (vb d) s:=by
 rw[vb]
 cases eqB d.bj 2
 .exact⟨h,C7.refl d s⟩
 have:=C6.keep h (r:=⟨{d with bj:=3},[]⟩) rfl rfl rfl rfl (by simp)
 exact⟨this.si,this.mo⟩
theorem vx (h:PI n) {d:aJ} (hd:n.av[i]?=some d) (hs:n.aF[i]?=some s) (ha:n.bG[i]?=some a) {r:a9} (st:C6 d s a r):PI (gh n i r):=by
 have hi:=(aab.1 hd).1
 have hm:=h.setM hd hs st.mo (a':=a) st.si
 rw[gR hs,gR ha] at hm
 refine PI.sends _ hm λf hf x y hx hy=>?_
 obtain⟨m,hm',rfl⟩:=aa8.1 hf
 simp only[ie,abY] at hx hy
 have e1:(n.av.set i r.bk)[i]?=some r.bk:=by simp[hi]
 rw[e1] at hx;rw[hs] at hy
 cases hx;cases hy
 exact⟨λ_ _ h3=>.inl (st.sg m hm' h3),λh1 _=>by simp[ie] at h1,λh1 _ _=>by simp[ie] at h1⟩
structure FD (d:aJ) (s:ah) (a:am) (r:bI):Prop where
 mo:C7 d s d r.aZ
 si:SI d r.aZ a
 sg:∀m∈r.db,m.a8=2->Wl r.aZ m
theorem VM (xs:List ae) (j:Nat):f9 xs=f9 (xs.take j)+f9 (xs.drop j):=by
 simp only[f9]
 rw[<-acS,<-abc,abL]
theorem LO {l:List bM} {p:bM} (h:l[k]?=some p):mX l (k+1)=mX l k+p.bg.length:=by
 simp only[mX]
 rw[acf,h]
 simp
theorem FV {l:List bM} {u:List ae} {A:Nat} (h:∀(i:Nat) x,u[i]?=some x->l[A+i]?=some ⟨x.bg⟩):∀j:Nat,j<=u.length->mX l (A+j)=mX l A+f9 (u.take j)
 |0,_=>by simp[f9]
 |j+1,hj=>by
  obtain⟨x,hx⟩:∃x,u[j]?=some x:=⟨_,aaa oaa⟩
  rw[<-Nat.add_assoc,LO (h j x hx),FV h j oaa,acf,hx]
  simp only[f9,Option.toList_some,abc,acS,aaA,abe,acQ,List.sum_nil]
  omega
theorem NZ {l l':List bM} (h:l<+:l') (hk:k<=l.length):mX l' k=mX l k:=by
 obtain⟨z,rfl⟩:=h
 simp only[mX]
 rw[List.take_append_of_le_length hk]
theorem zC {x:aP} (h:tp x=true):0<=x.cV/\x.cV<=999999:=by
 simp only[tp,v0,bO] at h;omega
section
variable {d:aJ} {s:ah} {a:am} (h:SI d s a) (g:SG s a)
theorem FD.none (h:SI d s a):FD d s a ⟨s,[]⟩:=⟨C7.refl d s,h,by simp⟩
include h
theorem Rx {l:List aD} (h1:s'.bA=s.bA) (h2:s'.aC=s.aC) (h3:s'.bE=s.bE) (h4:s'.bj=s.bj) (h5:s'.ag=s.ag) (h6:s'.aV=s.aV) (h7:s'.aM=s.aM) (h8:s'.ax=s.ax) (h9:s'.bT.ev=s.bT.ev) (hl:∀m∈l,m.a8≠2):FD d s a ⟨s',l⟩:=by
 refine⟨⟨rfl,acM _,.inr ⟨rfl,rfl⟩,acM _,by rw[h1],by rw[h1],by rw[h1];exact acM _,.inr ⟨h5,h6⟩,by rw[h7];exact acN _,by rw[h8];exact acM _⟩,?_,λm hm e=>absurd e (hl m hm)⟩
 exact⟨by rw[h1];exact h.cl,by rw[h1,h3];exact h.pq,by rw[h3,h5];exact h.pg,by rw[h1,h2,h3];exact h.pv,by rw[h1,h5];exact h.sg,by rw[h4,h5];exact h.s1,by rw[h1,h5,h6];exact h.sk,h.dg,by rw[h1];exact h.dk,by rw[h7];exact h.pr,by rw[h7,h8];exact h.pe,by rw[h8];exact h.nx,by rw[h7,h8];exact h.wn,by rw[h8];exact h.ak,by rw[h7,h8,h9];exact h.ch⟩
include g
theorem Sf (m:aD):FD d s a (Hc s m):=by
 have hr:=zC g.sp.rcd
 simp only[Hc]
 cases hb:eqB s.bA.cV 999999
 .have hb:=H6 hb
  simp only[cond_false]
  refine⟨⟨rfl,acM _,.inr ⟨rfl,rfl⟩,acM _,rfl,rfl,by simp only;omega,.inr ⟨rfl,rfl⟩,acN _,acM _⟩,?_,λx hx e=>?_⟩
  .have h1:=h.cl
   have h2:=h.sg
   exact {h with cl:=by simp only;omega,pq:=acM _,pg:=λ_=>by simp only;omega,pv:=λ_=>rfl,sg:=by simp only;omega,sk:=h.sk,dk:=h.dk}
  simp at hx;subst hx
  exact⟨s.bA.cV+1,⟨by omega,acM _⟩,rfl,rfl⟩
 exact .none h
theorem OR (m:aD):FD d s a (zh s m):=by
 rw[zh]
 cases hb:leB s.bE 0||(!eqB m.ag s.bE||(!eqB m.bL s.aC.vT||leB 999999 s.aT))
 .simp only[aao] at hb
  have hp:=yK hb.1
  have h1:=h.pg hp
  simp only[cond_false,xR]
  refine⟨⟨rfl,acM _,.inr ⟨rfl,rfl⟩,acM _,rfl,rfl,acM _,.inl h1,acN _,acM _⟩,?_,λx hx e=>?_⟩
  .have h2:=h.pq
   have h3:=zC g.sp.rcd
   exact {h with pq:=by show(0:Int)<=s.bA.cV;omega,pg:=λe=>by simp at e,pv:=λe=>by simp at e,sg:=h2,s1:=λ_=>hp,sk:=λ_=>by show s.aC.eP=Az s.bA s.bE;rw[h.pv hp];rfl}
  simp[ub,sZ] at hx;subst hx;simp at e
 exact .none h
omit g in
theorem OO (m:aD):FD d s a (y6 s m):=by
 rw[y6]
 cases !qi s m||(ltB m.aT s.aT||(eqB m.aT s.aT&&!eqB m.be s.be))
 .exact Rx h rfl rfl rfl rfl rfl rfl rfl rfl rfl (by simp[ub,sZ])
 exact .none h
theorem Se (hf:m.bL<=d.bV.bB\/Yy s m):FD d s a (Hb s m):=by
 rw[Hb]
 cases hb:!qi s m||ltB s.ax.bB m.bL
 .simp only[cond_false]
  simp only[aao,Bool.not_eq_false'] at hb
  obtain⟨hk,hn⟩:=hb
  simp only[qi,v0] at hk
  rcases hf with hf|hf
  .have hg:=Jw g m.bL
   have hw:=g.sp.win
   have hd:=IK hw hn
   have hle:=px hn
   have f1:=hw.f
   have f2:=hw.n
   have hch:=h.ch
   have hak:=h.ak
   obtain⟨j,hj⟩:∃j,j=(m.bL-(s.ax.bB-s.ax.aw.length)).toNat:=⟨_,rfl⟩
   rw[<-hj] at hd
   have hjl:j<=s.ax.aw.length:=by omega
   have hnx:(kC s.ax m.bL).bB=s.ax.bB:=by rw[hd]
   have hlen:(kC s.ax m.bL).aw.length=s.ax.aw.length-j:=by rw[hd];simp
   have hacked:lb (kC s.ax m.bL)=lb s.ax+j:=by simp only[lb,hnx,hlen];omega
   have ha0:0<=lb s.ax:=by simp only[lb];omega
   have hcut:=VM s.ax.aw j
   have hb':mX s.aM ((lb s.ax).toNat+j)=mX s.aM (lb s.ax).toNat+f9 (s.ax.aw.take j):=by
    refine FV (λi x hx=>?_) j hjl
    have e1:=(hw.u i x hx).1
    have e2:=h.wn x (aac hx)
    rw[show(lb s.ax).toNat+i=(x.cV-1).toNat by simp only[lb];omega];exact e2
   refine⟨⟨rfl,acM _,.inr ⟨rfl,rfl⟩,acM _,rfl,rfl,acM _,.inr ⟨rfl,rfl⟩,acN _,by simp only[ly,hnx];exact acM _⟩,?_,by simp⟩
   refine⟨h.cl,h.pq,h.pg,h.pv,h.sg,h.s1,h.sk,h.dg,h.dk,h.pr,?_,?_,λx hx=>h.wn x (BA _ _ x hx),?_,?_⟩
   .simp only[ly,hnx];exact h.pe
   .simp only[ly,hnx];exact h.nx
   .show lb (kC s.ax m.bL)<d.bV.bB
    rw[hacked];simp only[lb] at hak ⊢;omega
   rw[hg.2]
   show a.eD+(s.bT.ev+(f9 s.ax.aw-f9 (kC s.ax m.bL).aw))=mX s.aM (lb (kC s.ax m.bL)).toNat
   rw[hacked,show(lb s.ax+(j:Int)).toNat=(lb s.ax).toNat+j by omega,hb',<-hch,hd]
   simp only;omega
  exfalso
  have e1:=mc hk.2.1
  rcases hf with q|⟨q1,q2⟩
  .omega
  rw[hk.2.2] at q2;cases q2
 exact .none h
theorem Vx (hf:m.a8=8->m.bL<=d.bV.bB\/Yy s m):FD d s a (sUp s m):=by
 rw[sUp]
 cases ki m
 .exact .none h
 simp only[au]
 cases eqB m.a8 1
 .cases eqB m.a8 3
  .cases eqB m.a8 5
   .cases h8:eqB m.a8 8
    .exact .none h
    exact Se h g (hf (mc h8))
   exact OO h m
  exact OR h g m
 exact Sf h g m
theorem ON:FD d s a ⟨lB s,[]⟩:=by
 have hr:=zC g.sp.rcd
 exact⟨⟨rfl,acM _,.inr ⟨rfl,rfl⟩,acM _,rfl,rfl,acM _,.inr ⟨rfl,rfl⟩,acN _,acM _⟩,
  {h with pq:=by show(0:Int)<=s.bA.cV;omega,pg:=λe=>by simp[lB] at e,pv:=λe=>by simp[lB] at e},by simp⟩
theorem Sg (b:List Int):FD d s a ⟨(tm s b).1,[]⟩:=by
 rw[tm]
 cases leB 24 (s.aM.length:Int)||ltB 60 (b.length:Int)
 .simp only[cond_false]
  have hp:s.aM<+:s.aM++[(⟨b⟩:bM)]:=List.prefix_append _ _
  have hnx:=g.sp.nx
  refine⟨⟨rfl,acM _,.inr ⟨rfl,rfl⟩,acM _,rfl,rfl,acM _,.inr ⟨rfl,rfl⟩,hp,acM _⟩,
   {h with pr:=h.pr.trans hp,pe:=λx hx=>⟨KS hp (h.pe x hx).1,(h.pe x hx).2⟩,wn:=λx hx=>KS hp (h.wn x hx),ch:=?_},by simp⟩
  show a.eD+s.bT.ev=mX (s.aM++[(⟨b⟩:bM)]) (lb s.ax).toNat
  rw[NZ hp (by simp only[lb];omega)];exact h.ch
 exact .none h
end
theorem EG.mono {x:aA} (h:EG s x) (h1:s'.bA=s.bA) (h2:s'.aM=s.aM) (h3:s.ax.bB<=s'.ax.bB):EG s' x:=by
 obtain⟨k,g,e,b,q1,q2,q3,q4⟩:=h
 exact⟨k,g,e,b,q1,⟨q2.1,by omega⟩,by rw[h2];exact q3,by rw[h1];exact q4⟩
structure TrS (d:aJ) (s:ah) (a:am) (s':ah) (a':am) (r:List aA):Prop where
 rc:s'.bA=s.bA
 gn:s'.ag=s.ag
 rk:s'.aV=s.aV
 su:s'.aM=s.aM
 st:s'.bj=s.bj
 wn:s.ax.bB<=s'.ax.bB
 si:SI d s' a'
 rd:∀x∈r,EG s' x
theorem TrS.mo {d:aJ} {a':am} {r:List aA} (h:TrS d s a s' a' r):C7 d s d s':=
 ⟨rfl,acM _,.inr ⟨rfl,rfl⟩,acM _,by rw[h.rc],by rw[h.rc],by rw[h.rc];exact acM _,.inr ⟨h.gn,h.rk⟩,by rw[h.su];exact acN _,h.wn⟩
theorem SI.pay {d:aJ} {a':am} (h:SI d s a) (h1:s'.bA=s.bA) (h2:s'.aC=s.aC) (h3:s'.bE=s.bE) (h4:s'.bj=s.bj) (h5:s'.ag=s.ag) (h6:s'.aV=s.aV) (h7:s'.aM=s.aM) (h8:s'.ax=s.ax) (h9:a'.eD+s'.bT.ev=a.eD+s.bT.ev):SI d s' a':=
 ⟨by rw[h1];exact h.cl,by rw[h1,h3];exact h.pq,by rw[h3,h5];exact h.pg,by rw[h1,h2,h3];exact h.pv,by rw[h1,h5];exact h.sg,by rw[h4,h5];exact h.s1,by rw[h1,h5,h6];exact h.sk,h.dg,by rw[h1];exact h.dk,by rw[h7];exact h.pr,by rw[h7,h8];exact h.pe,by rw[h8];exact h.nx,by rw[h7,h8];exact h.wn,by rw[h8];exact h.ak,by rw[h9,h7,h8];exact h.ch⟩
theorem N9 (h:SG s a) (n:Int):(dq s a n).2.eD+(dq s a n).1.bT.ev=a.eD+s.bT.ev:=by
 rw[dq]
 cases leB (kR s n) 0
 .have:=(G7 h.mo.acc s.bT.aG (GR (kR s n) s.gF.eg)).2.2.2.2.2.1
  simp only[cond_false,jm,this]
 rfl
theorem Rp {d:aJ} (h:SI d s a) (g:SG s a) (n:Int):SI d (dq s a n).1 (dq s a n).2:=by
 obtain⟨q,hk⟩:=nr s a n
 have hp:=N9 g n
 exact h.pay (by rw[hk]) (by rw[hk]) (by rw[hk]) (by rw[hk]) (by rw[hk]) (by rw[hk]) (by rw[hk]) (by rw[hk]) hp
theorem XH {d:aJ} (h:SI d s a) (g:SG s a) {x:bM} (e:qX s=some x):SI d {s with ax:=pG s.ax x.bg} a:=by
 obtain⟨hm,_,hx,hn,hl,hb⟩:=nh g.sp e
 have hnx:=h.nx
 have hac:lb (pG s.ax x.bg)=lb s.ax:=by simp only[lb,pG,List.length_append,aaj,ab1];omega
 refine⟨h.cl,h.pq,h.pg,h.pv,h.sg,h.s1,h.sk,h.dg,h.dk,h.pr,λy hy=>⟨(h.pe y hy).1,by have:=(h.pe y hy).2;simp only[pG];omega⟩,by simp only[pG];omega,λy hy=>?_,by rw[hac];exact h.ak,by rw[hac];exact h.ch⟩
 simp only[pG,aad,ab4] at hy
 rcases hy with hy|hy
 .exact h.wn y hy
 subst hy;exact hx
theorem Jz {d:aJ} (h:SI d s a) (h1:s.bj=1) {y:ae} (hy:s.aM[(y.cV-1).toNat]?=some ⟨y.bg⟩) (hk:1<=y.cV/\y.cV<s.ax.bB) (e:Int):EG s (iJ s.aV s.ag e y):=by
 have hg:=h.s1 h1
 exact⟨y.cV,s.ag,e,y.bg,hg,hk,hy,by rw[h.sk hg]⟩
theorem JC {d:aJ}:∀(k:Nat) {s:ah} {a:am} {r:List aA},SI d s a->SG s a->s.bj=1->(∀x∈r,EG s x)->TrS d s a (gx k s a r).1 (gx k s a r).2.1 (gx k s a r).2.2
 |0,s,a,r,h,g,h1,hr=>⟨rfl,rfl,rfl,rfl,rfl,acM _,h,hr⟩
 |k+1,s,a,r,h,g,h1,hr=>by
  rw[gx]
  cases e:qX s with
  |none=>exact⟨rfl,rfl,rfl,rfl,rfl,acM _,h,hr⟩
  |some x=>
   obtain⟨hm,_,hx,hn,hl,hb⟩:=nh g.sp e
   have he:=vc g (n:=(x.bg.length:Int)) oaa
   have hsi:=Rp h g (x.bg.length:Int)
   obtain⟨q,hk⟩:=nr s a (x.bg.length:Int)
   have hw:=g.sp.win.n
   simp only
   cases hq:ltB 0 (kR (dq s a (x.bg.length:Int)).1 (x.bg.length:Int))
   .simp only[cond_false]
    have e':qX (dq s a (x.bg.length:Int)).1=some x:=by rw[hk];exact e
    have hsent:=XH hsi he e'
    have hsg:=CG he e' hq
    have hst:({(dq s a (x.bg.length:Int)).1 with ax:=pG (dq s a (x.bg.length:Int)).1.ax x.bg}:ah).bj=1:=by rw[hk];exact h1
    have hrad:∀y∈r++[iJ (dq s a (x.bg.length:Int)).1.aV (dq s a (x.bg.length:Int)).1.ag (dq s a (x.bg.length:Int)).1.aT ⟨(dq s a (x.bg.length:Int)).1.ax.bB,x.bg⟩],EG {(dq s a (x.bg.length:Int)).1 with ax:=pG (dq s a (x.bg.length:Int)).1.ax x.bg} y:=by
     intro y hy
     rcases aad.1 hy with hy|hy
     .exact(hr y hy).mono (by rw[hk]) (by rw[hk]) (by rw[hk];simp only[pG];omega)
     simp at hy;subst hy
     exact Jz hsent hst (y:=⟨(dq s a (x.bg.length:Int)).1.ax.bB,x.bg⟩) (by rw[hk];exact hx) (by rw[hk];simp only[pG];omega) _
    have ih:=JC k hsent hsg hst hrad
    refine⟨by rw[ih.rc,hk],by rw[ih.gn,hk],by rw[ih.rk,hk],by rw[ih.su,hk],by rw[ih.st,hk],?_,ih.si,ih.rd⟩
    refine acR ?_ ih.wn
    rw[hk];simp only[pG];omega
   simp only[cond_true]
   refine⟨by rw[hk],by rw[hk],by rw[hk],by rw[hk],by rw[hk],by rw[hk];exact acM _,hsi,λy hy=>(hr y hy).mono (by rw[hk]) (by rw[hk]) (by rw[hk];exact acM _)⟩
theorem NT {d:aJ} (h:SI d s a) (g:SG s a) (h1:s.bj=1):∀x∈xW s,EG s x:=by
 rw[xW,h1]
 simp only[bw,cond_true]
 intro x hx
 obtain⟨y,hy,rfl⟩:=aa8.1 hx
 have hy:=aaC hy
 obtain⟨k,hk⟩:=aar hy
 have hu:=(g.sp.win.u k y hk).1
 have hf:=g.sp.win.f
 have hlt:=(aab.1 hk).1
 exact Jz h h1 (h.wn y hy) oaa _
theorem Si {d:aJ} (h:SI d s a) (g:SG s a) (m:aS):TrS d s a (nE s a m).aZ (nE s a m).eL (nE s a m).cz/\∀x∈(nE s a m).kF,x.a8=7:=by
 rw[nE]
 cases h1:eqB s.bj 1
 .exact⟨⟨rfl,rfl,rfl,rfl,rfl,acM _,h,by simp⟩,by simp⟩
 have h1:=mc h1
 simp only[au]
 have hg:=Gp g
 have hq:=yV g.sp
 cases ltB 4 (iZ s)
 .simp only[cond_false,M9]
  have hsi:SI d {s with d6:=iZ s,dP:=(lY s).2,bT:=(fQ s a).2} (fQ s a).1:=h.pay rfl rfl rfl rfl rfl rfl rfl rfl hg.2.2.2.1
  have ht:=JC 2 hsi (g.upd hq (yX g.sp)) h1 (r:=[]) (by simp)
  refine⟨⟨ht.rc,ht.gn,ht.rk,ht.su,ht.st,ht.wn,ht.si,λx hx=>?_⟩,by simp⟩
  rcases aad.1 hx with hx|hx
  .have hx':EG s x:=by
    rw[lY] at hx;revert hx
    cases EJ s
    .simp
    cases ltB 0 s.dP
    .exact NT h g h1 x
    simp
   exact hx'.mono ht.rc ht.su ht.wn
  exact ht.rd x hx
 simp only[cond_true,Hl]
 refine⟨⟨rfl,rfl,rfl,rfl,rfl,acM _,h.pay rfl rfl rfl rfl rfl rfl rfl rfl hg.2.2.2.1,by simp⟩,λx hx=>?_⟩
 obtain⟨c,_,rfl⟩:=aa8.1 hx
 rfl
theorem MP.key {nc:Nat} {d:aJ} (h:MP nc i d s a):d.df.eP=s.bA.eP:=by
 have:=h.ids
 simp only[GE,v0,eqB_t] at this
 exact this.2
theorem R6 (h:PI n) {d:aJ} (hd:n.av[i]?=some d) (hs:n.aF[i]?=some s) (ha:n.bG[i]?=some a) {r:bI} (st:FD d s a r):PI (Bd n i r):=by
 have hi:=(aab.1 hs).1
 have hm:=h.setM hd hs st.mo (a':=a) st.si
 rw[gR hd,gR ha] at hm
 refine PI.sends _ hm λf hf x y hx hy=>?_
 obtain⟨m,hm',rfl⟩:=aa8.1 hf
 simp only[ie,abY] at hx hy
 have e1:(n.aF.set i r.aZ)[i]?=some r.aZ:=by simp[hi]
 rw[e1] at hy;rw[hd] at hx
 cases hx;cases hy
 exact⟨λh1 _=>by simp[ie] at h1,λ_ h1=>by simp[ie] at h1,λ_ _ h3=>.inl (st.sg m hm' h3)⟩
theorem U9 (h:PI n) {d:aJ} (hd:n.av[i]?=some d) (hs:n.aF[i]?=some s) (ha:n.bG[i]?=some a) {t:bZ} (st:TrS d s a t.aZ t.eL t.cz) (hp:∀x∈t.kF,x.a8=7):PI (xF n i t):=by
 have hi:=(aab.1 hs).1
 have hm:=h.setM hd hs st.mo st.si
 rw[gR hd] at hm
 have e1:(n.aF.set i t.aZ)[i]?=some t.aZ:=by simp[hi]
 have hpg:=PI.sends (t.kF.map (ie i false)) hm λf hf x y hx hy=>by
  obtain⟨m,hm',rfl⟩:=aa8.1 hf
  have hk:=hp m hm'
  exact⟨λh1 _=>by simp[ie] at h1,λ_ h1=>by simp[ie] at h1,λ_ _ h3=>by simp only[ie] at h3;omega⟩
 have hkeep:=lF (t.kF.map (ie i false)) {n with aF:=n.aF.set i t.aZ,bG:=n.bG.set i t.eL}
 refine PI.sends _ hpg λf hf x y hx hy=>?_
 obtain⟨m,hm',rfl⟩:=aa8.1 hf
 rw[hkeep.2.1] at hy
 simp only[sR,abY] at hy
 rw[e1] at hy;cases hy
 exact⟨λh1=>by simp[sR] at h1,λ_ _=>.inl (st.rd m hm'),λ_ h1=>by simp[sR] at h1⟩
theorem NA:∀(c i:Nat) {B:Int} {n:ab},NP B n->B+c<4611686018427387904->PI n->PI (qZ c i n)
 |0,_,_,_,_,_,h=>h
 |c+1,i,B,n,hn,hB,h=>by
  rw[qZ]
  cases hd:n.av[i]? with
  |none=>exact h
  |some d=>
   obtain⟨d',s,a,e1,e2,e3,hm⟩:=hn.at_ (aab.1 hd).1
   rw[hd] at e1;cases e1
   exact NA c (i+1) (nB hn hd (yb d) (F7 hm.dp) hm.dc oaa) oaa (vx h hd e2 e3 (TC (h.si i d s a hd e2 e3)))
theorem NC:∀(c i:Nat) {B:Int} {n:ab},NP B n->B+2000*c<4611686018427387904->PI n->PI (xO c i n)
 |0,_,_,_,_,_,h=>h
 |c+1,i,B,n,hn,hB,h=>by
  rw[xO]
  cases hs:n.aF[i]? with
  |none=>exact h
  |some s=>cases ha:n.bG[i]? with
   |none=>exact h
   |some a=>
    have hls:=hn.ls
    have hml:=mR hn.map
    obtain⟨d,s',a',e1,e2,e3,hm⟩:=hn.at_ (i:=i) (by have:=(aab.1 hs).1;omega)
    rw[hs] at e2;rw[ha] at e3;cases e2;cases e3
    have ht:=Si (h.si i d s a e1 hs ha) hm.sg n.eo
    exact NC c (i+1) (MQ hn hs ha (CA hm.sg oaa) (Na hm.sg hn.map) oaa) oaa (U9 h e1 hs ha ht.1 ht.2)
theorem Tq (h:PI n) (k:Nat):PI (hP n k):=⟨h.si,λf hf=>h.fi f (by
 simp only[hP,aad] at hf
 rcases hf with hf|hf
 .exact aaC hf
 exact List.mem_of_mem_drop hf)⟩
theorem N3 (hn:NP B n) (h:PI n) (k:Nat):PI (hU n k):=by
 rw[hU]
 cases hf:n.aK[k]? with
 |none=>exact h
 |some f=>
  have hfm:=aac hf
  have hp:=hn.fs f hfm
  have h1:=Tq h k
  have hdd:=hp.d
  obtain⟨d,s,a,e1,e2,e3,hm⟩:=hn.at_ (i:=f.bk.toNat) oaa
  have hfi:=h.fi f hfm d s e1 e2
  have hsi:=h.si _ d s a e1 e2 e3
  have q1:(hP n k).av[f.bk.toNat]?=some d:=e1
  have q2:(hP n k).aF[f.bk.toNat]?=some s:=e2
  have q3:(hP n k).bG[f.bk.toNat]?=some a:=e3
  simp only
  cases A7 (hP n k) f.be
  .exact⟨h1.si,h1.fi⟩
  simp only[q1,q2,au]
  cases hu:f.eH
  .simp only[cond_false]
   cases eqB d.be f.be
   .exact⟨h1.si,h1.fi⟩
   simp only[au]
   cases hr:f.dR
   .exact vx h1 q1 q2 q3 (WF hsi hm.key (zC hm.sg.sp.rcd).2 (λe=>hfi.dn hu hr e))
   exact vx h1 q1 q2 q3 (WD hsi (OK.1 hm.dp.rc.v) hm.sg.sp hm.sg.b1 (hfi.rd hu hr))
  simp only[cond_true]
  cases hr:f.dR||!eqB f.bh.be f.be
  .simp only[cond_false]
   simp only[aao] at hr
   exact R6 h1 q1 q2 q3 (Vx hsi hm.sg (λe=>hfi.up hu hr.1 e))
  exact h1
theorem W0 {d:aJ} (h:(bif f.dR then f.eH||Md d f.cz else bif f.eH then hUp s f.bh else Jb d f.bh)=true):FI d s f:=by
 refine⟨λh1 h2 h3=>?_,λh1 h2=>?_,λh1 h2 h3=>?_⟩
 .rw[h2,h1] at h
  simp only[hUp,h3,show eqB 8 3=false from by simp[eqB],bw,Bool.or_true,au] at h
  right
  rcases aan _ _ |>.mp h with q|q
  .exact .inl (lP q)
  rw[v0] at q;exact .inr ⟨mc q.1,by simpa using q.2⟩
 .rw[h2,h1] at h
  simp only[cond_true,aaJ,Md] at h
  right
  rcases aan _ _ |>.mp h with q|q
  .exact .inl (lP q)
  rw[v0] at q;exact .inr ⟨mc q.1,by simpa using q.2⟩
 rw[h2,h1] at h
 simp only[Jb,h3,bw,au] at h
 right
 rcases aan _ _ |>.mp h with q|q
 .exact .inl (mc q)
 exact .inr (mc q)
theorem PI.same {n':ab} (h:PI n) (h1:n'.av=n.av) (h2:n'.aF=n.aF) (h3:n'.bG=n.bG) (h4:∀f∈n'.aK,f∈n.aK):PI n':=
 ⟨by rw[h1,h2,h3];exact h.si,λf hf=>by rw[h1,h2];exact h.fi f (h4 f hf)⟩
theorem Zv (hn:NP B n) (h:PI n) (e:dh):PI (Il n e).2:=by
 rw[Il]
 cases inR e.cF 0 ((n.av.length:Int)-1)
 .exact h
 simp only[au]
 cases hd:n.av[e.cF.toNat]? with
 |none=>exact h
 |some d=>
  obtain⟨d',s,a,e1,e2,e3,hm⟩:=hn.at_ (aab.1 hd).1
  rw[hd] at e1;cases e1
  have hsi:=h.si _ d s a hd e2 e3
  simp only[e2]
  cases eqB e.a8 5
  .simp only[cond_false]
   cases eqB e.a8 6
   .simp only[cond_false]
    cases eqB e.a8 7
    .simp only[cond_false]
     cases(tm s e.bg).2
     .exact h
     have st:=Sg hsi hm.sg e.bg
     have hm':=h.setM hd e2 st.mo (a':=a) st.si
     rw[gR hd,gR e3] at hm'
     exact hm'
    simp only[cond_true]
    cases eqB d.bj 2
    .exact h
    have st:=W3 hsi
    have hm':=h.setM hd e2 st.2 (a':=a) st.1
    rw[gR e2,gR e3] at hm'
    exact hm'
   simp only[cond_true]
   cases eqB e.be d.be||!eO n.eo e.be
   .exact vx h hd e2 e3 (TB hsi e.be)
   exact h
  simp only[cond_true]
  cases eqB d.bj 0
  .exact h
  exact vx h hd e2 e3 (YL hsi)
theorem Sn (hn:NP B n) (h:PI n) (k:Int) (up:Bool):PI (pU n k up).2:=by
 rw[pU]
 cases !inR k 0 (n.ef.fo-1)||(booB (uw n.ef k) up||eqB (lZ n.ef k up).fj 0)
 .simp only[cond_false]
  have key:∀(i:Nat) d s' a,n.av[i]?=some d->(At n.ef (lZ n.ef k up) n.aF.length 0 n.aF)[i]?=some s'->n.bG[i]?=some a->∃s,n.aF[i]?=some s/\SI d s' a/\C7 d s d s':=by
   intro i d s' a hd hs ha
   rcases rQ n.ef (lZ n.ef k up) n.aF.length 0 n.aF i with q|⟨t,q1,q2⟩
   .rw[q] at hs;exact⟨s',hs,h.si i d s' a hd hs ha,C7.refl d s'⟩
   rw[q2] at hs;cases hs
   have hm:=hn.m i d t a hd q1 ha
   have st:=ON (h.si i d t a hd q1 ha) hm.sg
   exact⟨t,q1,st.si,st.mo⟩
  refine⟨λi d s' a hd hs ha=>?_,λf hf d s' hd hs=>?_⟩
  .obtain⟨s,_,g,_⟩:=key i d s' a hd hs ha;exact g
  obtain⟨d',t,a,e1,e2,e3,hm⟩:=hn.at_ (i:=f.bk.toNat) (aab.1 hd).1
  obtain⟨s,g1,_,g2⟩:=key _ d s' a hd hs e3
  exact(h.fi f hf d s hd g1).mono g2
 exact h
theorem Td (hn:NP B n) (hB:B+10000<4611686018427387904) (h:PI n) (he:EP e) (hh:sE n e=true):PI (jC n e).2:=by
 rw[jC]
 split
 .rw[GU]
  cases hb:leB 100000 n.qz
  .simp only[cond_false]
   have hb:=yK hb
   have hl:=hn.ld
   have hnw:=hn.nw
   have h1:NP B {n with qz:=n.qz+1}:={hn with nw:=by simp only;omega}
   have p1:PI {n with qz:=n.qz+1}:=h.same rfl rfl rfl (λf hf=>hf)
   have p2:=NA n.av.length 0 h1 oaa p1
   have hnp:∀(c i:Nat) {B:Int} {n:ab},NP B n->B+c<4611686018427387904->NP (B+c) (qZ c i n):=by
    intro c
    induction c with
    |zero=>intro i B n hn _;simpa [qZ] using hn
    |succ c ih=>
     intro i B n hn hB
     rw[qZ]
     cases hd:n.av[i]? with
     |none=>exact hn.mono oaa
     |some d=>
      obtain⟨d',s,a,e1,e2,e3,hm⟩:=hn.at_ (aab.1 hd).1
      rw[hd] at e1;cases e1
      exact(ih (i+1) (nB hn hd (yb d) (F7 hm.dp) hm.dc oaa) oaa).mono oaa
   have h2:=hnp n.av.length 0 h1 oaa
   have hls:=h2.ls
   have hl2:=h2.ld
   exact NC _ 0 h2 oaa p2
  exact h
 split
 .rw[tM]
  cases inR e.cF 0 ((n.aK.length:Int)-1)
  .exact h
  simp only[au]
  cases eqB e.a8 2
  .simp only[cond_false]
   cases eqB e.a8 3
   .simp only[cond_false]
    cases leB 200 (n.aK.length:Int)
    .simp only[cond_false]
     cases hf:n.aK[e.cF.toNat]? with
     |none=>exact h
     |some f=>exact h.send (h.fi f (aac hf))
    exact h
   exact(Tq h _).same rfl rfl rfl (λf hf=>hf)
  exact N3 hn h _
 split
 .exact Zv hn h e
 split
 .rw[GT];cases !eO n.eo e.cF||booB (A7 n e.cF) (eqB e.a8 10)
  .exact h.same rfl rfl rfl (λf hf=>hf)
  exact h
 split
 .exact Sn hn h _ _
 split
 .rename_i h13
  rw[Ba];cases hp:Cl n e.bS
  .exact h
  refine h.send λd s hd hs=>?_
  rw[sE,h13,hp] at hh
  simp only[bw,Bool.not_true,aaJ,aan,aaE,decide_eq_true_eq] at hh
  rcases hh with⟨f,hf,rfl⟩|hh
  .exact h.fi _ hf d s hd hs
  rw[Uc,hd,hs] at hh
  exact W0 hh
 exact h
theorem Zp {m:aS} {rs:List aP} {p:bD} {b:Int} (hv:uz rs=true):PI (iz m rs p b rs.length):=by
 refine⟨λi d s a hd hs ha=>?_,λf hf=>by simp[iz] at hf⟩
 obtain⟨hk,rfl⟩:=Cn hd
 obtain⟨_,rfl⟩:=Cn hs
 obtain⟨_,rfl⟩:=Cn ha
 simp only[uz,v0,eJ] at hv
 have hr:=hv.1 i _ (aaa hk)
 simp only[Er,v0] at hr
 have hq:=zC hr.1
 have hg:rs.getD i default=rs[i]:=PS (aaa hk)
 refine⟨acM _,?_,λe=>?_,λe=>?_,?_,λe=>?_,λe=>?_,?_,λe=>?_,?_,?_,?_,?_,?_,?_⟩
 .simp only[mF];rw[hg];exact hq.1
 .simp[mF] at e
 .simp[mF] at e
 .simp only[mF];rw[hg];exact hq.1
 .simp[mF] at e
 .simp[mF] at e
 .simp only[uE];rw[hg];exact hq.1
 .simp[uE] at e
 .simp[uE]
 .simp[uE]
 .simp[uE,mF]
 .simp[mF]
 .simp[lb,mF,uE]
 simp[lb,mF,AO,mX]
theorem Reach.pi:∀{k:Nat} {n:ab},Reach k n->k<=1000000->PI n
 |_,_,.new h hm hp hl _,_=>Zp h.2.2
 |_,_,.step h he hh,hk=>Td (h.np oaa) oaa (h.pi oaa) he hh
section
variable {B:Int} {n:ab} (h:NP B n) {i:Nat} {d:aJ} {s:ah} {a:am} (hd:n.av[i]?=some d) (hs:n.aF[i]?=some s) (ha:n.bG[i]?=some a)
include h hd hs ha
end
def jH (k:Int):Nat:=if k=1 then 4 else if k=2\/k=7 then 3 else if k=3\/k=5 then 2 else 1
def wf (f:bF):Nat:=if f.dR then 2 else jH f.bh.a8
def nL (l:List bF):Nat:=(l.map wf).sum
theorem wk_in (k:Int):1<=jH k/\jH k<=4:=by unfold jH;split;omega;split;omega;split<;>omega
theorem Wd (f:bF):1<=wf f/\wf f<=4:=by
 unfold wf;split
 .omega
 exact wk_in _
theorem HZ (a b:List bF):nL (a++b)=nL a+nL b:=by simp[nL]
theorem RT (n:ab) (f:bF):nL (fm n f).aK<=nL n.aK+wf f:=by
 rw[fm]
 cases leB 200 (n.aK.length:Int)
 .simp only[cond_false];rw[HZ];simp[nL]
 simp only[cond_true];omega
theorem Fs:∀(l:List bF) (n:ab),nL (sends n l).aK<=nL n.aK+nL l
 |[],n=>by simp[sends,nL]
 |f::l,n=>by
  have h1:=RT n f
  have h2:=Fs l (fm n f)
  have e:nL (f::l)=wf f+nL l:=by simp[nL]
  rw[show sends n (f::l)=sends (fm n f) l from rfl,e];omega
theorem cut_w (hf:n.aK[k]?=some f):nL (hP n k).aK+wf f=nL n.aK:=by
 obtain⟨hk,e⟩:=aab.1 hf
 have h:n.aK=n.aK.take k++f::n.aK.drop (k+1):=by
  rw[<-e,<-List.drop_eq_getElem_cons hk,abL]
 have h2:nL n.aK=nL (n.aK.take k)+(wf f+nL (n.aK.drop (k+1))):=by
  conv=>lhs;rw[h]
  rw[HZ];simp[nL]
 simp only[hP];rw[HZ,h2];omega
theorem UY {l:List aD} {i:Int} {up:Bool} {b:Nat} (hl:l.length<=1) (h:∀m∈l,jH m.a8<=b):nL (l.map (ie i up))<=b:=by
 rcases l with _|⟨m,_|⟨x,l⟩⟩
 .exact Nat.zero_le _
 .have h1:=h m (by simp)
  have h2:nL (List.map (ie i up) [m])=jH m.a8:=by
   show wf (ie i up m)+0=_
   rw[Nat.add_zero,wf,if_neg (by simp[ie])];rfl
  rw[h2];exact h1
 simp at hl
theorem Ty {d:aJ}:∀x∈(va d).db,jH x.a8<=2:=by simp[va,xt,sZ,jH]
theorem YO (d:aJ) (m:aD):∀x∈(wg d m).db,jH x.a8+1<=jH m.a8:=by
 rw[wg]
 cases !ki m||(!eqB m.be d.be||eqB d.bj 0)
 .simp only[cond_false]
  cases h2:eqB m.a8 2&&eqB d.bj 1
  .simp only[cond_false]
   cases eqB m.a8 4&&(eqB d.bj 1&&(mI d.aV&&(eqB m.ag d.ag&&qT d.aV m)))
   .simp only[cond_false]
    cases eqB m.a8 6&&(eqB d.bj 2&&(eqB m.ag d.ag&&(eqB m.aT d.aT&&qT d.aV m)))
    .simp only[cond_false]
     cases h7:eqB m.a8 7&&(eqB d.bj 3&&ltB d.aT 999999)
     .simp only[cond_false]
      cases h8:eqB m.a8 7&&eqB d.bj 2
      .simp
      rw[v0] at h8
      intro x hx
      have:=Ty x hx
      have e:=mc h8.1
      rw[e,show jH 7=3 from by simp[jH]];omega
     rw[v0] at h7
     intro x hx
     have:=Ty x hx
     have e:=mc h7.1
     rw[e,show jH 7=3 from by simp[jH]];omega
    simp
   simp
  rw[v0] at h2
  have e:=mc h2.1
  simp only[cond_true,F6]
  cases eqB (jj d.df.eP d.df.dm m.bW) 0
  .simp
  simp[jH,e]
 simp
theorem YN (d:aJ) (x:aA):∀m∈(we d x).db,jH m.a8<=1:=by
 simp only[we]
 cases eqB d.bj 2&&(qm d.aV d.ag d.aT x).2
 .simp
 simp[YK,sZ,jH]
theorem sUp_w (s:ah) (m:aD):∀x∈(sUp s m).db,jH x.a8+1<=jH m.a8:=by
 rw[sUp]
 cases ki m
 .simp
 simp only[au]
 cases h1:eqB m.a8 1
 .cases h3:eqB m.a8 3
  .cases h5:eqB m.a8 5
   .cases h8:eqB m.a8 8
    .simp
    simp only[Hb,au]
    cases !qi s m||ltB s.ax.bB m.bL<;>simp
   have e:=mc h5
   simp only[y6,au]
   cases !qi s m||(ltB m.aT s.aT||(eqB m.aT s.aT&&!eqB m.be s.be))
   .simp[ub,sZ,jH,e]
   simp
  have e:=mc h3
  simp only[zh,au]
  cases leB s.bE 0||(!eqB m.ag s.bE||(!eqB m.bL s.aC.vT||leB 999999 s.aT))
  .simp[ub,sZ,jH,e]
  simp
 have e:=mc h1
 simp only[cond_true,Hc]
 cases eqB s.bA.cV 999999
 .simp[jH,e]
 simp
theorem Rl (hk:k<n.aK.length):nL (hU n k).aK+1<=nL n.aK:=by
 obtain⟨f,hf⟩:∃f,n.aK[k]?=some f:=⟨_,aaa hk⟩
 have hc:=cut_w hf
 have hw:=Wd f
 rw[hU,hf]
 simp only
 cases A7 (hP n k) f.be
 .simp only[Ku,au];omega
 simp only[au]
 cases hu:f.eH
 .simp only[cond_false]
  cases hd:(hP n k).av[f.bk.toNat]? with
  |none=>simp only;omega
  |some d=>
   simp only
   cases eqB d.be f.be
   .simp only[Ku,au];omega
   simp only[au]
   cases hr:f.dR
   .have hwf:wf f=jH f.bh.a8:=by simp[wf,hr]
    simp only[cond_false,gh]
    have h1:=Fs ((wg d f.bh).db.map (ie (f.bk.toNat:Nat) true)) {hP n k with av:=(hP n k).av.set f.bk.toNat (wg d f.bh).bk}
    have h2:=UY (i:=(f.bk.toNat:Int)) (up:=true) (Fj d f.bh).len (b:=jH f.bh.a8-1) (λm hm=>by have:=YO d f.bh m hm;omega)
    simp only at h1;omega
   have hwf:wf f=2:=by simp[wf,hr]
   simp only[cond_true,gh]
   have h1:=Fs ((we d f.cz).db.map (ie (f.bk.toNat:Nat) true)) {hP n k with av:=(hP n k).av.set f.bk.toNat (we d f.cz).bk}
   have h2:=UY (i:=(f.bk.toNat:Int)) (up:=true) (Fi d f.cz).len (b:=1) (YN d f.cz)
   simp only at h1;omega
 simp only[cond_true]
 cases hr:f.dR||!eqB f.bh.be f.be
 .simp only[cond_false]
  simp only[aao] at hr
  have hwf:wf f=jH f.bh.a8:=by simp[wf,hr.1]
  cases hs:(hP n k).aF[f.bk.toNat]? with
  |none=>simp only;omega
  |some s=>
   simp only[Bd]
   have h1:=Fs ((sUp s f.bh).db.map (ie (f.bk.toNat:Nat) false)) {hP n k with aF:=(hP n k).aF.set f.bk.toNat (sUp s f.bh).aZ}
   have h2:=UY (i:=(f.bk.toNat:Int)) (up:=false) (K6 s f.bh).len (b:=jH f.bh.a8-1) (λm hm=>by have:=sUp_w s f.bh m hm;omega)
   simp only at h1;omega
 simp only[cond_true];omega
theorem X0 (l:List bF):nL l<=4*l.length:=by
 induction l with
 |nil=>simp[nL]
 |cons f l ih=>have:=(Wd f).2;simp only[nL,aaA,acQ,aaj] at ih ⊢;omega
structure Paid (d:aJ) (s:ah) (a:am):Prop where
 le:d.bV.bi.length<=s.aM.length
 eq:s.aM.take d.bV.bi.length=d.bV.bi
 ch:a.eD+s.bT.ev<=mX s.aM d.bV.bi.length
 to:a.eD+s.bT.ev<=a.fw
theorem QO {xs:List Int} (hl:xs.length<=1048576) {m:Int} (hm:3<=m/\m<=900):∃r,CM xs m=some r/\3<=r/\r<=m:=by
 have h0:0<=acO (xs.length:Int) 12/\acO (xs.length:Int) 12<=1048576:=by
  rw[Int.tdiv_eq_ediv_of_nonneg oaa];omega
 rw[CM]
 rw[bK (n:=acO (xs.length:Int) 12) oaa,bK (n:=3+acO (xs.length:Int) 12) oaa]
 cases hb:ltB m (3+acO (xs.length:Int) 12)
 .have:=px hb;exact⟨_,rfl,by omega,by omega⟩
 exact⟨m,rfl,by omega,acM _⟩
structure SO (n:ab):Prop where
 np:∃B:Int,NP B n/\B<=100000000
 pi:PI n
 dl:1<=n.av.length/\n.av.length<=3
 re:∃k,Reach k n/\k<=200
 ru:∃k,FC k n/\k<=200
theorem RN.good {B:Nat} (h:RN B l n) (hB:B<=200) (hl:1<=l/\l<=3):SO n:=by
 obtain⟨k,h1,h2,h3⟩:=h
 exact⟨⟨_,h1.re.np oaa,by omega⟩,h1.re.pi oaa,by omega,⟨k,h1.re,by omega⟩,k,h1,by omega⟩
theorem wRunG {xs:List Int} (hl:xs.length<=1048576) (hu:∀x∈xs,wN x) {c:bm} (hc:dO c) {a m:Int} (ha:0<=a/\a<=90) (hm:3<=m/\m<=60) {r:Int} (hr:CM xs m=some r):
 Wp (CW c (WR (a+r))) (λr=>dO r.2.2.2/\SO r.1/\SO r.2.2.1/\r.2.1.length<=1010/\∀e∈r.2.1,EP e):=by
 obtain⟨r',h1,h2,h3⟩:=QO hl (m:=m) oaa
 rw[hr] at h1;cases h1
 rw[bK (n:=a+r) oaa]
 refine Wp.mono (Z8 hc oaa) λx hx=>?_
 obtain⟨g1,l,g2,g3,g4,g5,g6⟩:=hx
 exact⟨g1,g3.good oaa g2,g4.good oaa g2,g5,g6⟩
theorem Lt {xs:List Int} (hl:xs.length<=1048576) (hu:∀x∈xs,wN x):Wp (rF xs) SO:=by
 unfold rF
 obtain⟨c,e,hc,_⟩:=Zq hl hu
 obtain⟨r,h1,_,_⟩:=QO hl (m:=50) oaa
 refine Wp.eq e (Wp.eq h1 ?_)
 unfold zv
 exact Wp.call (P:=λr=>SO r.1) (Wp.call (wRunG hl hu hc (a:=40) (m:=50) oaa oaa h1) λx hx=>Wp.some hx.2.2.1) λx hx=>Wp.some hx
def BJ:Nat->ab->ab
 |0,n=>n
 |c+1,n=>bif eqB (n.aK.length:Int) 0 then n else BJ c (hU n 0)
theorem Wi {l:List bF} (h:l≠[]):1<=nL l:=by
 cases l with
 |nil=>exact absurd rfl h
 |cons f l=>have:=(Wd f).1;simp only[nL,aaA,acQ];omega
theorem F5:∀(c:Nat) (n:ab),nL n.aK<=c->(BJ c n).aK=[]
 |0,n,h=>by
  by_cases e:n.aK=[]
  .exact e
  have:=Wi e;omega
 |c+1,n,h=>by
  rw[BJ]
  cases hb:eqB (n.aK.length:Int) 0
  .have hb:=H6 hb
   have:=Rl (n:=n) (k:=0) oaa
   exact F5 c _ oaa
  have hb:=mc hb
  simp only[cond_true]
  exact List.eq_nil_of_length_eq_zero oaa
theorem PC:∀(c:Nat) {B:Int} {n:ab},NP B n->B+c<4611686018427387904->NP (B+c) (BJ c n)
 |0,B,n,h,_=>by simpa [BJ] using h
 |c+1,B,n,h,hB=>by
  rw[BJ]
  cases eqB (n.aK.length:Int) 0
  .have:=PC c (wh h 0 oaa) oaa
   exact this.mono oaa
  exact h.mono oaa
theorem Ep (h:NP B n) {c:Nat} (hc:800<=c):(BJ c n).aK=[]:=
 F5 c n (by have:=X0 n.aK;have:=h.fl;omega)
theorem Jk:∀(c k fu:Nat) (m:Nat) {B:Int} {n:ab},NP B n->B+c<4611686018427387904->k+c=m->m<=4000->c<fu->iter (jw (m:Int)) fu ((k:Int),n)=some (BJ c n)
 |0,k,fu,m,B,n,h,hB,h1,h2,h3=>by
  cases fu with
  |zero=>omega
  |succ fu=>rw[iter];simp only[jw,ltB_f.2 (show(m:Int)<=(k:Int) by omega),BJ,au]
 |c+1,k,fu,m,B,n,h,hB,h1,h2,h3=>by
  cases fu with
  |zero=>omega
  |succ fu=>
   rw[iter,BJ]
   simp only[jw,ltB_t.2 (show(k:Int)<(m:Int) by omega),au]
   by_cases e:n.aK.length=0
   .rw[ltB_f.2 (show(n.aK.length:Int)<=0 by omega),eqB_t.2 (show(n.aK.length:Int)=0 by omega)];rfl
   rw[ltB_t.2 (show(0:Int)<(n.aK.length:Int) by omega),eqB_f.2 (show(n.aK.length:Int)≠0 by omega)]
   have hd:=IS h (k:=0) oaa
   simp only[au]
   rw[show(0:Int)=((0:Nat):Int) from rfl,hd]
   simp only[abX,WRs (k:=k)]
   exact Jk c (k+1) fu m (wh h 0 oaa) oaa oaa h2 oaa
def ZG (r:aP) (g:Int):Int:=if g=0 then 0 else Az r g
def RadS (s:ah) (x:aA):Prop:=EG s x\/xk (ZG s.bA x.ag) x=false
structure PR (n:ab):Prop where
 dz:∀d∈n.av,d.ag=0->d.aV=0
 sz:∀s∈n.aF,s.ag=0->s.aV=0
 rd:∀f∈n.aK,f.dR=true->f.eH=false/\∀s,n.aF[f.bk.toNat]?=some s->RadS s f.cz
section
variable {B:Int} {n:ab} (hn:NP B n) (h:PR n) {i:Nat} {d:aJ} {s:ah} {a:am} (hd:n.av[i]?=some d) (hs:n.aF[i]?=some s) (ha:n.bG[i]?=some a)
include hn h hd hs ha
end
section
variable {B:Int} {n:ab} (hn:NP B n) (p:PI n) (h:PR n) {i:Nat} {s:ah} (hs:n.aF[i]?=some s)
include hn p h hs
end
theorem my {ρ:Type} {L:Int->Option (cq Int ρ)} (xs:List α) (f:ρ) {c:Option ρ} (hl:xs.length<=9223372036854775806)
 (hs:∀(k:Nat) (x:α),xs[k]?=some x->k<xs.length->L (k:Int)=some (.next ((k+1:Nat):Int))) (he:L (xs.length:Int)=dn c):iter L FU 0=c:=by
 have:=lc (L:=L) xs (λ_ _=>true) f c hl (λk x hx hk=>by rw[hs k x hx hk];rfl) he
 rw[this,C9];rfl
theorem zk {xs:List Int} (hl:xs.length<=1048576):nf xs xs=some true:=by
 simp only[nf,bw,au]
 exact my xs false oaa (λk x hx hk=>by
  simp only[uT,cy hk,bu,hx,bw,WRs (k:=k),au]) (by simp only[uT,bR,cond_false])
theorem CD {xs:List bM} (hl:xs.length<=1048576) (hd:∀p∈xs,p.bg.length<=1048576):kz xs xs=some true:=by
 simp only[kz,bw,au]
 exact my xs false oaa (λk x hx hk=>by
  simp only[pw,cy hk,bu,hx,zk (hd x (aac hx)),WRs (k:=k),au]) (by simp only[pw,bR,cond_false])
theorem CC {xs:List Int} (h:okL (λ_=>True) xs):nf xs xs=some true:=zk h.1
theorem AN {xs:List Int} (h:okL (λ_=>True) xs):vr xs xs=some true:=by
 have hl:=h.1
 simp only[vr,bw,au]
 exact my xs false oaa (λk x hx hk=>by
  simp only[wH,cy hk,bu,hx,bw,WRs (k:=k),au]) (by simp only[wH,bR,cond_false])
theorem Nb {xs:List bM} (h:okL pA xs):kz xs xs=some true:=CD h.1 λp hp=>(h.2 p hp).1
theorem vG {xs:List ae} (h:okL fC xs):oD xs xs=some true:=by
 have hl:=h.1
 simp only[oD,bw,au]
 exact my xs false oaa (λk x hx hk=>by
  simp only[qO,cy hk,bu,hx,bw,CC (h.2 x (aac hx)),WRs (k:=k),au]) (by simp only[qO,bR,cond_false])
theorem Fb {x:aY} (h:il x):tL x x=some true:=by
 simp only[tL,bw,vG h,au]
theorem IC {x:bD} (h:ez x):zV x x=some true:=by
 simp only[zV,bw,AN h,au]
theorem DX {x:ah} (h:dU x):rx x x=some true:=by
 simp only[rx,bw,acP,IC h.1,Nb h.2.1,Fb h.2.2,au]
theorem K7 {x:aS} (h:f8 x):Cb x x=some true:=by
 have hl:=h.1
 simp only[Cb,bw,au]
 exact my x.aX false oaa (λk c hx hk=>by
  simp only[yL,cy hk,bu,hx,bw,AN (h.2 c (aac hx)),WRs (k:=k),au]) (by simp only[yL,bR,cond_false])
theorem CE {x:aO} (h:eM x):pT x x=some true:=by
 simp only[pT,bw,vG h.1,Nb h.2,au]
theorem E9 {x:aJ} (h:eb x):tJ x x=some true:=by
 simp only[tJ,bw,IO,acP,CE h,au]
theorem DW {x:am} (h:gq x):rv x x=some true:=by
 have hl:=h.1
 simp only[rv,bw,au]
 exact my x.aj false oaa (λk r hx hk=>by
  simp only[qI,cy hk,bu,hx,bw,acP,WRs (k:=k),au]) (by simp only[qI,bR,cond_false])
theorem Fa {x:bF} (h:jD x):tK x x=some true:=by
 simp only[tK,A8,wK,bw,IO,acP,CC h,au]
theorem vF (h:g8 n):oC n n=some true:=by
 obtain⟨h0,⟨l1,h1⟩,⟨l2,h2⟩,⟨l3,h3⟩,⟨l4,h4⟩⟩:=h
 simp only[oC,K7 h0,bw,acP,au]
 refine my n.av false oaa (λk x hx hk=>by
  simp only[qJ,cy hk,bu,hx,E9 (h1 x (aac hx)),WRs (k:=k),au]) ?_
 simp only[qJ,bR,cond_false]
 congr 1
 refine my n.aF false oaa (λk x hx hk=>by
  simp only[qK,cy hk,bu,hx,DX (h2 x (aac hx)),WRs (k:=k),au]) ?_
 simp only[qK,bR,cond_false]
 congr 1
 refine my n.bG false oaa (λk x hx hk=>by
  simp only[qL,cy hk,bu,hx,DW (h3 x (aac hx)),WRs (k:=k),au]) ?_
 simp only[qL,bR,cond_false]
 congr 1
 exact my n.aK false oaa (λk x hx hk=>by
  simp only[qN,cy hk,bu,hx,Fa (h4 x (aac hx)),WRs (k:=k),au]) (by simp only[qN,bR,cond_false])
theorem Y6 {xs:List Int} (hl:xs.length<=1048576) (hu:∀x∈xs,wN x) {i:Int} (h0:0<=i) (h1:i<=1000):∃r,lat xs i=some r/\0<=r/\r<=255:=by
 rw[lat]
 cases hb:ltB i (xs.length:Int)
 .simp only[cond_false]
  rw[bK (n:=i*31) oaa,bK (n:=(xs.length:Int)*7) oaa,bK oaa,ab0 oaa]
  exact⟨_,rfl,by omega,by omega⟩
 have hb:=lP hb
 obtain⟨k,rfl⟩:∃k:Nat,i=k:=⟨i.toNat,by omega⟩
 obtain⟨x,hx⟩:∃x,xs[k]?=some x:=⟨_,aaa oaa⟩
 have:=hu x (aac hx)
 unfold wN at this
 simp only[bu,hx,bK (n:=x) oaa,au]
 exact⟨_,rfl,this.1,this.2⟩
theorem L1 (h:NP B n) (hB:B+4000<4611686018427387904) {m:Nat} (hm:m<=4000):iU n (m:Int)=some (BJ m n):=by
 have:=Jk m 0 FU m h oaa oaa hm (by have:=gW;omega)
 simp only[iU,Ox h.okN,zW h.okN,h.vn,gv,bO.2 (show(0:Int)<=(m:Int)/\(m:Int)<=4000 by omega),uP,au]
 rw[show iter (jw (m:Int)) FU (0,n)=_ from this];rfl
theorem Rj (h:NP B n):iU n (-1)=some n:=by
 simp only[iU,Ox h.okN,zW h.okN,h.vn,gv,show inR (-1) 0 4000=false from by simp[inR,leB],au]
theorem ev2 (h:NP B n) (hB:B+10000<4611686018427387904) (hf:0<n.aK.length):p7 n ⟨2,0,0,[],eF⟩=some (hU n 0,true):=by
 have e:jC n ⟨2,0,0,[],eF⟩=(true,hU n 0):=by
  rw[jC,if_neg (show ¬(⟨2,0,0,[],eF⟩:dh).a8=1 by simp),if_pos (show(⟨2,0,0,[],eF⟩:dh).a8=2\/(⟨2,0,0,[],eF⟩:dh).a8=3\/(⟨2,0,0,[],eF⟩:dh).a8=4 from .inl rfl),tM]
  simp only[bO.2 (show(0:Int)<=0/\(0:Int)<=(n.aK.length:Int)-1 by omega),show eqB (2:Int) 2=true from by simp,au]
  rfl
 rw[WU h (BP (by intro x hx;simp at hx)) hB,e]
 rfl
theorem ev2k (n:ab):mM n {d9 with a8:=2}=p7 n ⟨2,0,0,[],eF⟩:=by
 simp[mM,p7,tG,qG,ov,mY,eqB];rfl
section
variable {B Bx:Int} {n x:ab} {b:Int} {k:Nat} (hn:NP B n) (hB:B+4000<4611686018427387904) (hk:abW b 5=(k:Int)) (hx:NP Bx x) (hk4:k<=4)
include hn hB hk hx
theorem PD (hi:(bif ltB (i:Int) (k:Int) then(some (ltB 0 (x.aK.length:Int))) else(some false))=some false):jy n b x ((i:Int),x)=dn (some true):=by
 have h4:iU n 4000=some (BJ 4000 n):=L1 hn hB (m:=4000) oaa
 have hq:=Ep hn (c:=4000) oaa
 simp only[jy,hk,hi,h4,wk,hq,ab1,bw,vF hx.okN,zW hx.okN,hx.vn,Rj hn,vF hn.okN,eqB_t.2 (show((0:Nat):Int)=0 from rfl),au]
include hk4 in
theorem L2:∀(c i fu:Nat) {B:Int} {y:ab},NP B y->B+c<4611686018427377904->i+c=k->c<fu->BJ c y=x->iter (jy n b x) fu ((i:Int),y)=some true
 |0,i,fu,B',y,hy,hB',h1,h2,h3=>by
  cases fu with
  |zero=>omega
  |succ fu=>
   have e:y=x:=h3
   subst e
   rw[iter,PD hn hB hk hx (i:=i) (by rw[ltB_f.2 (show(k:Int)<=(i:Int) by omega)];rfl)];rfl
 |c+1,i,fu,B',y,hy,hB',h1,h2,h3=>by
  cases fu with
  |zero=>omega
  |succ fu=>
   rw[BJ] at h3
   by_cases e:y.aK.length=0
   .rw[eqB_t.2 (show(y.aK.length:Int)=0 by omega),cond_true] at h3
    subst h3
    rw[iter,PD hn hB hk hx (i:=i) (by rw[ltB_f.2 (show(y.aK.length:Int)<=0 by omega)];cases ltB (i:Int) (k:Int)<;>rfl)];rfl
   rw[eqB_f.2 (show(y.aK.length:Int)≠0 by omega),cond_false] at h3
   rw[iter]
   simp only[jy,hk,ltB_t.2 (show(i:Int)<(k:Int) by omega),ltB_t.2 (show(0:Int)<(y.aK.length:Int) by omega),ev2k,ev2 hy oaa (show 0<y.aK.length by omega),WRs (k:=i),au]
   exact L2 c (i+1) fu (wh hy 0 oaa) oaa oaa oaa h3
end
theorem Dx (xs:List Int) (hp:preL wN xs):uR xs=some true:=by
 simp only[uR,Y7,abX]
 cases hb:ltB 1048576 (xs.length:Int) with
 |true=>rfl
 |false=>
  have hl:=px hb
  have hu:=hp.2
  obtain⟨n,hd,hg⟩:=(Lt (xs:=xs) oaa hu).ex
  obtain⟨B,hn,hB⟩:=hg.np
  obtain⟨b,hb0,hb1,hb2⟩:=Y6 (xs:=xs) oaa hu (i:=0) oaa oaa
  obtain⟨k,hk,hk5⟩:∃k:Nat,abW b 5=k/\k<=4:=⟨(abW b 5).toNat,by rw[ab0 hb1];omega,by rw[ab0 hb1];omega⟩
  have hx:=PC k hn oaa
  have hq:=Ep hn (c:=4000) oaa
  simp only[hd,hb0,hk,L1 hn oaa (show k<=4000 by omega),au]
  exact L2 hn oaa hk hx hk5 k 0 FU hn oaa oaa (by have:=gW;omega) rfl
end Go.AM
