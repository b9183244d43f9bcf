/- A part. -/
import Derived.Test.YtbfpkbncbebapaaGreatP1
set_option linter.unusedVariables false
set_option linter.unusedSimpArgs false
open List renaming getElem?_eq_some_iff->W1,mem_of_getElem?->W2,getElem?_eq_getElem->W0,mem_map->X1,mem_append->W3,range->hV,prefix_refl->Zz,mem_range->X4,getElem?_append_right->Xd,getElem?_map->Xv,getElem?_append_left->W9,getElem?_of_mem->Xe,mem_of_mem_take->Xu,any_eq_true->Xr,mem_singleton->X7,getD_eq_getElem?_getD->Ye,map_cons->Xs,take_add_one->YY,mem_or_eq_of_mem_set->Y7,map_append->X5,pairwise_append->YU,mem_append_left->ZH,mem_of_mem_drop->ZC,getElem?_take->Xm,getElem?_set->YB,append_assoc->XI,length_cons->W8,nil_append->X2,length_nil->YS,sum_append->ZE,sum_cons->ZJ,map_nil->X8
open Int renaming le_refl->YP,toNat_natCast->YQ,tmod->YN,tmod_eq_emod_of_nonneg->YV,tdiv->ZB,le_trans->ZD,lt_of_lt_of_le->ZI
open Option renaming bind_some->YO,bind->YL,map_some->Y4
open Bool renaming and_eq_true->v0,or_eq_true->Xg,and_self->ZA,or_eq_false_iff->Xi,true_and->Y0,eq_iff_iff->YR,and_true->Y5,false_or->Xz,and_eq_false_iff->ZG,or_self->YZ,not_true->Yb,or_true->ZF
namespace Go.AM
open Go.Proofs
attribute [local simp] bA bb be
structure JM (v:List (Int×List Int)):Prop where
 ar:∀e∈v,0<=e.1/\e.1<=1
 rg:∀(i:Nat) e,v[i]?=some e->∀x∈e.2,0<=x/\x<v.length/\x≠i
 sy:∀(i j:Nat) e f,v[i]?=some e->v[j]?=some f->(j:Int)∈e.2->(i:Int)∈f.2
def MQ (v:List (Int×List Int)) (a b:Nat) (x y:Int×List Int):List (Int×List Int):=(v.set a (x.1,x.2++[(b:Int)])).set b (y.1,y.2++[(a:Int)])
theorem zJ {v:List (Int×List Int)} {a b:Nat} {x y:Int×List Int} (hx:v[a]?=some x) (hy:v[b]?=some y) (hab:a≠b) {i:Nat} {e':Int×List Int} (h:(MQ v a b x y)[i]?=some e'):
 ∃e,v[i]?=some e/\e'.1=e.1/\∀z,z∈e'.2↔z∈e.2\/(i=a/\z=b)\/(i=b/\z=a):=by
 rcases mg h with⟨e1,e2⟩|⟨e1,e2⟩
 .subst e1;subst e2
  refine⟨y,hy,rfl,λz=>?_⟩
  simp only[W3,X7]
  refine⟨λh=>?_,λh=>?_⟩
  .rcases h with h|h
   .exact .inl h
   exact .inr (.inr ⟨by trivial,h⟩)
  rcases h with h|h|h
  .exact .inl h
  .exact absurd h.1.symm hab
  exact .inr h.2
 rcases mg e2 with⟨e3,e4⟩|⟨e3,e4⟩
 .subst e3;subst e4
  refine⟨x,hx,rfl,λz=>?_⟩
  simp only[W3,X7]
  refine⟨λh=>?_,λh=>?_⟩
  .rcases h with h|h
   .exact .inl h
   exact .inr (.inl ⟨by trivial,h⟩)
  rcases h with h|h|h
  .exact .inl h
  .exact .inr h.2
  exact absurd h.1 hab
 refine⟨e',e4,rfl,λz=>⟨.inl,λh=>?_⟩⟩
 rcases h with h|h|h
 .exact h
 .exact absurd h.1.symm e3
 exact absurd h.1.symm e1
theorem QV {v:List (Int×List Int)} (h:JM v) {a b:Nat} {x y:Int×List Int} (hx:v[a]?=some x) (hy:v[b]?=some y) (hab:a≠b):JM (MQ v a b x y):=by
 have ha:=(W1.1 hx).1
 have hb:=(W1.1 hy).1
 have hl:(MQ v a b x y).length=v.length:=by simp[MQ]
 refine⟨λe he=>?_,λi e he z hz=>?_,λi j e f he hf hj=>?_⟩
 .obtain⟨i,hi⟩:=Xe he
  obtain⟨e0,h0,h1,_⟩:=zJ hx hy hab hi
  rw[h1];exact h.ar e0 (W2 h0)
 .obtain⟨e0,h0,h1,h2⟩:=zJ hx hy hab he
  rw[hl]
  rcases(h2 z).1 hz with hz|hz|hz
  .exact h.rg i e0 h0 z hz
  .obtain⟨rfl,rfl⟩:=hz;omega
  obtain⟨rfl,rfl⟩:=hz;omega
 obtain⟨e0,h0,h1,h2⟩:=zJ hx hy hab he
 obtain⟨f0,g0,g1,g2⟩:=zJ hx hy hab hf
 rw[g2]
 rcases(h2 j).1 hj with hz|hz|hz
 .exact .inl (h.sy i j e0 f0 h0 g0 hz)
 .exact .inr (.inr ⟨by omega,by omega⟩)
 exact .inr (.inl ⟨by omega,by omega⟩)
theorem WW {v:List (Int×List Int)} {a b:Int} {B:Nat} (hB:B<=1000) (hv:∀e∈v,e.2.length<=B) (hj:JM v) (a0:0<=a) (a1:a<v.length) (b0:0<=b) (b1:b<v.length) (hab:a≠b):Wp (tO v a b) (λr=>(r.length=v.length/\∀e∈r,e.2.length<=B+2)/\JM r):=by
 obtain⟨i,rfl⟩:∃i:Nat,a=i:=⟨a.toNat,by omega⟩
 obtain⟨j,rfl⟩:∃j:Nat,b=j:=⟨b.toNat,by omega⟩
 obtain⟨x,hx⟩:∃x,v[i]?=some x:=⟨_,W0 ZK⟩
 obtain⟨y,hy⟩:∃y,v[j]?=some y:=⟨_,W0 ZK⟩
 have h1:=hv x (W2 hx)
 have h2:=hv y (W2 hy)
 have hy':(v.set i (x.1,x.2++[(j:Int)]))[j]?=some y:=by rw[YB,if_neg ZK];exact hy
 unfold tO
 rw[be,hx]
 simp only[YO,YQ]
 refine Wp.ok (gx (by simp;omega) (by simp;omega)) ?_
 rw[be,hy']
 simp only[YO]
 refine Wp.ok (gx (by simp;omega) (by simp;omega)) (Wp.some ⟨⟨by simp,H4 (H4 (λe he=>by have:=hv e he;omega) (by simp;omega)) (by simp;omega)⟩,?_⟩)
 exact QV hj hx hy ZK
structure RW (n:Int) (e e':Int×List Int):Prop where
 a:e'.1=e.1
 m:∀z,z∈e'.2↔z∈e.2/\(0<=z/\z<n)
 o:e'.2.Pairwise λx y=>x<y
 l:(e'.2.length:Int)<=n
theorem LC {v w:List (Int×List Int)} (h:JM v) (hl:w.length=v.length) (h2:2<=v.length/\v.length<=5) (hw:∀(i:Nat) e,v[i]?=some e->∃e',w[i]?=some e'/\RW v.length e e'):ol (⟨w.map λe=>(⟨e.1,e.2⟩:eH)⟩:aM)=true:=by
 have hlen:(w.map λe=>(⟨e.1,e.2⟩:eH)).length=v.length:=by simp[hl]
 have get:∀(i:Nat) c,(w.map λe=>(⟨e.1,e.2⟩:eH))[i]?=some c->∃e e',v[i]?=some e/\w[i]?=some e'/\RW v.length e e'/\c=⟨e'.1,e'.2⟩:=by
  intro i c hc
  have hi:=(W1.1 hc).1
  obtain⟨e,he⟩:∃e,v[i]?=some e:=⟨_,W0 ZK⟩
  obtain⟨e',he',hr⟩:=hw i e he
  rw[Xv,he'] at hc
  cases hc;exact⟨e,e',he,he',hr,rfl⟩
 simp only[ol,v0,bE,ee,hlen]
 refine⟨by omega,λi c hc=>?_⟩
 obtain⟨e,e',he,he',hr,rfl⟩:=get i c hc
 have har:=h.ar e (W2 he)
 simp only[wW,v0,bE,ee,nbB,ef,hlen]
 refine⟨by rw[hr.a];omega,λk x hx=>?_⟩
 have hm:=W2 hx
 have hme:=(hr.m x).1 hm
 have hrg:=h.rg i e he x hme.1
 obtain⟨j,rfl⟩:∃j:Nat,x=j:=⟨x.toNat,by omega⟩
 refine⟨by omega,by have:=hrg.2.2;simpa [eqB] using this,CA (key:=id) (by simpa using hr.o) hx,?_⟩
 obtain⟨f,hf⟩:∃f,v[j]?=some f:=⟨_,W0 ZK⟩
 obtain⟨f',hf',hrf⟩:=hw j f hf
 have hi:=(W1.1 he).1
 have hs:=h.sy i j e f he hf hme.1
 simp only[zi,YQ,Xv,hf',Y4,Xr]
 exact⟨i,(hrf.m i).2 ⟨hs,by omega,by omega⟩,bb _⟩
theorem WU {c:aT} (h:da c):Wp (xu c) (λr=>da r.2/\((2<=r.1.length/\r.1.length<=5)/\∀e∈r.1,e.2.length<=200)/\ol (⟨r.1.map λe=>(⟨e.1,e.2⟩:eH)⟩:aM)=true):=by
 unfold xu
 refine Wp.call (dU h ZK) λr1 h1=>?_
 obtain⟨n,hn⟩:∃n:Int,n=WR (2+r1.1):=⟨_,rfl⟩
 have hn1:n=2+r1.1:=by rw[hn,bL ZK]
 refine Wp.call (P:=λx=>da ⟨x.1,x.2.1,x.2.2.1⟩/\(x.2.2.2.length:Int)=n/\∀a∈x.2.2.2,0<=a/\a<=1) ?_ ?_
 .refine Wp.iterF (λx=>(0<=x.1/\x.1<=n)/\da ⟨x.2.1,x.2.2.1,x.2.2.2.1⟩/\(x.2.2.2.2.length:Int)=x.1/\∀a∈x.2.2.2.2,0<=a/\a<=1) (λx=>(n-x.1).toNat) ⟨⟨by simp only;omega,by simp only;omega⟩,h1.1,by simp,by simp⟩ (by simp only;omega) ?_
  rintro⟨v2,v3,v4,v5,v6⟩ ⟨⟨i0,i1⟩,i2,i3,i4⟩
  simp only at i0 i1 i2 i3 i4
  simp only[BQ,<-hn]
  refine Wp.cond (λhb=>?_) (λhb=>Wp.some ⟨i2,by have:=s4 hb;show(v6.length:Int)=n;omega,i4⟩)
  have hb:=mK hb
  refine Wp.call (dU i2 ZK) λr12 h12=>Wp.ok (gx (by simp;omega) (by simp;omega)) (Wp.some ⟨⟨⟨?_,?_⟩,h12.1,?_,?_⟩,?_⟩)
  all_goals simp only[bL (show-9223372036854775808<=v2+1/\v2+1<=9223372036854775807 by omega)]
  .omega
  .omega
  .simp;omega
  .intro a ha
   rcases W3.1 ha with ha|ha
   .exact i4 a ha
   simp at ha;subst ha;omega
  omega
 rintro⟨v8,v9,v10,v11⟩ ⟨hc,hl,har⟩
 simp only at hc hl har
 refine Wp.call (P:=λx=>da ⟨x.1,x.2.1,x.2.2.1⟩/\((x.2.2.2.length:Int)=n/\∀e∈x.2.2.2,e.2.length<=200)/\JM x.2.2.2) ?_ ?_
 .refine Wp.iterF (λx=>(1<=x.1/\x.1<=n)/\da ⟨x.2.1,x.2.2.1,x.2.2.2.1⟩/\((x.2.2.2.2.length:Int)=n/\∀e∈x.2.2.2.2,e.2.length<=20*x.1.toNat)/\JM x.2.2.2.2) (λx=>(n-x.1).toNat) ⟨⟨by simp only;omega,by simp only;omega⟩,hc,⟨by simpa using hl,by simp⟩,⟨by simpa using har,λi e he x hx=>?_,λi j e f he hf hj=>?_⟩⟩ (by simp only;omega) ?_
  .simp only[Xv] at he
   cases hv:v11[i]?<;>rw[hv] at he<;>cases he;simp at hx
  .simp only[Xv] at he
   cases hv:v11[i]?<;>rw[hv] at he<;>cases he;simp at hj
  rintro⟨v13,v14,v15,v16,v17⟩ ⟨⟨i0,i1⟩,i2,⟨i3,i4⟩,i5⟩
  simp only at i0 i1 i2 i3 i4 i5
  simp only[BR,<-hn]
  refine Wp.cond (λhb=>?_) (λhb=>Wp.some ⟨i2,⟨i3,λe he=>by have:=i4 e he;show e.2.length<=200;omega⟩,i5⟩)
  have hb:=mK hb
  refine Wp.call (P:=λx=>da ⟨x.1,x.2.1,x.2.2.1⟩/\((x.2.2.2.length:Int)=n/\∀e∈x.2.2.2,e.2.length<=20*v13.toNat+2*v13.toNat)/\JM x.2.2.2) ?_ ?_
  .refine Wp.iterF (λx=>(0<=x.1/\x.1<=v13)/\da ⟨x.2.1,x.2.2.1,x.2.2.2.1⟩/\((x.2.2.2.2.length:Int)=n/\∀e∈x.2.2.2.2,e.2.length<=20*v13.toNat+2*x.1.toNat)/\JM x.2.2.2.2) (λx=>(v13-x.1).toNat) ⟨⟨by simp only;omega,by simp only;omega⟩,i2,⟨i3,by simpa using i4⟩,i5⟩ (by simp only;omega) ?_
   rintro⟨v43,v44,v45,v46,v47⟩ ⟨⟨j0,j1⟩,j2,⟨j3,j4⟩,j5⟩
   simp only at j0 j1 j2 j3 j4 j5
   simp only[BS]
   refine Wp.cond (λhc=>?_) (λhc=>Wp.some ⟨j2,⟨j3,λe he=>by have:=j4 e he;have:=s4 hc;show e.2.length<=_;omega⟩,j5⟩)
   have hc:=mK hc
   refine Wp.call (P:=λx=>da ⟨x.2.1,x.2.2.1,x.2.2.2⟩) ?_ ?_
   .refine Wp.cond (λ_=>Wp.call (wZ j2 ZK) λr62 h62=>?_) (λ_=>Wp.call (wZ j2 ZK) λr64 h64=>Wp.some h64)
    exact Wp.cond (λ_=>Wp.some h62) (λ_=>Wp.call (wZ h62 ZK) λr63 h63=>Wp.some h63)
   rintro⟨v58,v59,v60,v61⟩ hc2
   refine Wp.call (P:=λx=>((x.length:Int)=n/\∀e∈x,e.2.length<=20*v13.toNat+2*v43.toNat+2)/\JM x) ?_ ?_
   .refine Wp.cond (λ_=>Wp.call (WW (B:=20*v13.toNat+2*v43.toNat) ZK j4 j5 ZK ZK ZK ZK ZK) λr65 h65=>Wp.some ⟨⟨by rw[h65.1.1];exact j3,h65.1.2⟩,h65.2⟩) (λ_=>Wp.some ⟨⟨j3,λe he=>by have:=j4 e he;omega⟩,j5⟩)
   intro v62 h62
   refine Wp.some ⟨⟨⟨?_,?_⟩,hc2,⟨h62.1.1,λe he=>?_⟩,h62.2⟩,?_⟩
   all_goals simp only[bL (show-9223372036854775808<=v43+1/\v43+1<=9223372036854775807 by omega)]
   .omega
   .omega
   .have:=h62.1.2 e he;omega
   omega
  rintro⟨v55,v56,v57,v58⟩ ⟨k1,⟨k2,k3⟩,k4⟩
  simp only at k1 k2 k3 k4
  refine Wp.some ⟨⟨⟨?_,?_⟩,k1,⟨k2,λe he=>?_⟩,k4⟩,?_⟩
  all_goals simp only[bL (show-9223372036854775808<=v13+1/\v13+1<=9223372036854775807 by omega)]
  .omega
  .omega
  .have:=k3 e he;omega
  omega
 rintro⟨v40,v41,v42,v43⟩ ⟨hc,⟨hl,hb⟩,hj⟩
 simp only at hc hl hb hj
 have hn5:2<=v43.length/\v43.length<=5:=by omega
 refine Wp.call (P:=λx=>((x.length:Int)=n/\∀e∈x,e.2.length<=200)/\∀(i:Nat) e,v43[i]?=some e->∃e',x[i]?=some e'/\RW n e e') ?_ λv78 h78=>Wp.some ⟨hc,⟨by have:=h78.1.1;show 2<=v78.length/\v78.length<=5;omega,h78.1.2⟩,LC hj (by have:=h78.1.1;show v78.length=v43.length;omega) hn5 (by rw[hl];exact h78.2)⟩
 refine Wp.iterF (λx=>(0<=x.1/\x.1<=n)/\((x.2.length:Int)=n/\∀e∈x.2,e.2.length<=200)/\∀(i:Nat) e,v43[i]?=some e->∃e',x.2[i]?=some e'/\((i:Int)<x.1->RW n e e')/\(x.1<=(i:Int)->e'=e)) (λx=>(n-x.1).toNat) ⟨⟨by simp only;omega,by simp only;omega⟩,⟨hl,hb⟩,λi e he=>⟨e,he,λhi=>by simp only at hi;omega,λ_=>rfl⟩⟩ (by simp only;omega) ?_
 rintro⟨v66,v67⟩ ⟨⟨i0,i1⟩,⟨i3,i4⟩,i5⟩
 simp only at i0 i1 i3 i4 i5
 simp only[BT,<-hn]
 refine Wp.cond (λhb=>?_) (λhb=>Wp.some ⟨⟨i3,i4⟩,λi e he=>?_⟩)
 rotate_left
 .obtain⟨e',h1,h2,h3⟩:=i5 i e he
  have hi:=(W1.1 he).1
  have:=s4 hb
  exact⟨e',h1,h2 ZK⟩
 have hb:=mK hb
 obtain⟨q,rfl⟩:∃q:Nat,v66=q:=⟨v66.toNat,by omega⟩
 obtain⟨e0,he0⟩:∃e0,v43[q]?=some e0:=⟨_,W0 ZK⟩
 obtain⟨eq',hq1,_,hq3⟩:=i5 q e0 he0
 have hq3:=hq3 (YP _)
 subst hq3
 have hl0:=i4 eq' (W2 hq1)
 refine Wp.call (P:=λx=>(x.length:Int)<=n/\(∀z,z∈x↔z∈eq'.2/\(0<=z/\z<n))/\x.Pairwise λx y=>x<y) ?_ ?_
 .refine Wp.iterF (λx=>(0<=x.1/\x.1<=n)/\(x.2.length:Int)<=x.1/\(∀z,z∈x.2↔z∈eq'.2/\(0<=z/\z<x.1))/\x.2.Pairwise λx y=>x<y) (λx=>(n-x.1).toNat) ⟨⟨by simp only;omega,by simp only;omega⟩,by simp,λz=>by simp,by simp⟩ (by simp only;omega) ?_
  rintro⟨v79,v80⟩ ⟨⟨j0,j1⟩,j2,j3,j4⟩
  simp only at j0 j1 j2 j3 j4
  simp only[BU,<-hn]
  refine Wp.cond (λhc=>?_) (λhc=>?_)
  rotate_left
  .have:=s4 hc
   have e:v79=n:=by omega
   subst e
   exact Wp.some ⟨j2,j3,j4⟩
  have hc:=mK hc
  simp only[be,hq1,YO,QK (show eq'.2.length<=1048576 by omega)]
  have key:(eq'.2.any λx=>eqB x v79)=true↔v79∈eq'.2:=by
   rw[Xr];exact⟨λ⟨x,h1,h2⟩=>by rw[<-pH h2];exact h1,λh=>⟨v79,h,bb _⟩⟩
  refine Wp.call (P:=λx=>(x.length:Int)<=v79+1/\(∀z,z∈x↔z∈eq'.2/\(0<=z/\z<v79+1))/\x.Pairwise λx y=>x<y) ?_ λx hx=>Wp.some ⟨⟨⟨?_,?_⟩,?_,?_,hx.2.2⟩,?_⟩
  .refine Wp.cond (λhh=>Wp.ok (gx (by simp;omega) (by simp;omega)) (Wp.some ⟨by simp;omega,λz=>?_,?_⟩)) (λhh=>Wp.some ⟨by omega,λz=>?_,j4⟩)
   .have:=key.1 hh
    rw[W3,j3 z]
    constructor
    .rintro(h|h)
     .exact⟨h.1,by omega⟩
     simp at h;subst h;exact⟨this,by omega⟩
    rintro⟨h1,h2⟩
    by_cases e:z=v79
    .exact .inr (by simp[e])
    exact .inl ⟨h1,by omega⟩
   .refine YU.2 ⟨j4,by simp,λx hx y hy=>?_⟩
    simp at hy;subst hy
    exact((j3 x).1 hx).2.2
   rw[j3 z]
   constructor
   .rintro⟨h1,h2⟩;exact⟨h1,by omega⟩
   rintro⟨h1,h2⟩
   refine⟨h1,h2.1,?_⟩
   by_cases e:z=v79
   .subst e;rw[key.2 h1] at hh;cases hh
   omega
  all_goals simp only[bL (show-9223372036854775808<=v79+1/\v79+1<=9223372036854775807 by omega)]
  .omega
  .omega
  .exact hx.1
  .exact hx.2.1
  omega
 intro v84 h84
 simp only[be,hq1,YO,YQ]
 refine Wp.some ⟨⟨⟨?_,?_⟩,⟨by simpa using i3,H4 i4 (by have:=h84.1;show v84.length<=200;omega)⟩,λi e he=>?_⟩,?_⟩
 all_goals simp only[bL (show-9223372036854775808<=(q:Int)+1/\(q:Int)+1<=9223372036854775807 by omega)]
 .omega
 .omega
 .obtain⟨e',h1,h2,h3⟩:=i5 i e he
  by_cases hi:q=i
  .subst hi
   rw[he0] at he;cases he
   exact⟨(eq'.1,v84),by simp[(W1.1 hq1).1],λ_=>⟨rfl,h84.2.1,h84.2.2,h84.1⟩,λh=>by omega⟩
  exact⟨e',by rw[YB,if_neg hi];exact h1,λh=>h2 ZK,λh=>h3 ZK⟩
 omega
theorem SN {c:aT} (h:da c):Wp (An c) (λr=>da r.2/\fw r.1/\ol r.1=true):=by
 unfold An
 exact Wp.call (WU h) λr hr=>Wp.some ⟨hr.1,Rk hr.2.1.1.2 (λe he=>by have:=hr.2.1.2 e he;omega),hr.2.2⟩
open Go.Proofs
attribute [local simp] bA bb be
theorem CO {α τ ρ:Type} {L:τ->Option (cf τ ρ)} (mk:Nat->τ) (xs:List α) (p:Nat->α->Bool) (f:ρ) (c:Option ρ) (hl:xs.length<=9223372036854775806)
 (hs:∀(k:Nat) (x:α),xs[k]?=some x->k<xs.length->L (mk k)=bif p k x then some (.next (mk (k+1))) else some (.done f)) (he:L (mk xs.length)=dn c):
 iter L FU (mk 0)=bif eS p xs then c else some f:=by
 have:=fr (step:=L) xs.zipIdx (λk (_:Unit)=>mk k) (λ_ y=>bif p y.2 y.1 then some (.next ()) else some (.done f)) (λ_=>c) (by simpa using hl)
  (λk y s hy hk=>by
   have hk':k<xs.length:=by simpa using hk
   have:y=(xs[k],k):=by rw[W0 hk] at hy;simpa using hy.symm
   subst this
   rw[hs k xs[k] (W0 hk') hk'];cases p k xs[k]<;>rfl) (λs=>by rw[List.length_zipIdx,he]) ()
 refine Eq.trans (show iter L FU (mk 0)=_ from this) ?_
 have key:∀ys:List (α×Nat),jK (λ(_:Unit) y=>bif p y.2 y.1 then some (.next ()) else some (cf.done f)) (λ_=>c) ys ()=bif ys.all (λy=>p y.2 y.1) then c else some f:=by
  intro ys
  induction ys with
  |nil=>rfl
  |cons x xs ih=>rw[jK];cases hp:p x.2 x.1<;>simp[hp,ih]
 exact key _
theorem AK {α:Type} (xs:List α):eS (λ_ _=>true) xs=true:=ee.2 λ_ _ _=>rfl
theorem Kh {m:aM} (h:fw m):oS m=some m:=by
 have hl:=h.1
 have:=CO (L:=i8 m) (λk=>((k:Int),m.aR.take k)) m.aR (λ_ _=>true) m.aR (some m.aR) ZK (λk x hx hk=>by
  have hm:=W2 hx
  have h1:=(h.2 x hm).1
  have e:m.aR.take (k+1)=m.aR.take k++[x]:=by rw[YY,hx];rfl
  simp only[i8,cg hk,be,hx,X2,e,bN (show k<9223372036854775807 by omega),
   gx (b:=8) (n:=x.bX.length) ZK ZK,
   gx (b:=32) (n:=(m.aR.take k++[(⟨x.fB,x.bX⟩:eH)]).length) (by simp;omega) (by simp;omega),au]) (by simp[i8])
 rw[AK] at this
 have this:iter (i8 m) FU (0,[])=some m.aR:=by simpa using this
 rw[oS,this];rfl
def yR (x y:aG):Bool:=eqB x.ID.du y.ID.du&&(eqB x.ID.bK y.ID.bK&&true)
theorem O3 (x y:aG):yR x y=(eqB x.ID.du y.ID.du&&(eqB x.ID.bK y.ID.bK&&true)):=rfl
def BI (rs:List aG) (k:Nat) (x:aG):Bool:=ro x&&eS (λ_ y=>!yR y x) (rs.take k)
def sQ (rs:List aG):Bool:=eS (BI rs) rs&&leB (rs.length:Int) 4
theorem Kw {α:Type} {xs:List α} {k i:Nat} {x:α} (h:(xs.take k)[i]?=some x):xs[i]?=some x/\i<k:=by
 rw[Xm] at h
 split at h
 .exact⟨h,by assumption⟩
 cases h
theorem Ly {rs:List aG} (hl:rs.length<=1000):sI rs=some (sQ rs):=by
 have h2:∀(i:Nat) (x:aG),rs[i]?=some x->iter (nB rs (i:Int)) FU 0=bif eS (λ_ y=>!yR y x) (rs.take i) then some (.next ((i+1:Nat):Int)) else some (.done false):=by
  intro i x hx
  have hi:=(W1.1 hx).1
  have hlt:(rs.take i).length=i:=by simp;omega
  refine ka (rs.take i) (λ_ y=>!yR y x) (cf.done false) _ ZK (λk y hy hk=>?_) (by simp[nB,hlt,bN (show i<9223372036854775807 by omega)])
  obtain⟨hy',hki⟩:=Kw hy
  simp only[nB,cg hki,be,hx,hy',bN (show k<9223372036854775807 by omega),<-O3,au]
  cases yR y x<;>rfl
 have hL:iter (nz rs) FU 0=bif eS (BI rs) rs then some (leB (rs.length:Int) 4) else some false:=by
  refine ka rs (BI rs) false _ ZK (λk x hx hk=>?_) (by simp[nz])
  simp only[nz,cg hk,be,hx,RD,h2 k x hx,BI,au]
  cases ro x<;>cases eS (λ_ y=>!yR y x) (rs.take k)<;>rfl
 simp only[sI,hL,sQ]
 cases eS (BI rs) rs<;>rfl
def sV (c:Nat) (rs:List aG) (j:Nat):aD:=⟨⟨(rs.getD j default).ID,(rs.getD j default).eP,(rs.getD j default).cV⟩,0,YN (j:Int) (c:Int),0,0,0,false,0,⟨1,[],[]⟩⟩
def ly (p:bk) (rs:List aG) (j:Nat):ah:=⟨rs.getD j default,p,0,⟨0,0,0,0,0⟩,0,0,0,0,0,0,⟨0,0,0⟩,[],⟨1,[]⟩,0,⟨(j:Int),0,0⟩⟩
def zj (b:Int):Int:=bif inR b 0 100000 then b else 0
def yo (b:Int):am:=⟨zj b,zj b,0,[]⟩
def f7 (m:aM) (rs:List aG) (p:bk) (b:Int) (n:Nat):ab:=
 ⟨m,(hV n).map (sV m.aR.length rs),(hV n).map (ly p rs),(hV n).map (λ_=>yo b),[],0,⟨2,3⟩,0,0⟩
def zeroN:ab:=⟨⟨[]⟩,[],[],[],[],0,⟨0,0⟩,0,0⟩
theorem acc_s (b:Int):rY b=some (yo b):=by
 simp only[rY,eQ,YO,yo,zj];cases inR b 0 100000<;>rfl
theorem ses_s {p:bk} (h:d4 p) (x:aG) (k:Int):sa x p k=some (⟨x,p,0,⟨0,0,0,0,0⟩,0,0,0,0,0,0,⟨0,0,0⟩,[],⟨1,[]⟩,0,⟨k,0,0⟩⟩:ah):=by
 have h1:=h.1
 simp only[sa,tW,X2,gx (b:=8) (n:=p.bj.length) ZK ZK,au];rfl
theorem TD (c:me) (k:Int):uC c k=some (⟨c,0,k,0,0,0,false,0,⟨1,[],[]⟩⟩:aD):=by rw[uC];rfl
theorem OW {α:Type} (f:Nat->α) (k:Nat):(hV (k+1)).map f=(hV k).map f++[f k]:=by rw[List.range_succ,X5];rfl
theorem MH {α:Type} [Inhabited α] {xs:List α} {k:Nat} {x:α} (h:xs[k]?=some x):xs.getD k default=x:=by rw[Ye,h];rfl
def mkN (m:aM) (rs:List aG) (p:bk) (b:Int) (k:Nat):Int×List am×List ah×List aD:=((k:Int),(f7 m rs p b k).bi,(f7 m rs p b k).aj,(f7 m rs p b k).an)
theorem new_s {m:aM} (hm:fw m) {rs:List aG} (hl:rs.length<=1000) {p:bk} (hp:d4 p) (b:Int):
 rZ m rs p b=some (bif ol m&&(oX p&&sQ rs) then f7 m rs p b rs.length else zeroN):=by
 simp only[rZ,U5 hm,Sm hp,Ly hl,YO]
 cases hv:ol m with
 |false=>rfl
 |true=>
  cases oX p with
  |false=>rfl
  |true=>
   cases sQ rs with
   |false=>rfl
   |true=>
    have hc:1<=m.aR.length:=by
     simp only[ol,v0] at hv
     have:=bE.1 hv.1;omega
    have hz:eqB (m.aR.length:Int) 0=false:=eqB_f.2 ZK
    have:=CO (L:=m9 m rs p b) (mkN m rs p b) rs (λ_ _=>true) ((f7 m rs p b rs.length).bi,(f7 m rs p b rs.length).aj,(f7 m rs p b rs.length).an) (some ((f7 m rs p b rs.length).bi,(f7 m rs p b rs.length).aj,(f7 m rs p b rs.length).an)) ZK (λk x hx hk=>by
     simp only[mkN,f7,m9,cg hk,be,hx,hz,TD,dO,ses_s hp,acc_s,bN (show k<9223372036854775807 by omega),OW,
      gx (b:=144) (n:=((hV k).map (sV m.aR.length rs)++[(⟨⟨x.ID,x.eP,x.cV⟩,0,YN (k:Int) (m.aR.length:Int),0,0,0,false,0,⟨1,[],[]⟩⟩:aD)]).length) (by simp;omega) (by simp;omega),
      gx (b:=288) (n:=((hV k).map (ly p rs)++[(⟨x,p,0,⟨0,0,0,0,0⟩,0,0,0,0,0,0,⟨0,0,0⟩,[],⟨1,[]⟩,0,⟨(k:Int),0,0⟩⟩:ah)]).length) (by simp;omega) (by simp;omega),
      gx (b:=48) (n:=((hV k).map (λ_=>yo b)++[(⟨(yo b).eJ,(yo b).bQ,(yo b).er,[]⟩:am)]).length) (by simp;omega) (by simp;omega),sV,ly,MH hx,au]
     rfl) (by simp[mkN,m9])
    rw[AK] at this
    simp only[ZA,Kh hm,au]
    rw[show((0:Int),([]:List am),([]:List ah),([]:List aD))=mkN m rs p b 0 from rfl,this]
    rfl
section
variable {m:aM} {rs:List aG} {p:bk} {b:Int}
theorem w0:WR 0=0:=bL ZK
theorem w1:WR 1=1:=bL ZK
theorem okN (hm:fw m) (hp:d4 p) (hl:rs.length<=1000):gp (f7 m rs p b rs.length):=by
 refine⟨hm,⟨by simp[f7];omega,λx hx=>?_⟩,⟨by simp[f7];omega,λx hx=>?_⟩,⟨by simp[f7];omega,λx hx=>?_⟩,⟨by simp[f7],λx hx=>by simp[f7] at hx⟩⟩
 .obtain⟨k,_,rfl⟩:=X1.1 hx
  exact⟨⟨by simp[sV],by simp[sV]⟩,⟨by simp[sV],by simp[sV]⟩⟩
 .obtain⟨k,_,rfl⟩:=X1.1 hx
  exact⟨hp,⟨by simp[ly],by simp[ly]⟩,⟨by simp[ly],by simp[ly]⟩⟩
 obtain⟨k,_,rfl⟩:=X1.1 hx
 exact⟨by simp[yo],λ_ _=>trivial⟩
theorem Gg {α:Type} (f:Nat->α) {n k:Nat} (hk:k<n):((hV n).map f)[k]?=some (f k):=by simp[hk]
theorem zZ {α:Type} {f:Nat->α} {n k:Nat} {x:α} (h:((hV n).map f)[k]?=some x):k<n/\x=f k:=by
 rw[Xv] at h
 by_cases hk:k<n
 .simp[hk] at h;exact⟨hk,h.symm⟩
 simp[hk] at h
theorem Vr (b:Int):0<=zj b/\zj b<=100000:=by
 unfold zj
 cases h:inR b 0 100000 with
 |false=>simp
 |true=>simpa using bE.1 h
theorem Q1 (a:Int):yK a a=some a:=by simp[yK,ltB]
variable (H:ol m=true/\oX p=true/\sQ rs=true)
include H
theorem CZ:1<=m.aR.length/\m.aR.length<=6:=by
 obtain⟨hv,hs,hr⟩:=id H
 simp only[ol,v0] at hv
 have:=bE.1 hv.1;omega
theorem Nz {k:Nat} (hk:k<rs.length):ro (rs.getD k default)=true:=by
 obtain⟨hv,hs,hr⟩:=id H
 simp only[sQ,v0] at hr
 have:=ee.1 hr.1 k _ (W0 hk)
 simp only[BI,v0] at this
 rw[Ye,W0 hk]
 exact this.1
theorem RE:rs.length<=4:=by
 obtain⟨hv,hs,hr⟩:=id H
 simp only[sQ,v0] at hr
 have:=xN hr.2;omega
theorem Vx {k:Nat} (hk:k<rs.length):jX (sV m.aR.length rs k)=true:=by
 obtain⟨hv,hs,hr⟩:=id H
 have h1:=Nz H hk
 obtain⟨c1,c2⟩:=CZ H
 have h2:=CH (v:=(k:Int)) (n:=(m.aR.length:Int)) ZK ZK
 simp only[ro,v0] at h1
 simp only[jX,sV,vg,h1.1,h1.2.1,h1.2.2,bE.2 (show(0:Int)<=YN (k:Int) (m.aR.length:Int)/\YN (k:Int) (m.aR.length:Int)<=5 from⟨h2.1,by omega⟩),Y0,Y5]
 simp[inR,leB,mc,pC,y5,eS,eqB,w1]
theorem Ww {k:Nat} (hk:k<rs.length):it (ly p rs k)=true:=by
 obtain⟨hv,hs,hr⟩:=id H
 have h1:=Nz H hk
 have hq:iB (⟨(k:Int),0,0⟩:cT)=true:=by simp[iB,leB]
 simp only[it,ly,h1,hs,hq,Y0]
 have hp:rO (ly p rs k)=true:=by
  simp[rO,ly,JZ,hq,vZ,w0,leB]
 simp only[ly] at hp
 rw[hp]
 simp[inR,leB,ltB,mc,jj,iH,DA,y5,eS,eqB,w1]
theorem PF:gX (yo b)=true:=by
 obtain⟨hv,hs,hr⟩:=id H
 obtain⟨b1,b2⟩:=Vr b
 simp only[gX,yo,Pm,Pn,List.foldl_nil,Int.add_zero,bL (show-9223372036854775808<=zj b/\zj b<=9223372036854775807 by omega),bE.2 (show(0:Int)<=zj b/\zj b<=100000 from⟨b1,b2⟩),bE.2 (show(0:Int)<=zj b/\zj b<=zj b from⟨b1,by omega⟩),bE.2 (show(0:Int)<=0/\(0:Int)<=zj b from⟨by omega,b1⟩),bb,Y0,Y5]
 simp[leB,eS]
theorem VY {k:Nat} (hk:k<rs.length):uw (f7 m rs p b rs.length) k (sV m.aR.length rs k)=true:=by
 obtain⟨hv,hs,hr⟩:=id H
 obtain⟨c1,c2⟩:=CZ H
 have h2:=CH (v:=(k:Int)) (n:=(m.aR.length:Int)) ZK ZK
 have hq:iB (⟨(k:Int),0,0⟩:cT)=true:=by simp[iB,leB]
 have e1:(f7 m rs p b rs.length).aj[k]?=some (ly p rs k):=Gg _ hk
 have e2:(f7 m rs p b rs.length).bi[k]?=some (yo b):=Gg _ hk
 have i1:Dw (sV m.aR.length rs k) (ly p rs k)=true:=by simp[Dw,sV,ly]
 have i2:ef (f7 m rs p b rs.length).d8 (sV m.aR.length rs k).bg=true:=bE.2 (show(0:Int)<=YN (k:Int) (m.aR.length:Int)/\YN (k:Int) (m.aR.length:Int)<=(m.aR.length:Int)-1 from⟨h2.1,by omega⟩)
 have i3:ef (f7 m rs p b rs.length).d8 (ly p rs k).bg=true:=bE.2 (show(0:Int)<=0/\(0:Int)<=(m.aR.length:Int)-1 from⟨by omega,by omega⟩)
 have i4:uR (yo b) (ly p rs k).bM=true:=by
  have ha:=PF (b:=b) H
  simp only[yo] at ha
  simp[uR,ha,ly,hq,iR,yo,eqB]
 have i5:eqB (ly p rs k).bM.ax (k:Int)=true:=by simp[ly]
 simp only[uw,e1,e2,Vx H hk,Ww H hk,PF (b:=b) H,i1,i2,i3,i4,i5,Y5]
theorem V6:lC (f7 m rs p b rs.length)=true:=by
 obtain⟨hv,hs,hr⟩:=id H
 obtain⟨c1,c2⟩:=CZ H
 have hl:=RE H
 have he:yw (f7 m rs p b rs.length)=true:=by
  have:∀c:Nat,1<=c->c<=6->inR 0 0 (WR ((jY .i64 1 (c:Int))-1))=true:=by
   intro c h1 h2
   rcases(show c=1\/c=2\/c=3\/c=4\/c=5\/c=6 by omega) with rfl|rfl|rfl|rfl|rfl|rfl<;>kernel_rfl
  simp only[yw,f7,this _ c1 c2,Y0];simp[inR,leB]
 have hp:f4 (f7 m rs p b rs.length).cq=true:=by show f4 ⟨2,3⟩=true;kernel_rfl
 have ha:eS (uw (f7 m rs p b rs.length)) (f7 m rs p b rs.length).an=true:=ee.2 λk d hd=>by
  obtain⟨hk,rfl⟩:=zZ hd
  exact VY H hk
 have hd:(f7 m rs p b rs.length).an.length=rs.length:=by simp[f7]
 have hse:(f7 m rs p b rs.length).aj.length=rs.length:=by simp[f7]
 have hac:(f7 m rs p b rs.length).bi.length=rs.length:=by simp[f7]
 simp only[lC,show ol (f7 m rs p b rs.length).d8=true from hv,hp,ha,he,hd,hse,hac,bb,leB_t.2 (show(rs.length:Int)<=4 by omega),Y0,Y5]
 simp[f7,leB,eqB]
end
open Go.Proofs
attribute [local simp] bA bb be
theorem AN:∀(l:List Int) (r:ByteArray),(l.foldl (λr n=>r.push (UInt8.ofNat n.toNat)) r).data.toList=r.data.toList++l.map λn=>UInt8.ofNat n.toNat
 |[],r=>by simp
 |x::l,r=>by
  rw[List.foldl_cons,AN l,Xs]
  simp[ByteArray.push]
theorem PU {a b:List Int} (ha:okB a) (hb:okB b) (h:vj a=vj b):a=b:=by
 have h1:=AN a ByteArray.empty
 have h2:=AN b ByteArray.empty
 have e:(a.foldl (λr n=>r.push (UInt8.ofNat n.toNat)) ByteArray.empty).data.toList=(b.foldl (λr n=>r.push (UInt8.ofNat n.toNat)) ByteArray.empty).data.toList:=by
  have:vj a=vj b:=h
  unfold vj at this;rw[this]
 rw[h1,h2] at e
 replace e:=List.append_cancel_left e
 clear h h1 h2
 induction a generalizing b with
 |nil=>cases b with
  |nil=>rfl
  |cons y b=>simp at e
 |cons x a ih=>cases b with
  |nil=>simp at e
  |cons y b=>
   simp only[Xs,List.cons.injEq] at e
   have hx:=ha x (by simp)
   have hy:=hb y (by simp)
   have e1:=congrArg UInt8.toNat e.1
   simp only[ux] at hx hy
   rw[UInt8.toNat_ofNat',UInt8.toNat_ofNat'] at e1
   rw[ih (λz hz=>ha z (by simp[hz])) (λz hz=>hb z (by simp[hz])) e.2,show x=y by omega]
theorem NJ {a b:List Int} (ha:okB a) (hb:okB b):strB (vj a) (vj b)=decide (a=b):=by
 rw[YR,strB_t,decide_eq_true_eq]
 exact⟨PU ha hb,λh=>by rw[h]⟩
theorem Ul {x y:aC} (hx:okB x.bp.aS) (hy:okB y.bp.aS):rR x y=some (decide (x=y)):=by
 have key:(bif eqB x.ag y.ag then bif eqB x.a9 y.a9 then bif eqB x.bp.di y.bp.di then bif eqB x.bp.fP y.bp.fP then bif eqB x.bp.iZ y.bp.iZ then decide (x.bp.aS=y.bp.aS) else false else false else false else false else false)=decide (x=y):=by
  rw[YR]
  obtain⟨g,e,⟨a,b,c,d⟩⟩:=x
  obtain⟨g',e',⟨a',b',c',d'⟩⟩:=y
  simp only[eqB,cond_eq_ite]
  simp only[decide_eq_true_eq,aC.mk.injEq,bw.mk.injEq]
  constructor
  .intro h
   split at h<;>try (cases h;done)
   split at h<;>try (cases h;done)
   split at h<;>try (cases h;done)
   split at h<;>try (cases h;done)
   split at h<;>try (cases h;done)
   simp_all
  rintro⟨rfl,rfl,rfl,rfl,rfl,rfl⟩;simp
 rw[<-key]
 simp only[rR,s8,lZ,NJ hx hy]
 cases eqB x.ag y.ag<;>cases eqB x.a9 y.a9<;>cases eqB x.bp.di y.bp.di<;>cases eqB x.bp.fP y.bp.fP<;>cases eqB x.bp.iZ y.bp.iZ<;>rfl
def Sd (a b:aH):Bool:=(eqB a.aV b.aV&&(eqB a.bg b.bg&&(eqB a.ag b.ag&&(eqB a.a9 b.a9&&(eqB a.bK b.bK&&(eqB a.bP.fj b.bP.fj&&(eqB a.bP.hO b.bP.hO&&(eqB a.bP.iZ b.bP.iZ&&(eqB a.bP.vp b.bP.vp&&(eqB a.bP.eP b.bP.eP&&(eqB a.iZ b.iZ&&true)))))))))))
theorem UF (a b:aH):Sd a b=decide (a=b):=by
 rw[YR]
 obtain⟨a1,a2,a3,a4,a5,⟨v1,v2,v3,v4,v5⟩,a6⟩:=a
 obtain⟨b1,b2,b3,b4,b5,⟨w1,w2,w3,w4,w5⟩,b6⟩:=b
 simp only[Sd,v0,eqB_t,decide_eq_true_eq,aH.mk.injEq,cX.mk.injEq]
 constructor
 .rintro⟨rfl,rfl,rfl,rfl,rfl,rfl,rfl,rfl,rfl,rfl,rfl,_⟩;simp
 rintro⟨rfl,rfl,rfl,rfl,rfl,⟨rfl,rfl,rfl,rfl,rfl⟩,rfl⟩;simp
theorem Wt {x y:bD} (hx:okB x.cr.bp.aS) (hy:okB y.cr.bp.aS):nC x y=some (decide (x=y)):=by
 have key:(eqB x.bv y.bv&&(booB x.em y.em&&(booB x.dt y.dt&&(eqB x.bg y.bg&&(Sd x.aY y.aY&&decide (x.cr=y.cr))))))=decide (x=y):=by
  rw[YR]
  obtain⟨a1,a2,a3,a4,a5,a6⟩:=x
  obtain⟨b1,b2,b3,b4,b5,b6⟩:=y
  simp only[UF,v0,eqB_t,booB_t,decide_eq_true_eq,bD.mk.injEq]
 rw[<-key]
 simp only[nC,Ul hx hy,YO]
 rw[show(eqB x.aY.aV y.aY.aV&&(eqB x.aY.bg y.aY.bg&&(eqB x.aY.ag y.aY.ag&&(eqB x.aY.a9 y.aY.a9&&(eqB x.aY.bK y.aY.bK&&(eqB x.aY.bP.fj y.aY.bP.fj&&(eqB x.aY.bP.hO y.aY.bP.hO&&(eqB x.aY.bP.iZ y.aY.bP.iZ&&(eqB x.aY.bP.vp y.aY.bP.vp&&(eqB x.aY.bP.eP y.aY.bP.eP&&(eqB x.aY.iZ y.aY.iZ&&true)))))))))))=Sd x.aY y.aY from rfl]
 cases eqB x.bv y.bv<;>cases booB x.em y.em<;>cases booB x.dt y.dt<;>cases eqB x.bg y.bg<;>cases Sd x.aY y.aY<;>rfl
def hUp (s:ah) (m:aH):Bool:=
 bif eqB m.aV 3 then leB m.ag s.bC.cV&&(!eqB m.ag s.bF||!eqB m.bK s.aF.vp) else
 bif eqB m.aV 5||eqB m.aV 8 then ltB m.ag s.ag||(eqB m.ag s.ag&&!wY s.aO m) else true
def F2 (d:aD) (m:aH):Bool:=
 bif eqB m.aV 2 then eqB (kS d.c9.eP d.c9.dM m.bP) 1||eqB (kS d.c9.eP d.c9.dM m.bP) 2 else
 bif eqB m.aV 4||eqB m.aV 6 then ltB m.ag d.ag||(eqB m.ag d.ag&&!wY d.aO m) else true
def Jl (d:aD) (x:aC):Bool:=ltB x.ag d.ag||(eqB x.ag d.ag&&!wX d.aO x)
def QI (n:ab) (f:bD):Bool:=match n.an[f.bv.toNat]?,n.aj[f.bv.toNat]? with
 |some d,some s=>bif f.dt then f.em||Jl d f.cr else bif f.em then hUp s f.aY else F2 d f.aY
 |_,_=>true
def qy (n:ab) (e:cR):Bool:=!eqB e.aV 13||(!we n e.bG||(n.aN.any (λf=>decide (f=e.bG))||QI n e.bG))
theorem hUp_s (s:ah) (m:aH):nE s m=some (hUp s m):=by
 simp only[nE,In,YO,hUp]
 cases eqB m.aV 3<;>cases eqB m.aV 5<;>cases eqB m.aV 8<;>cases leB m.ag s.bC.cV<;>cases eqB m.ag s.bF<;>cases ltB m.ag s.ag<;>cases eqB m.ag s.ag<;>rfl
theorem TO {d:aD} (m:aH):kO d m=some (F2 d m):=by
 simp only[kO,In,NU,YO,F2]
 cases eqB m.aV 2<;>cases eqB m.aV 4<;>cases eqB m.aV 6<;>cases eqB (kS d.c9.eP d.c9.dM m.bP) 1<;>cases ltB m.ag d.ag<;>cases eqB m.ag d.ag<;>rfl
theorem Wj {B:Int} {n:ab} (h:NP B n) (f:bD):ji n f=some (we n f):=by
 have hm6:=mL h.map
 have hl:=h.ld
 simp only[ji,we,eQ,bL (n:=(n.d8.aR.length:Int)-1) ZK,bL (n:=(n.an.length:Int)-1) ZK,YO]
 rw[show inR f.bg 0 ((n.d8.aR.length:Int)-1)=ef n.d8 f.bg from rfl]
 cases ltB (n.aN.length:Int) 200<;>cases inR f.bv 0 ((n.an.length:Int)-1)<;>rfl
theorem TR {B:Int} {n:ab} (h:NP B n) {e:cR} (he:EP e):rS n e=some (qy n e):=by
 have hfl:=h.fl
 simp only[rS,F9 h.okN,h.vn,Wj h,YO,qy]
 cases eqB e.aV 13
 .rfl
 cases hp:we n e.bG
 .rfl
 simp only[Xz,au]
 simp only[we,v0,bE] at hp
 obtain⟨d,s,a,e1,e2,e3,hm⟩:=h.at_ (show e.bG.bv.toNat<n.an.length by omega)
 have hdev:=Qc e.bG.bv hp.2.1.1
 have i1:ix n.an e.bG.bv=some d:=by rw[hdev,be];exact e1
 have i2:ix n.aj e.bG.bv=some s:=by rw[hdev,be];exact e2
 have:=ka (L:=mS n e) n.aN (λ_ f=>!decide (f=e.bG)) true (some (QI n e.bG)) ZK (λk x hx hk=>by
  have hx':=h.fs x (W2 hx)
  simp only[mS,cg hk,be,hx,Wt hx'.b he.r,bN (show k<9223372036854775807 by omega),dn,au]
  cases decide (x=e.bG)<;>rfl) (by
  simp only[mS,bA,i1,i2,hUp_s,TO,vc he.r,QI,e1,e2,Jl,au]
  cases e.bG.dt<;>cases e.bG.em<;>cases ltB e.bG.cr.ag d.ag<;>cases eqB e.bG.cr.ag d.ag<;>rfl)
 rw[this,qm]
 rw[show n.aN.all (λf=>!decide (f=e.bG))=!n.aN.any (λf=>decide (f=e.bG)) by rw[<-List.not_any_eq_all_not]]
 cases n.aN.any (λf=>decide (f=e.bG))<;>rfl
open Go.Proofs
attribute [local simp] bA bb be
theorem WX {c:aT} (h:da c):Wp (At c) (λr=>da r.2/\r.1.bj.length<=4/\oX r.1=true):=by
 unfold At
 refine Wp.call (dU h ZK) λr1 h1=>Wp.call (dU h1.1 ZK) λr2 h2=>Wp.call (dU h2.1 ZK) λr3 h3=>?_
 refine Wp.call (P:=λx=>da x.2/\x.1.length<=4/\(∀a∈x.1,0<=a/\a<=3)/\x.1.Pairwise λa b=>a<b) ?_ ?_
 .refine Wp.iterF (λx=>(0<=x.1/\x.1<=4)/\da x.2.2/\(x.2.1.length:Int)<=x.1/\(∀a∈x.2.1,0<=a/\a<x.1)/\x.2.1.Pairwise λa b=>a<b) (λx=>(4-x.1).toNat) ⟨⟨by omega,by omega⟩,h3.1,by simp,by simp,by simp⟩ (by simp) ?_
  rintro⟨v4,v8,v9⟩ ⟨⟨i0,i1⟩,i2,i3,i4,i5⟩
  simp only at i0 i1 i2 i3 i4 i5
  simp only[BW]
  refine Wp.cond (λhb=>?_) (λhb=>Wp.some ⟨i2,by show v8.length<=4;omega,λa ha=>by have:=i4 a ha;omega,i5⟩)
  have hb:=mK hb
  refine Wp.call (wZ i2 ZK) λr15 h15=>?_
  refine Wp.call (P:=λx=>(x.length:Int)<=v4+1/\(∀a∈x,0<=a/\a<v4+1)/\x.Pairwise λa b=>a<b) ?_ λx hx=>Wp.some ⟨⟨⟨?_,?_⟩,h15,?_,?_,hx.2.2⟩,?_⟩
  .refine Wp.cond (λ_=>Wp.ok (gx (by simp;omega) (by simp;omega)) (Wp.some ⟨by simp;omega,λa ha=>?_,?_⟩)) (λ_=>Wp.some ⟨by omega,λa ha=>by have:=i4 a ha;omega,i5⟩)
   .rcases W3.1 ha with ha|ha
    .have:=i4 a ha;omega
    simp at ha;omega
   refine YU.2 ⟨i5,by simp,λx hx y hy=>?_⟩
   simp at hy;have:=i4 x hx;omega
  all_goals simp only[bL (show-9223372036854775808<=v4+1/\v4+1<=9223372036854775807 by omega)]
  .omega
  .omega
  .exact hx.1
  .exact hx.2.1
  omega
 rintro⟨x,c2⟩ ⟨k1,k2,k3,k4⟩
 simp only at k1 k2 k3 k4
 refine Wp.some ⟨k1,k2,?_⟩
 simp only[oX,A5,v0,bE,ee]
 rw[bL (show-9223372036854775808<=1+r1.1/\1+r1.1<=9223372036854775807 by omega),bL (show-9223372036854775808<=1+r2.1/\1+r2.1<=9223372036854775807 by omega),bL (show-9223372036854775808<=1+r3.1/\1+r3.1<=9223372036854775807 by omega)]
 refine⟨⟨by omega,by omega,by omega⟩,λk a ha=>⟨k3 a (W2 ha),CA (key:=id) (by simpa using k4) ha⟩⟩
theorem SR {c:aT} (h:da c):Wp (lK c) (λr=>da r.2/\(1<=r.1.length/\r.1.length<=3)/\sQ r.1=true/\∀y∈r.1,y.cV<=20):=by
 unfold lK
 refine Wp.call (dU h ZK) λr1 h1=>?_
 have hw:WR (1+r1.1)=1+r1.1:=bL ZK
 refine Wp.call (P:=λx=>da x.2/\(x.1.length:Int)=1+r1.1/\∀(k:Nat) y,x.1[k]?=some y->ro y=true/\y.ID.bK=1+r1.1-k/\y.cV<=20) ?_ ?_
 .refine Wp.iterF (λx=>0<=x.1/\da x.2.2/\(x.2.1.length:Int)+x.1=1+r1.1/\∀(k:Nat) y,x.2.1[k]?=some y->ro y=true/\y.ID.bK=1+r1.1-k/\y.cV<=20) (λx=>x.1.toNat) ⟨by rw[hw];omega,h1.1,by rw[hw];simp,by simp⟩ (by simp only;rw[hw];omega) ?_
  rintro⟨v2,v6,v7⟩ ⟨i0,i2,i3,i4⟩
  simp only at i0 i2 i3 i4
  simp only[qY]
  refine Wp.cond (λhb=>?_) (λhb=>Wp.some ⟨i2,by have:=s4 hb;show(v6.length:Int)=_;omega,i4⟩)
  have hb:=mK hb
  have hkey:Wp (yZ v7) (λr=>da r.2/\mc r.1=true):=by
   unfold yZ
   exact Wp.call (dU i2 ZK) λr1 h1=>Wp.some ⟨h1.1,bE.2 (by rw[bL ZK];omega)⟩
  refine Wp.call hkey λr13 h13=>Wp.call (dU h13.1 ZK) λr14 h14=>Wp.ok (gx (by simp;omega) (by simp;omega)) (Wp.some ⟨⟨?_,h14.1,?_,λk y hy=>?_⟩,?_⟩)
  rotate_left 2
  .rw[List.getElem?_append] at hy
   split at hy
   .exact i4 k y hy
   rename_i hk
   have hk0:k-v6.length=0:=by
    have:=(W1.1 hy).1
    simp at this;omega
   rw[hk0] at hy
   simp at hy;subst hy
   simp only[ro,EN,v0,bE]
   exact⟨⟨⟨by omega,by omega⟩,h13.2,by omega⟩,by omega,by omega⟩
  all_goals simp only[bL (show-9223372036854775808<=v2-1/\v2-1<=9223372036854775807 by omega)]
  .omega
  .omega
  simp;omega
 rintro⟨x,c2⟩ ⟨k1,k2,k3⟩
 simp only at k1 k2 k3
 refine Wp.some ⟨k1,by show 1<=x.length/\x.length<=3;omega,?_,λy hy=>by obtain⟨k,hk⟩:=Xe hy;exact(k3 k y hk).2.2⟩
 simp only[sQ,v0,ee,BI]
 refine⟨λk y hy=>⟨(k3 k y hy).1,λi z hz=>?_⟩,leB_t.2 ZK⟩
 obtain⟨hz1,hz2⟩:=Kw hz
 have e1:=(k3 k y hy).2.1
 have e2:=(k3 i z hz1).2.1
 have:eqB z.ID.bK y.ID.bK=false:=eqB_f.2 ZK
 simp[yR,this]
inductive Reach:Nat->ab->Prop
 |new {m:aM} {rs:List aG} {p:bk} {b:Int} (h:ol m=true/\oX p=true/\sQ rs=true) (hm:fw m) (hp:d4 p) (hl:1<=rs.length/\rs.length<=3) (hq:∀y∈rs,y.cV<=20):Reach 0 (f7 m rs p b rs.length)
 |step {k:Nat} {n:ab} {e:cR}:Reach k n->EP e->qy n e=true->Reach (k+1) (jd n e).2
def FS (n:ab) (e:cR):Prop:=e.aV=13->e.bG.dt=true->e.bG.em=false/\∃d,n.an[e.bG.bv.toNat]?=some d/\e.bG.cr.ag=d.ag/\wX d.aO e.bG.cr=false
theorem Dl (n:ab) {e:cR} (h:e.aV≠13):FS n e:=λh1=>absurd h1 h
inductive AJ:Nat->ab->Prop
 |new {m:aM} {rs:List aG} {p:bk} {b:Int} (h:ol m=true/\oX p=true/\sQ rs=true) (hm:fw m) (hp:d4 p) (hl:1<=rs.length/\rs.length<=3) (hq:∀y∈rs,y.cV<=20):AJ 0 (f7 m rs p b rs.length)
 |step {k:Nat} {n:ab} {e:cR}:AJ k n->EP e->qy n e=true->FS n e->AJ (k+1) (jd n e).2
theorem AJ.re:∀{k:Nat} {n:ab},AJ k n->Reach k n
 |_,_,.new h hm hp hl hq=>.new h hm hp hl hq
 |_,_,.step h he hh _=>.step h.re he hh
theorem Reach.np:∀{k:Nat} {n:ab},Reach k n->k<=1000000->NP (10000*(k:Int)) n
 |_,_,.new (m:=m) (rs:=rs) (p:=p) (b:=b) h hm hp hl _,_=>by
  have ok:gp (f7 m rs p b rs.length):=okN hm hp ZK
  have v:=V6 (b:=b) h
  have by':BY (f7 m rs p b rs.length):=by
   refine⟨λd hd=>?_,λd hd=>?_,λs hs=>?_,λs hs=>?_,by simp[f7]⟩
   .simp only[f7,X1] at hd;obtain⟨j,_,rfl⟩:=hd;simp[sV]
   .simp only[f7,X1] at hd;obtain⟨j,_,rfl⟩:=hd;simp[sV]
   .simp only[f7,X1] at hs;obtain⟨j,_,rfl⟩:=hs;simp[ly]
   simp only[f7,X1] at hs;obtain⟨j,_,rfl⟩:=hs;simp[ly]
  exact(NP.of ok v by').mono (by show(0:Int)<=_;omega)
 |_,_,.step (k:=k) h he _,hk=>by
  have:=(CP (h.np ZK) he ZK).2.2
  exact this.mono ZK
theorem zv {k i c:Int} {b:List Int} (hb:okB b):EP ⟨k,i,c,b,gY⟩:=⟨hb,Iv,λx hx=>by simp[gY,eC,kQ] at hx⟩
theorem rx (n:ab) {e:cR} (h:e.aV≠13):qy n e=true:=by
 rw[qy,eqB_f.2 h];rfl
theorem Uh {B:Int} {n:ab} (h:NP B n) {i:Nat} {s:ah} (hs:n.aj[i]?=some s) (b:List Int):(jd n ⟨8,i,0,b,gY⟩).2={n with aj:=n.aj.set i (rm s b).1}:=by
 have hi:=(W1.1 hs).1
 have hls:=h.ls
 obtain⟨d,s',a,e1,e2,e3,hm⟩:=h.at_ (show i<n.an.length by omega)
 have hr:inR (i:Int) 0 ((n.an.length:Int)-1)=true:=bE.2 ZK
 simp only[jd]
 rw[if_neg (show ¬(8:Int)=1 by omega),if_neg (show ¬((8:Int)=2\/(8:Int)=3\/(8:Int)=4) by omega),if_pos (show(8:Int)=5\/(8:Int)=6\/(8:Int)=7\/True by simp)]
 simp only[Cb,hr,YQ,e1,hs,JT,JU,JV,au]
 cases hb:(rm s b).2
 .have hs':(rm s b).1=s:=by
   revert hb;rw[rm];cases leB 24 (s.aA.length:Int)||ltB 60 (b.length:Int)
   .intro hb;cases hb
   intro _;rfl
  simp only[cond_false,hs',ea hs]
 rfl
theorem Wg {B:Int} {n:ab} (h:NP B n) {i:Nat} {d:aD} (hd:n.an[i]?=some d):(jd n ⟨5,i,0,[],gY⟩).2=gq n i (dOn d):=by
 have hi:=(W1.1 hd).1
 obtain⟨d',s,a,e1,e2,e3,hm⟩:=h.at_ hi
 have hr:inR (i:Int) 0 ((n.an.length:Int)-1)=true:=bE.2 ZK
 simp only[jd]
 rw[if_neg (show ¬(5:Int)=1 by omega),if_neg (show ¬((5:Int)=2\/(5:Int)=3\/(5:Int)=4) by omega),if_pos (show True\/(5:Int)=6\/(5:Int)=7\/(5:Int)=8 by simp)]
 simp only[Cb,hr,YQ,hd,e2,bb,au]
 cases hb:eqB d.bu 0
 .simp only[gq,dOn,hb,ea hd,X8,au];rfl
 rfl
open Go.Proofs
attribute [local simp] bA bb be
def RN (B:Nat) (l:Nat) (n:ab):Prop:=∃k,AJ k n/\k<=B/\n.an.length=l
theorem RN.np {B l:Nat} {n:ab} (h:RN B l n) (hB:B<=1000000):∃b:Int,NP b n/\b<=10000000000:=by
 obtain⟨k,h1,h2,_⟩:=h
 exact⟨_,h1.re.np ZK,by omega⟩
theorem RN.sub {B l:Nat} {n:ab} (h:RN B l n) (hB:B<=1000000) {i:Nat} {s:ah} (hs:n.aj[i]?=some s) {b:List Int} (hb:okB b):RN (B+1) l {n with aj:=n.aj.set i (rm s b).1}:=by
 obtain⟨b',hn,_⟩:=h.np hB
 obtain⟨k,h1,h2,h3⟩:=h
 have:=AJ.step h1 (zv (k:=8) (i:=(i:Int)) (c:=0) hb) (rx n (by simp)) (Dl n (by simp))
 rw[Uh hn hs b] at this
 exact⟨_,this,by omega,h3⟩
theorem RN.on {B l:Nat} {n:ab} (h:RN B l n) (hB:B<=1000000) {i:Nat} {d:aD} (hd:n.an[i]?=some d):RN (B+1) l (gq n i (dOn d)):=by
 obtain⟨b',hn,_⟩:=h.np hB
 obtain⟨k,h1,h2,h3⟩:=h
 have:=AJ.step h1 (zv (k:=5) (i:=(i:Int)) (c:=0) (b:=[]) (λx hx=>by simp at hx)) (rx n (by simp)) (Dl n (by simp))
 rw[Wg hn hd] at this
 exact⟨_,this,by omega,by rw[(nY n i (dOn d)).1];exact h3⟩
def RZ (B:Nat) (l:Nat) (n:ab):Prop:=∃k,AJ k n/\k<=B/\n.an.length=l/\n.cZ=0
theorem RZ.rn {B l:Nat} {n:ab} (h:RZ B l n):RN B l n:=by
 obtain⟨k,h1,h2,h3,_⟩:=h;exact⟨k,h1,h2,h3⟩
theorem RZ.np {B l:Nat} {n:ab} (h:RZ B l n) (hB:B<=1000000):∃b:Int,NP b n/\b<=10000000000:=h.rn.np hB
theorem RZ.sub {B l:Nat} {n:ab} (h:RZ B l n) (hB:B<=1000000) {i:Nat} {s:ah} (hs:n.aj[i]?=some s) {b:List Int} (hb:okB b):RZ (B+1) l {n with aj:=n.aj.set i (rm s b).1}:=by
 obtain⟨k,h1,h2,h3⟩:=h.rn.sub hB hs hb
 exact⟨k,h1,h2,h3,h.choose_spec.2.2.2⟩
theorem RZ.on {B l:Nat} {n:ab} (h:RZ B l n) (hB:B<=1000000) {i:Nat} {d:aD} (hd:n.an[i]?=some d):RZ (B+1) l (gq n i (dOn d)):=by
 obtain⟨k,h1,h2,h3⟩:=h.rn.on hB hd
 exact⟨k,h1,h2,h3,(fG ((dOn d).dX.map (jx i true)) {n with an:=n.an.set i (dOn d).bv}).2.2.2.2.1.trans h.choose_spec.2.2.2⟩
theorem UO {c:aT} (h:da c):Wp (Ay c) (λr=>da r.2/\∃l,(1<=l/\l<=3)/\RZ 40 l r.1):=by
 unfold Ay
 refine Wp.call (WX h) λr1 h1=>?_
 have hp:d4 r1.1:=⟨by have:=h1.2.1;omega,λ_ _=>trivial⟩
 refine Wp.call (P:=λx=>da x.2.2.2.2.2.2.2.1/\∃l,(1<=l/\l<=3)/\RZ 0 l ⟨⟨x.2.2.2.2.2.2.1⟩,x.2.2.2.2.2.1,x.2.2.2.2.1,x.2.2.2.1,[],x.1,x.2.2.2.2.2.2.2.2,x.2.1,x.2.2.1⟩) ?_ ?_
 .refine Wp.call (SN h1.1) λr16 h16=>Wp.call (SR h16.1) λr17 h17=>Wp.call (dU h17.1 ZK) λr18 h18=>?_
  have hv:ol r16.1=true/\oX r1.1=true/\sQ r17.1=true:=⟨h16.2.2,h1.2.2,h17.2.2.1⟩
  have hl:=h17.2.1
  rw[new_s h16.2.1 ZK hp,hv.1,hv.2.1,hv.2.2]
  refine Wp.some ⟨h18.1,r17.1.length,hl,0,?_,Nat.le_refl _,by simp[f7]⟩
  exact AJ.new (b:=WR (30+r18.1)) hv h16.2.1 hp hl h17.2.2.2
 rintro⟨v5,v8,v9,v10,v11,v12,v13,v14,v15⟩ ⟨hc,l,hl,hr⟩
 simp only at hc hr
 refine Wp.call (P:=λx=>da x.1/\RZ 40 l x.2) ?_ λx hx=>Wp.some ⟨hx.1,l,hl,hx.2⟩
 refine Wp.iterF (λx=>(0<=x.1/\x.1<=(l:Int))/\da x.2.1/\RZ (7*x.1.toNat) l x.2.2) (λx=>((l:Int)-x.1).toNat) ⟨⟨by simp only;omega,by simp only;omega⟩,hc,hr⟩ (by simp only;omega) ?_
 rintro⟨v20,v34,n⟩ ⟨⟨i0,i1⟩,i2,i3⟩
 simp only at i0 i1 i2 i3
 obtain⟨b,hn,hb⟩:=i3.np ZK
 have hdl:n.an.length=l:=i3.choose_spec.2.2.1
 simp only[ED]
 refine Wp.cond (λhb=>?_) (λhb=>Wp.some ⟨i2,?_⟩)
 rotate_left
 .obtain⟨k,g1,g2,g3⟩:=i3;exact⟨k,g1,by omega,g3⟩
 have hb:=mK hb
 obtain⟨q,rfl⟩:∃q:Nat,v20=q:=⟨v20.toNat,by omega⟩
 refine Wp.call (dU i2 ZK) λr117 h117=>?_
 refine Wp.call (P:=λx=>da x.2/\RZ (7*q+6) l {n with aj:=x.1}) ?_ ?_
 .refine Wp.iterF (λx=>(0<=x.1/\x.1<=6)/\da x.2.2/\RZ (7*q+(6-x.1.toNat)) l {n with aj:=x.2.1}) (λx=>x.1.toNat) ⟨⟨by simp only;omega,by simp only;omega⟩,h117.1,?_⟩ (by simp only;omega) ?_
  .obtain⟨k,g1,g2,g3⟩:=i3;exact⟨k,g1,by simp only[YQ] at g2;omega,g3⟩
  rintro⟨v118,v122,v123⟩ ⟨⟨j0,j1⟩,j2,j3⟩
  simp only at j0 j1 j2 j3
  simp only[EE]
  refine Wp.cond (λhc=>?_) (λhc=>Wp.some ⟨j2,?_⟩)
  rotate_left
  .obtain⟨k,g1,g2,g3⟩:=j3;exact⟨k,g1,by omega,g3⟩
  have hc:=mK hc
  obtain⟨b',hn',_⟩:=j3.np ZK
  have hls:=hn'.ls
  simp only at hls
  obtain⟨s,hs⟩:∃s,v122[q]?=some s:=⟨_,W0 ZK⟩
  obtain⟨d',s',a',e1,e2,e3,hm⟩:=hn'.at_ (i:=q) (by simp only;omega)
  simp only at e1 e2 e3
  rw[hs] at e2;cases e2
  simp only[be,hs,YO]
  refine Wp.call (dU j2 ZK) λr135 h135=>Wp.call (SS h135.1 h135.2.1 ZK) λr136 h136=>?_
  rw[Ve hm.sg.sp.ok]
  simp only[YO,YQ]
  refine Wp.some ⟨⟨⟨?_,?_⟩,h136.1,?_⟩,?_⟩
  all_goals simp only[bL (show-9223372036854775808<=v118-1/\v118-1<=9223372036854775807 by omega)]
  .omega
  .omega
  .have:=j3.sub ZK (i:=q) hs h136.2.1
   obtain⟨k,g1,g2,g3⟩:=this
   exact⟨k,g1,by omega,g3⟩
  omega
 rintro⟨v132,v133⟩ ⟨k1,k2⟩
 simp only at k1 k2
 obtain⟨b',hn',_⟩:=k2.np ZK
 obtain⟨d,hd⟩:∃d,n.an[q]?=some d:=⟨_,W0 ZK⟩
 obtain⟨d',s',a',e1,e2,e3,hm⟩:=hn'.at_ (i:=q) (by simp only;omega)
 simp only at e1
 rw[hd] at e1;cases e1
 refine Wp.call (wZ k1 ZK) λr139 h139=>?_
 refine Wp.call (P:=λx=>RZ (7*q+7) l x) ?_ λx hx=>Wp.some ⟨⟨⟨?_,?_⟩,h139,?_⟩,?_⟩
 .refine Wp.cond (λ_=>?_) (λ_=>Wp.some ?_)
  .simp only[be,hd,on_s hm.dp.ok,YO,YQ]
   have hlen:=(KZ d).len
   have:=fr (step:=qW (q:Int) (dOn d)) (dOn d).dX (λk n=>((k:Int),n)) (λn x=>YL (fC n (jx (q:Int) true x)) λr=>some (.next r)) some ZK
    (λk x n hx hk=>by
     simp only[qW,cg hk,be,hx,bN (show k<9223372036854775807 by omega),jx,au]
     cases fC n ⟨(q:Int),true,false,x.bg,x,eC⟩<;>rfl) (λn=>by simp[qW]) {n with an:=n.an.set q (dOn d).bv,aj:=v132}
   rw[AU fC (jx (q:Int) true) (λn x=>zT (H8 (q:Int) true x))] at this
   rw[show iter (qW (q:Int) (dOn d)) FU (0,{n with an:=n.an.set q (dOn d).bv,aj:=v132})=_ from this]
   exact Wp.some (k2.on ZK (i:=q) hd)
  obtain⟨k,g1,g2,g3⟩:=k2;exact⟨k,g1,by omega,g3⟩
 all_goals simp only[bL (show-9223372036854775808<=(q:Int)+1/\(q:Int)+1<=9223372036854775807 by omega)]
 .omega
 .omega
 .obtain⟨k,g1,g2,g3⟩:=hx;exact⟨k,g1,by omega,g3⟩
 omega
theorem WP {c:aT} (h:da c):Wp (Ay c) (λr=>da r.2/\∃l,(1<=l/\l<=3)/\RN 40 l r.1):=
 Wp.mono (UO h) λr ⟨h1,l,h2,h3⟩=>⟨h1,l,h2,h3.rn⟩
open Go.Proofs
attribute [local simp] bA bb be
abbrev C2 {α:Type} (r:α×aT):Prop:=da r.2
abbrev C1 {α:Type} (r:aT×α):Prop:=da r.1
theorem L6 {c:aT} (h:da c):Wp (xA c) C2:=by
 unfold xA
 refine Wp.call (wZ h ZK) λr1 h1=>Wp.cond (λ_=>Wp.call (UP h1 (by simp)) λr2 h2=>Wp.some h2.1) (λ_=>?_)
 refine Wp.call (wZ h1 ZK) λr3 h3=>Wp.cond (λ_=>Wp.call (UP h3 (by simp)) λr2 h2=>Wp.some h2.1) (λ_=>?_)
 exact Wp.call (dU h3 ZK) λr5 h5=>Wp.call (dU h5.1 ZK) λr6 h6=>Wp.some h6.1
theorem w5Seq {c:aT} (h:da c):Wp (If c) C2:=by
 unfold If
 refine Wp.call (wZ h ZK) λr1 h1=>Wp.cond (λ_=>Wp.call (UP h1 (by simp)) λr2 h2=>Wp.some h2.1) (λ_=>?_)
 exact Wp.call (dU h1 ZK) λr5 h5=>Wp.some h5.1
theorem w5Vec {c:aT} (h:da c):Wp (xB c) C2:=by
 unfold xB
 refine Wp.call (wKey h) λr1 h1=>Wp.call (dU h1 ZK) λr2 h2=>Wp.call (w5Seq h2.1) λr3 h3=>?_
 rw[NW]
 simp only[YO]
 refine Wp.call (dU h3 ZK) λr5 h5=>?_
 refine Wp.call (P:=C1) ?_ λx hx=>Wp.some hx
 refine Wp.cond (λ_=>Wp.call (L6 h5.1) λr h=>Wp.some h) (λ_=>?_)
 refine Wp.call (P:=C1) ?_ λx hx=>Wp.some hx
 refine Wp.cond (λ_=>Wp.call (UP h5.1 (by simp)) λr h=>Wp.some h.1) (λ_=>?_)
 refine Wp.call (P:=λ_=>True) (Wp.cond (λ_=>Wp.some trivial) (λ_=>Wp.some trivial)) λx _=>Wp.some h5.1
theorem w30 {c:aT} (h:da c) (s:ah):Wp (uK c s) C2:=by
 unfold uK
 refine Wp.call (dU h ZK) λr1 h1=>Wp.call (dU h1.1 ZK) λr2 h2=>Wp.call (dU h2.1 ZK) λr3 h3=>Wp.call (dU h3.1 ZK) λr4 h4=>?_
 refine Wp.call (P:=C1) ?_ λx hx=>?_
 .refine Wp.cond (λ_=>Wp.some h4.1) (λ_=>?_)
  refine Wp.call (P:=C2) ?_ λx hx=>Wp.some hx
  refine Wp.cond (λ_=>?_) (λ_=>Wp.some h4.1)
  refine Wp.call (dU h4.1 ZK) λr17 h17=>Wp.call (dU h17.1 ZK) λr18 h18=>?_
  rw[M5];exact Wp.some h18.1
 obtain⟨v10,v11⟩:=x
 simp only[Bo,YO]
 replace hx:da _:=hx
 refine Wp.call (dU hx ZK) λr21 h21=>?_
 refine Wp.call (P:=C1) ?_ λx hx=>Wp.some hx
 refine Wp.cond (λ_=>Wp.call (L6 h21.1) λr h=>Wp.some h) (λ_=>?_)
 refine Wp.call (P:=λ_=>True) ?_ λx _=>Wp.some h21.1
 refine Wp.cond (λ_=>Wp.some trivial) (λ_=>?_)
 exact Wp.call (P:=λ_=>True) (Wp.cond (λ_=>Wp.some trivial) (λ_=>Wp.some trivial)) λx _=>Wp.some trivial
theorem w29 {c:aT} (h:da c) (d:aD):Wp (CE c d) C2:=by
 unfold CE
 refine Wp.call (dU h ZK) λr1 h1=>?_
 refine Wp.call (P:=C1) ?_ λx hx=>?_
 .refine Wp.cond (λ_=>?_) (λ_=>?_)
  .rw[PW]
   simp only[YO]
   rw[NW]
   simp only[YO]
   refine Wp.call (wZ h1.1 ZK) λr20 h20=>?_
   refine Wp.call (P:=C1) ?_ λx hx=>Wp.some hx
   exact Wp.cond (λ_=>Wp.call (w5Vec h20) λr h=>Wp.some h) (λ_=>Wp.some h20)
  refine Wp.call (P:=C2) ?_ λx hx=>Wp.some hx
  exact Wp.cond (λ_=>Wp.call (dU h1.1 ZK) λr h=>Wp.some h.1) (λ_=>Wp.some h1.1)
 obtain⟨v16,v17⟩:=x
 simp only[Bo,YO]
 replace hx:da _:=hx
 refine Wp.call (dU hx ZK) λr39 h39=>?_
 refine Wp.call (P:=C1) ?_ λx hx=>Wp.some hx
 refine Wp.cond (λ_=>Wp.call (L6 h39.1) λr h=>Wp.some h) (λ_=>?_)
 refine Wp.call (P:=C1) ?_ λx hx=>Wp.some hx
 refine Wp.cond (λ_=>Wp.call (dU h39.1 ZK) λr h=>Wp.some h.1) (λ_=>?_)
 exact Wp.call (P:=λ_=>True) (Wp.cond (λ_=>Wp.some trivial) (λ_=>Wp.some trivial)) λx _=>Wp.some h39.1
theorem Wl {y:aC} (h:xV y) (i c:Int) (k:Int):jF ⟨i,false,true,c,d6,{y with bp:={y.bp with iZ:=k}}⟩/\okB y.bp.aS:=⟨⟨Nat.le_trans h.2 (by decide),λ_ _=>trivial⟩,h.1⟩
abbrev FR (f:bD):Prop:=jF f/\okB f.cr.bp.aS
abbrev FP2 (d:aD) (i:Int) (x:aT×bD):Prop:=da x.1/\FR x.2/\(x.2.bv=i)/\((x.2.dt=true/\x.2.em=false/\Jl d x.2.cr=true/\x.2.cr.ag=d.ag/\wX d.aO x.2.cr=false)\/x.2.dt=false)
theorem Un {d:aD} {y:aC} {k i cell:Int} {c:aT} (hc:da c) (h:xV y) (hh:Jl d {y with bp:={y.bp with iZ:=k}}=true) (hg:y.ag=d.ag) (hv:wX d.aO {y with bp:={y.bp with iZ:=k}}=false):
 Wp (some (c,(⟨i,false,true,cell,d6,{y with bp:={y.bp with iZ:=k}}⟩:bD))) (FP2 d i):=
 Wp.some ⟨hc,Wl h _ _ _,rfl,.inl ⟨rfl,rfl,hh,hg,hv⟩⟩
theorem GH (d:aD) (x:ae):wX d.aO {iV d.aO d.ag d.a9 x with bp:={(iV d.aO d.ag d.a9 x).bp with iZ:=YN (WR ((iV d.aO d.ag d.a9 x).bp.iZ+1)) 2147483647}}=false:=by
 have hin:∀k (m:bw),0<=mac k m/\mac k m<2147483647:=λk m=>oJ _ _
 have key:∀a:Int,0<=a->a<2147483647->YN (WR (a+1)) 2147483647≠a:=by
  intro a h0 h1 h
  rw[bL ZK,YV ZK] at h
  omega
 simp only[iV,Em,wX]
 rw[ZG];right
 rw[ZG];right
 refine eqB_f.2 ?_
 simp only[mac]
 exact key _ (hin _ ⟨1,x.cV,vE (dk (LB d.aO d.a9) (2*x.cV+1)) x.aS,0⟩).1 (hin _ ⟨1,x.cV,vE (dk (LB d.aO d.a9) (2*x.cV+1)) x.aS,0⟩).2
theorem On (d:aD) (x:ae):Jl d {iV d.aO d.ag d.a9 x with bp:={(iV d.aO d.ag d.a9 x).bp with iZ:=YN (WR ((iV d.aO d.ag d.a9 x).bp.iZ+1)) 2147483647}}=true:=by
 rw[Jl,GH d x]
 simp[iV,bb]
theorem WV {B:Int} {n:ab} (h:NP B n) (hd:1<=n.an.length) {c:aT} (hc:da c):Wp (xz c n) (λr=>da r.2/\EP r.1/\qy n r.1=true/\(r.1.bG.dt=true->r.1.bG.em=false/\∃d,n.an[r.1.bG.bv.toNat]?=some d/\r.1.bG.cr.ag=d.ag/\wX d.aO r.1.bG.cr=false)):=by
 have hm6:=mL h.map
 have hls:=h.ls
 unfold xz
 refine Wp.call (dU hc ZK) λr1 h1=>?_
 obtain⟨i,hi⟩:∃i:Nat,r1.1=i:=⟨r1.1.toNat,by omega⟩
 obtain⟨d,s,a,e1,e2,e3,hm⟩:=h.at_ (i:=i) ZK
 simp only[hi,be,e1,e2,YO]
 refine Wp.call (dU h1.1 ZK) λr3 h3=>Wp.call (wZ h3.1 ZK) λr4 h4=>Wp.call (dU h4 ZK) λr5 h5=>?_
 refine Wp.call (P:=FP2 d (i:Int)) ?_ ?_
 .refine Wp.cond (λ_=>?_) (λ_=>?_)
  .refine Wp.call (dU h5.1 ZK) λr30 h30=>?_
   have hs:=LL (x:=⟨WR (1+r30.1),[9]⟩) (by show 0<=WR (1+r30.1);rw[bL ZK];omega) (by show WR (1+r30.1)<=1000000;rw[bL ZK];omega) (λx hx=>by simp at hx;subst hx;simp[ux]) (by simp) d.aO d.ag d.a9
   have hr:=yS d.aO d.ag d.a9 (x:=⟨WR (1+r30.1),[9]⟩) (by simp)
   have hh:=On d ⟨WR (1+r30.1),[9]⟩
   have hv:=GH d ⟨WR (1+r30.1),[9]⟩
   have hg:(iV d.aO d.ag d.a9 ⟨WR (1+r30.1),[9]⟩).ag=d.ag:=rfl
   generalize iV d.aO d.ag d.a9 ⟨WR (1+r30.1),[9]⟩=y at hs hr hh hv hg
   rw[hs]
   exact Un h30.1 hr hh hg hv
  refine Wp.call (P:=λx=>da x.2.1) ?_ λx hx=>Wp.some ⟨hx,⟨Iv,λx hx=>by simp[eC,kQ] at hx⟩,rfl,.inr rfl⟩
  exact Wp.cond (λ_=>Wp.call (w29 h5.1 d) λr h=>Wp.some h) (λ_=>Wp.call (w30 h5.1 s) λr h=>Wp.some h)
 rintro⟨c2,f⟩ ⟨k1,k2,k3,k4⟩
 simp only at k1 k2 k3 k4
 have he:EP {dN with aV:=13,bG:=f}:=⟨λx hx=>by simp[dN] at hx,k2.1,k2.2⟩
 rw[TR h he]
 simp only[YO]
 refine Wp.call (P:=λk=>k=bif qy n {dN with aV:=13,bG:=f} then f.aY.aV else 7) ?_ ?_
 .cases qy n {dN with aV:=13,bG:=f}<;>exact Wp.some rfl
 rintro k rfl
 refine Wp.some ⟨k1,⟨λx hx=>by simp[dN] at hx,k2.1,k2.2⟩,?_,λhr=>by
  rcases k4 with⟨q1,q2,q3,q4,q5⟩|q1
  .exact⟨q2,d,by show n.an[f.bv.toNat]?=some d;rw[k3];exact e1,q4,q5⟩
  rw[show f.dt=true from hr] at q1;cases q1⟩
 cases hh:qy n {dN with aV:=13,bG:=f}
 .simp only[cond_false,qy]
  rw[Xg,Xg,Xg];right;right;right
  simp only[QI,k3,YQ,e1,e2]
  rcases k4 with⟨q1,q2,q3,_,_⟩|q1
  .rw[q1,q2,q3];rfl
  rw[q1]
  have z:∀k:Int,k≠7->eqB 7 k=false:=λk hk=>eqB_f.2 (Ne.symm hk)
  cases f.em<;>simp only[hUp,F2,z _ (show(2:Int)≠7 by omega),z _ (show(3:Int)≠7 by omega),z _ (show(4:Int)≠7 by omega),z _ (show(5:Int)≠7 by omega),z _ (show(6:Int)≠7 by omega),z _ (show(8:Int)≠7 by omega),YZ,au]
 simp only[cond_true]
 rw[show({f with aY:={f.aY with aV:=f.aY.aV}}:bD)=f from rfl]
 exact hh
open Go.Proofs
attribute [local simp] bA bb be
theorem DM (n:ab) (f:bD):(fg n f).an.length=n.an.length:=by rw[(kD n f).1]
theorem Kz:∀(c i:Nat) (n:ab),(kv c i n).an.length=n.an.length
 |0,_,_=>rfl
 |c+1,i,n=>by
  rw[kv]
  cases n.an[i]? with
  |none=>rfl
  |some d=>simp only;rw[Kz,(nY _ _ _).1]
theorem KC:∀(c i:Nat) (n:ab),(pB c i n).an.length=n.an.length
 |0,_,_=>rfl
 |c+1,i,n=>by
  rw[pB]
  cases n.aj[i]? with
  |none=>rfl
  |some s=>cases n.bi[i]? with
   |none=>rfl
   |some a=>simp only;rw[KC,(Ge _ _ _).1]
theorem K3 (n:ab) (k:Nat):(iO n k).an.length=n.an.length:=by
 rw[iO]
 cases n.aN[k]? with
 |none=>rfl
 |some f=>
  simp only
  cases yC (jJ n k) f.bg
  .rfl
  simp only[au]
  cases f.em
  .simp only[cond_false]
   cases hd:(jJ n k).an[f.bv.toNat]? with
   |none=>rfl
   |some d=>
    simp only
    cases eqB d.bg f.bg
    .rfl
    simp only[au];rw[(nY _ _ _).1];rfl
  simp only[cond_true]
  cases f.dt||!eqB f.aY.bg f.bg
  .simp only[cond_false]
   cases hs:(jJ n k).aj[f.bv.toNat]? with
   |none=>rfl
   |some s=>simp only[yG];rw[(fG _ _).1];rfl
  rfl
theorem PL (n:ab) (e:cR):(jd n e).2.an.length=n.an.length:=by
 rw[jd]
 split
 .rw[BG]
  cases leB 100000 n.oZ
  .simp only[cond_false];rw[KC,Kz]
  rfl
 split
 .rw[rJ]
  cases inR e.cm 0 ((n.aN.length:Int)-1)
  .rfl
  simp only[au]
  cases eqB e.aV 2
  .simp only[cond_false]
   cases eqB e.aV 3
   .simp only[cond_false]
    cases leB 200 (n.aN.length:Int)
    .simp only[cond_false]
     cases n.aN[e.cm.toNat]? with
     |none=>rfl
     |some f=>exact DM n f
    rfl
   rfl
  exact K3 n _
 split
 .rw[Cb]
  cases inR e.cm 0 ((n.an.length:Int)-1)
  .rfl
  simp only[au]
  cases n.an[e.cm.toNat]? with
  |none=>rfl
  |some d=>cases n.aj[e.cm.toNat]? with
   |none=>rfl
   |some s=>
    simp only
    cases eqB e.aV 5
    .simp only[cond_false]
     cases eqB e.aV 6
     .simp only[cond_false]
      cases eqB e.aV 7
      .simp only[cond_false]
       cases(rm s e.aS).2<;>rfl
      simp only[cond_true]
      cases eqB d.bu 2
      .rfl
      simp
     simp only[cond_true]
     cases eqB e.bg d.bg||!ef n.d8 e.bg
     .exact(nY _ _ _).1
     rfl
    simp only[cond_true]
    cases eqB d.bu 0
    .rfl
    exact(nY _ _ _).1
 split
 .rw[BF];cases !ef n.d8 e.cm||booB (yC n e.cm) (eqB e.aV 10)<;>rfl
 split
 .rw[fO]
  cases !inR e.cm 0 (n.cq.dP-1)||(booB (fK n.cq e.cm) (eqB e.aV 12)||eqB (eR n.cq e.cm (eqB e.aV 12)).dm 0)<;>rfl
 split
 .rw[vY];cases we n e.bG
  .rfl
  exact DM n _
 rfl
abbrev NQ (n:ab) (r:cR×aT):Prop:=da r.2/\EP r.1/\qy n r.1=true/\FS n r.1
theorem wPl {n:ab} {c:aT} (h:da c) {k i cell:Int} {b:List Int} (hb:okB b) (hk:k≠13):Wp (some ((⟨k,i,cell,b,gY⟩:cR),c)) (NQ n):=
 Wp.some ⟨h,zv hb,rx n hk,Dl n hk⟩
theorem lH:okB []:=λx hx=>by simp at hx
theorem wNo {α:Type} {b:Bool} {x y:α} {β:Type} {f:α->Option β} {Q:β->Prop} (h:∀z,Wp (f z) Q):Wp (YL (bif b then some x else some y) f) Q:=by
 cases b<;>exact h _
theorem Vi {n:ab} {c':aT} (hc:da c'):Wp (YL (bif ltB 0 (n.aN.length:Int) then(YL (im c' 4) λr21=>some (!r21.1,r21.2)) else(some (false,c'))) λ((v16,v20):Bool×aT)=>bif v16 then(YL (yK (n.aN.length:Int) 3) λr22=>YL (co v20 r22) λr23=>YL (co r23.2 12) λr24=>bif eqB r24.1 0 then(some ({dN with aV:=3,cm:=r23.1},r24.2)) else(bif eqB r24.1 1 then(some ({dN with aV:=4,cm:=r23.1},r24.2)) else(some ({dN with aV:=2,cm:=r23.1},r24.2)))) else(some ({dN with aV:=1},v20))) (NQ n):=by
 refine Wp.call (P:=λx=>da x.2/\(x.1=true->0<n.aN.length)) ?_ ?_
 .refine Wp.cond (λhb=>?_) (λ_=>Wp.some ⟨hc,λh=>by simp at h⟩)
  have hb:=mK hb
  exact Wp.call (wZ hc ZK) λr21 h21=>Wp.some ⟨h21,λ_=>by omega⟩
 rintro⟨v16,v20⟩ ⟨k1,k2⟩
 simp only at k1 k2
 refine Wp.cond (λhb=>?_) (λ_=>wPl k1 lH ZK)
 have:=k2 hb
 rw[M7]
 simp only[YO]
 have hm:1<=qD (n.aN.length:Int) 3:=by unfold qD;split<;>omega
 refine Wp.call (dU k1 hm) λr23 h23=>Wp.call (dU h23.1 ZK) λr24 h24=>?_
 exact Wp.cond (λ_=>wPl h24.1 lH ZK) (λ_=>Wp.cond (λ_=>wPl h24.1 lH ZK) (λ_=>wPl h24.1 lH ZK))
theorem wNext {B:Int} {n:ab} (h:NP B n) (hd:1<=n.an.length) {c:aT} (hc:da c):Wp (AA c n) (NQ n):=by
 have hm6:=mL h.map
 have hl:=h.ld
 unfold AA
 rw[M5]
 simp only[YO]
 have hmx:1<=Fc 1 (n.an.length:Int):=by unfold Fc;split<;>omega
 have hw:WR ((n.d8.aR.length:Int)+1)=(n.d8.aR.length:Int)+1:=bL ZK
 refine Wp.call (dU hc hmx) λr2 h2=>Wp.call (dU h2.1 ZK) λr3 h3=>?_
 refine Wp.cond (λ_=>wPl h3.1 lH ZK) (λ_=>wNo λ_=>?_)
 refine Wp.cond (λ_=>Wp.call (dU h3.1 ZK) λr5 h5=>wPl h5.1 lH ZK) (λ_=>?_)
 refine Wp.cond (λ_=>wPl h3.1 lH ZK) (λ_=>wNo λ_=>?_)
 refine Wp.cond (λ_=>Wp.call (dU h3.1 ZK) λr7 h7=>Wp.call (SS h7.1 h7.2.1 ZK) λr8 h8=>wPl h8.1 h8.2.1 ZK) (λ_=>?_)
 refine Wp.cond (λ_=>Wp.call (dU h3.1 ZK) λr9 h9=>wPl h9.1 lH ZK) (λ_=>wNo λ_=>?_)
 refine Wp.cond (λ_=>Wp.call (dU h3.1 ZK) λr9 h9=>wPl h9.1 lH ZK) (λ_=>?_)
 refine Wp.cond (λ_=>Wp.call (dU h3.1 ZK) λr9 h9=>wPl h9.1 lH ZK) (λ_=>?_)
 refine Wp.cond (λ_=>Wp.call (dU h3.1 ZK) λr9 h9=>wPl h9.1 lH ZK) (λ_=>wNo λ_=>?_)
 refine Wp.cond (λ_=>Wp.cond (λ_=>?_) (λ_=>Vi h3.1)) (λ_=>Vi h3.1)
 refine Wp.call (WV h hd h3.1) λr15 h15=>Wp.some ⟨h15.1,⟨lH,h15.2.1.f,h15.2.1.r⟩,?_,λ_=>h15.2.2.2⟩
 exact h15.2.2.1
theorem RN.apply {B l:Nat} {n:ab} (h:RN B l n) {e:cR} (he:EP e) (hh:qy n e=true) (hf:FS n e):RN (B+1) l (jd n e).2:=by
 obtain⟨k,h1,h2,h3⟩:=h
 exact⟨k+1,h1.step he hh hf,by omega,by rw[PL];exact h3⟩
theorem RN.mono {B B' l:Nat} {n:ab} (h:RN B l n) (hb:B<=B'):RN B' l n:=by
 obtain⟨k,h1,h2,h3⟩:=h;exact⟨k,h1,by omega,h3⟩
theorem WQ {c:aT} (h:da c) {most:Int} (hm:1<=most/\most<=1000):Wp (AB c most) (λr=>da r.2.2.2/\∃l,(1<=l/\l<=3)/\RN 40 l r.1/\RN (42+most.toNat) l r.2.2.1/\(r.2.1.length<=1010/\∀e∈r.2.1,EP e)):=by
 unfold AB
 refine Wp.call (WP h) λr1 h1=>?_
 obtain⟨h11,l,hl,hr⟩:=h1
 obtain⟨b,hn,hb⟩:=hr.np ZK
 rw[U7 hn.okN]
 simp only[YO]
 refine Wp.call (dU h11 hm.1) λr3 h3=>?_
 have hw:WR (3+r3.1)=3+r3.1:=bL ZK
 refine Wp.call (P:=λx=>da x.2.1/\RN (42+most.toNat) l x.2.2/\(x.1.length<=1010/\∀e∈x.1,EP e)) ?_ λx hx=>Wp.some ⟨hx.1,l,hl,hr,hx.2.1,hx.2.2⟩
 refine Wp.iterF (λx=>(0<=x.1/\x.1<=2+most)/\da x.2.2.1/\RN (40+(2+most-x.1).toNat) l x.2.2.2/\((x.2.1.length:Int)<=1010-x.1/\∀e∈x.2.1,EP e)) (λx=>x.1.toNat) ⟨⟨by rw[hw];omega,by rw[hw];omega⟩,h3.1,hr.mono ZK,by simp only[YS];rw[hw];omega,by simp⟩ (by simp only;rw[hw];omega) ?_
 rintro⟨v4,v8,v19,n⟩ ⟨⟨i0,i1⟩,i2,i3,i4,i5⟩
 simp only at i0 i1 i2 i3 i4 i5
 simp only[EF]
 refine Wp.cond (λhb=>?_) (λhb=>Wp.some ⟨i2,i3.mono ZK,by show v8.length<=1010;omega,i5⟩)
 have hb:=mK hb
 obtain⟨b',hn',hb'⟩:=i3.np ZK
 have hdl:n.an.length=l:=i3.choose_spec.2.2
 refine Wp.call (wNext hn' ZK i2) λr51 h51=>?_
 refine Wp.ok (gx (by simp;omega) (by simp;omega)) ?_
 have ha:=CP hn' h51.2.1 ZK
 rw[U7 hn'.okN]
 simp only[YO]
 rw[ha.1]
 simp only[YO]
 have hst:=i3.apply h51.2.1 h51.2.2.1 h51.2.2.2
 refine Wp.call (P:=λx=>RN (40+(2+most-v4).toNat+1) l x) (Wp.cond (λ_=>Wp.some hst) (λ_=>Wp.some (i3.mono ZK))) λx hx=>Wp.some ⟨⟨⟨?_,?_⟩,h51.1,?_,?_,?_⟩,?_⟩
 all_goals simp only[bL (show-9223372036854775808<=v4-1/\v4-1<=9223372036854775807 by omega)]
 .omega
 .omega
 .exact hx.mono ZK
 .simp;omega
 .intro e he
  rcases W3.1 he with he|he
  .exact i5 e he
  simp at he;subst he;exact h51.2.1
 omega
open Go.Proofs
attribute [local simp] bA bb be
def xZ (r:aG) (g:Int):Int:=(vec r.eP (IP r.ID g) g).eP
def jI (l:List bm) (k:Nat):Int:=((l.take k).map λp=>(p.aS.length:Int)).sum
def i6 (w:aX):Int:=w.bz-1-w.az.length
structure SI (d:aD) (s:ah) (a:am):Prop where
 cl:d.c9.dM<=s.bC.cV
 pq:s.bF<=s.bC.cV
 pg:0<s.bF->s.ag<s.bF
 pv:0<s.bF->s.aF=vec s.bC.eP (IP s.bC.ID s.bF) s.bF
 sg:s.ag<=s.bC.cV
 s1:s.bu=1->0<s.ag
 sk:0<s.ag->s.aO=xZ s.bC s.ag
 dg:d.ag<=d.c9.dM
 dk:0<d.ag->d.aO=xZ s.bC d.ag
 pr:d.bI.aQ<+:s.aA
 pe:∀x∈d.bI.aF,s.aA[(x.cV-1).toNat]?=some ⟨x.aS⟩/\x.cV<s.aw.bz
 nx:d.bI.bz<=s.aw.bz
 wn:∀x∈s.aw.az,s.aA[(x.cV-1).toNat]?=some ⟨x.aS⟩
 ak:i6 s.aw<d.bI.bz
 ch:a.er+s.bM.ed=jI s.aA (i6 s.aw).toNat
def ym (s:ah) (x:aC):Prop:=∃(k g e:Int) (b:List Int),0<g/\(1<=k/\k<s.aw.bz)/\s.aA[(k-1).toNat]?=some ⟨b⟩/\x=iV (xZ s.bC g) g e ⟨k,b⟩
def RadB (d:aD) (x:aC):Prop:=x.ag<d.ag\/(x.ag=d.ag/\wX d.aO x=false)
def Te (s:ah) (m:aH):Prop:=∃q,(1<=q/\q<=s.bC.cV)/\m.ag=q/\m.bP=vec s.bC.eP (IP s.bC.ID q) q
def Td (d:aD) (m:aH):Prop:=kS d.c9.eP d.c9.dM m.bP=1\/kS d.c9.eP d.c9.dM m.bP=2
def Vk (s:ah) (m:aH):Prop:=m.ag<s.ag\/(m.ag=s.ag/\wY s.aO m=false)
structure FI (d:aD) (s:ah) (f:bD):Prop where
 up:f.em=true->f.dt=false->f.aY.aV=8->f.aY.bK<=d.bI.bz\/Vk s f.aY
 rd:f.em=false->f.dt=true->ym s f.cr\/RadB d f.cr
 dn:f.em=false->f.dt=false->f.aY.aV=2->Te s f.aY\/Td d f.aY
structure vh (d:aD) (s:ah) (d':aD) (s':ah):Prop where
 ck:d'.c9.eP=d.c9.eP
 cl:d.c9.dM<=d'.c9.dM
 dg:d.ag<d'.ag\/(d'.ag=d.ag/\d'.aO=d.aO)
 rn:d.bI.bz<=d'.bI.bz
 ri:s'.bC.ID=s.bC.ID
 rk:s'.bC.eP=s.bC.eP
 rs:s.bC.cV<=s'.bC.cV
 sg:s.ag<s'.ag\/(s'.ag=s.ag/\s'.aO=s.aO)
 su:s.aA<+:s'.aA
 wn:s.aw.bz<=s'.aw.bz
theorem vh.refl (d:aD) (s:ah):vh d s d s:=⟨rfl,YP _,.inr ⟨rfl,rfl⟩,YP _,rfl,rfl,YP _,.inr ⟨rfl,rfl⟩,Zz _,YP _⟩
theorem Cz {α:Type} {xs ys:List α} (h:xs<+:ys) {k:Nat} {x:α} (hx:xs[k]?=some x):ys[k]?=some x:=by
 obtain⟨zs,rfl⟩:=h
 rw[W9 (W1.1 hx).1];exact hx
theorem Dz {r r':aG} (h1:r'.ID=r.ID) (h2:r'.eP=r.eP) (g:Int):xZ r' g=xZ r g:=by rw[xZ,xZ,h1,h2]
theorem L5 {k l l':Int} {v:cX} (h:l<=l') (hb:kS k l v=1\/kS k l v=2):kS k l' v=1\/kS k l' v=2:=by
 revert hb
 rw[kS,kS]
 intro hb
 split at hb
 .rename_i h1;rw[if_pos h1];exact hb
 rename_i h1;rw[if_neg h1]
 split at hb
 .rename_i h2;rw[if_pos ZK];exact .inr rfl
 split at hb<;>omega
theorem FI.mono {d d':aD} {s s':ah} {f:bD} (h:FI d s f) (m:vh d s d' s'):FI d' s' f:=by
 refine⟨λh1 h2 h3=>?_,λh1 h2=>?_,λh1 h2 h3=>?_⟩
 .rcases h.up h1 h2 h3 with q|q
  .exact .inl (ZD q m.rn)
  right
  rcases m.sg with g|⟨g1,g2⟩
  .left;rcases q with q|q<;>omega
  rcases q with q|q
  .left;omega
  right;rw[g1,g2];exact q
 .rcases h.rd h1 h2 with⟨k,g,e,b,q1,q2,q3,q4⟩|q
  .left;exact⟨k,g,e,b,q1,⟨q2.1,ZI q2.2 m.wn⟩,Cz m.su q3,by rw[Dz m.ri m.rk];exact q4⟩
  right
  rcases m.dg with g|⟨g1,g2⟩
  .left;rcases q with q|q<;>omega
  rcases q with q|q
  .left;omega
  right;rw[g1,g2];exact q
 rcases h.dn h1 h2 h3 with⟨q,q1,q2,q3⟩|q
 .left;exact⟨q,⟨q1.1,ZD q1.2 m.rs⟩,q2,by rw[m.ri,m.rk];exact q3⟩
 right;rw[Td,m.ck];exact L5 m.cl q
structure PI (n:ab):Prop where
 si:∀(i:Nat) d s a,n.an[i]?=some d->n.aj[i]?=some s->n.bi[i]?=some a->SI d s a
 fi:∀f∈n.aN,∀d s,n.an[f.bv.toNat]?=some d->n.aj[f.bv.toNat]?=some s->FI d s f
theorem PI.send {n:ab} (h:PI n) {f:bD} (hf:∀d s,n.an[f.bv.toNat]?=some d->n.aj[f.bv.toNat]?=some s->FI d s f):PI (fg n f):=by
 rw[fg]
 cases leB 200 (n.aN.length:Int)
 .refine⟨h.si,λg hg=>?_⟩
  rcases W3.1 hg with hg|hg
  .exact h.fi g hg
  simp at hg;subst hg;exact hf
 exact⟨h.si,h.fi⟩
theorem PI.sends:∀(l:List bD) {n:ab},PI n->(∀f∈l,∀d s,n.an[f.bv.toNat]?=some d->n.aj[f.bv.toNat]?=some s->FI d s f)->PI (sends n l)
 |[],n,h,_=>h
 |f::l,n,h,hf=>by
  have hk:=kD n f
  exact PI.sends l (h.send (hf f (by simp))) (λg hg=>by rw[hk.1,hk.2.1];exact hf g (by simp[hg]))
theorem PI.setM {n:ab} (h:PI n) {i:Nat} {d d':aD} {s s':ah} {a':am} (hd:n.an[i]?=some d) (hs:n.aj[i]?=some s) (hm:vh d s d' s') (hi:SI d' s' a'):
 PI {n with an:=n.an.set i d',aj:=n.aj.set i s',bi:=n.bi.set i a'}:=by
 refine⟨λj x y z hx hy hz=>?_,λf hf x y hx hy=>?_⟩
 .rcases mg hx with⟨e1,e2⟩|⟨e1,e2⟩<;>rcases mg hy with⟨e3,e4⟩|⟨e3,e4⟩<;>rcases mg hz with⟨e5,e6⟩|⟨e5,e6⟩<;>first|omega|skip
  .subst e2;subst e4;subst e6;exact hi
  exact h.si j x y z e2 e4 e6
 rcases mg hx with⟨e1,e2⟩|⟨e1,e2⟩<;>rcases mg hy with⟨e3,e4⟩|⟨e3,e4⟩<;>first|omega|skip
 .subst e2;subst e4
  exact(h.fi f hf d s (by rw[<-e1];exact hd) (by rw[<-e1];exact hs)).mono hm
 exact h.fi f hf x y e2 e4
open Go.Proofs
attribute [local simp] bA bb be
structure y7 (d:aD) (s:ah) (a:am) (r:bh):Prop where
 mo:vh d s r.bv s
 si:SI r.bv s a
 sg:∀m∈r.dX,m.aV=8->m.bK<=r.bv.bI.bz
theorem y7.keep {d:aD} {s:ah} {a:am} (h:SI d s a) {r:bh} (h1:r.bv.c9=d.c9) (h2:r.bv.ag=d.ag) (h3:r.bv.aO=d.aO) (h4:r.bv.bI=d.bI) (h5:∀m∈r.dX,m.aV≠8):y7 d s a r:=
 ⟨⟨by rw[h1],by rw[h1];exact YP _,.inr ⟨h2,h3⟩,by rw[h4];exact YP _,rfl,rfl,YP _,.inr ⟨rfl,rfl⟩,Zz _,YP _⟩,
  {h with cl:=by rw[h1];exact h.cl,dg:=by rw[h1,h2];exact h.dg,dk:=by rw[h2,h3];exact h.dk,pr:=by rw[h4];exact h.pr,pe:=by rw[h4];exact h.pe,nx:=by rw[h4];exact h.nx,ak:=by rw[h4];exact h.ak},
  λm hm e=>absurd e (h5 m hm)⟩
theorem y7.none {d:aD} {s:ah} {a:am} (h:SI d s a):y7 d s a ⟨d,[]⟩:=.keep h rfl rfl rfl rfl (by simp)
section
variable {d:aD} {s:ah} {a:am} (h:SI d s a)
include h
theorem KR {d':aD} (h1:d'.c9=d.c9) (h2:d'.ag=d.ag) (h3:d'.aO=d.aO) (h4:d'.bI=d.bI):y7 d s a (yu d'):=
 .keep h h1 h2 h3 h4 (by simp[yu,zm,wH])
theorem I5:y7 d s a (tk d):=by
 rw[tk]
 cases ltB 0 d.f5<;>cases eqB d.bu 1<;>cases eqB d.bu 2&&!d.de<;>exact .keep h rfl rfl rfl rfl (by simp[xc,zm,wH])
theorem P9:y7 d s a (dOn d):=by
 rw[dOn];cases eqB d.bu 0<;>exact .keep h rfl rfl rfl rfl (by simp[xc])
theorem IY (c:Int):y7 d s a (uV d c):=by
 rw[uV]
 cases eqB c d.bg||!inR c 0 5
 .cases eqB d.bu 2&&ltB d.a9 999999
  .exact .keep h rfl rfl rfl rfl (by simp)
  exact KR h rfl rfl rfl rfl
 exact .none h
theorem Tw (hk:d.c9.eP=s.bC.eP) (hr:s.bC.cV<=999999) {m:aH} (hf:Te s m\/Td d m):y7 d s a (IW d m):=by
 rw[IW]
 cases hv:eqB (kS d.c9.eP d.c9.dM m.bP) 0
 .exact .none h
 have hv:=pH hv
 rcases hf with⟨q,q1,q2,q3⟩|q
 .have hq:inR q 0 999999=true:=bE.2 ZK
  rw[q3,hk,Po ZK ZK] at hv
  have hlt:d.c9.dM<q:=by
   by_cases hle:q<=d.c9.dM
   .rw[if_pos hle] at hv;omega
   omega
  have hu:unm d.c9.eP m.bP.fj m.bP.hO=q:=by
   rw[q3,hk];simp only[vec,hq,cond_true];exact NO ZK ZK
  have hrand:m.bP.fj=IP s.bC.ID q:=by rw[q3];simp only[vec,hq,cond_true]
  have hg:=h.dg
  rw[hk,hrand] at hu
  simp only[cond_true,hu,hrand,q2,hk]
  refine⟨⟨hk.symm,by simp only;omega,.inl (by simp only;omega),YP _,rfl,rfl,YP _,.inr ⟨rfl,rfl⟩,Zz _,YP _⟩,{h with cl:=q1.2,dg:=YP _,dk:=λ_=>rfl},λm hm=>by simp at hm;subst hm;intro e;simp at e⟩
 rcases q with q|q<;>omega
theorem Mt (hk:d.c9.eP=s.bC.eP) (hr:s.bC.cV<=999999) {m:aH} (hf:m.aV=2->Te s m\/Td d m):y7 d s a (Da d m):=by
 rw[Da]
 cases !mM m||(!eqB m.bg d.bg||eqB d.bu 0)
 .simp only[cond_false]
  cases h2:eqB m.aV 2&&eqB d.bu 1
  .simp only[cond_false]
   cases eqB m.aV 4&&(eqB d.bu 1&&(mc d.aO&&(eqB m.ag d.ag&&wY d.aO m)))
   .simp only[cond_false]
    cases eqB m.aV 6&&(eqB d.bu 2&&(eqB m.ag d.ag&&(eqB m.a9 d.a9&&wY d.aO m)))
    .simp only[cond_false]
     cases eqB m.aV 7&&(eqB d.bu 3&&ltB d.a9 999999)
     .simp only[cond_false]
      cases eqB m.aV 7&&eqB d.bu 2
      .exact .none h
      exact KR h rfl rfl rfl rfl
     exact KR h rfl rfl rfl rfl
    exact .keep h rfl rfl rfl rfl (by simp)
   exact .keep h rfl rfl rfl rfl (by simp)
  rw[v0] at h2
  exact Tw h hk hr (hf (pH h2.1))
 exact .none h
omit h in
theorem Ru {l sub:List bm} {t:List ae} {nx:Int} (hp:l<+:sub) (hn:nx=(l.length:Int)+1) (ht:∀(k:Nat) (y:ae),t[k]?=some y->y.cV=nx+k/\sub[(y.cV-1).toNat]?=some ⟨y.aS⟩):l++t.map (λy=>(⟨y.aS⟩:bm))<+:sub:=by
 obtain⟨zs,hz⟩:=hp
 refine⟨zs.drop t.length,?_⟩
 apply List.ext_getElem?
 intro i
 rw[<-hz]
 by_cases h1:i<l.length
 .rw[XI,W9 h1,W9 h1]
 rw[XI,Xd ZK,Xd (show l.length<=i by omega)]
 by_cases h2:i-l.length<t.length
 .rw[W9 (by simpa using h2),Xv,W0 h2]
  obtain⟨e1,e2⟩:=ht (i-l.length) _ (W0 h2)
  rw[<-hz,e1,Xd ZK] at e2
  rw[show(nx+((i-l.length:Nat):Int)-1).toNat-l.length=i-l.length by omega] at e2
  rw[e2];rfl
 rw[Xd (by simpa using h2),List.getElem?_drop]
 congr 1;simp;omega
theorem Mr (hp:RcV d.bI) (hs:SP s) (hb:∀p∈s.aA,okB p.aS) {x:aC} (hf:ym s x\/RadB d x):y7 d s a (C9 d x):=by
 simp only[C9]
 cases ho:eqB d.bu 2&&(tC d.aO d.ag d.a9 x).2
 .exact .none h
 simp only[cond_true]
 rw[v0] at ho
 have hcond:x.ag=d.ag/\x.a9=d.a9/\wX d.aO x=true:=by
  have:=ho.2
  rw[tC] at this
  split at this
  .assumption
  cases this
 rcases hf with⟨k,g,e,b,q1,q2,q3,q4⟩|q
 .have hsub:=W2 q3
  have hl:=hs.sl
  have hnx:=hs.nx
  have hgen:d.ag=g:=by rw[<-hcond.1,q4];rfl
  have hep:d.a9=e:=by rw[<-hcond.2.1,q4];rfl
  have hkey:d.aO=xZ s.bC g:=by rw[<-hgen];exact h.dk ZK
  have hopen:tC d.aO d.ag d.a9 x=(⟨k,b⟩,true):=by
   rw[q4,hgen,hep,hkey]
   exact OR q2.1 (by show k<=100000;omega) (hb _ hsub) (hs.sd _ hsub) _ _ _
  rw[hopen]
  simp only
  cases hlate:B9 d.bI ⟨k,b⟩
  .obtain⟨t,dd,t1,t2,t3,t4,t5,t6,t7,t8⟩:=EI hp hlate
   have hmem:∀y∈pN ⟨k,b⟩ d.bI.aF,s.aA[(y.cV-1).toNat]?=some ⟨y.aS⟩/\y.cV<s.aw.bz:=λy hy=>by
    rcases zH.1 hy with e|e
    .subst e;exact⟨q3,q2.2⟩
    exact h.pe y e
   have hpre:=Ru (l:=d.bI.aQ) (sub:=s.aA) (t:=t) h.pr hp.n (λk y hy=>⟨t2 k y hy,(hmem y (by rw[t1];exact ZH _ (W2 hy))).1⟩)
   have hnext:(oV d.bI ⟨k,b⟩).bz<=s.aw.bz:=by
    rw[t3]
    by_cases ht:t.length=0
    .rw[ht];have:=h.nx;simp;omega
    obtain⟨y,hy⟩:∃y,t[t.length-1]?=some y:=⟨_,W0 ZK⟩
    have e1:=t2 _ y hy
    have e2:=(hmem y (by rw[t1];exact ZH _ (W2 hy))).2
    omega
   have hak:=h.ak
   refine⟨⟨rfl,YP _,.inr ⟨rfl,rfl⟩,by simp only;rw[t3];omega,rfl,rfl,YP _,.inr ⟨rfl,rfl⟩,Zz _,YP _⟩,
    {h with pr:=by simp only;rw[t4];exact hpre,pe:=λy hy=>?_,nx:=hnext,ak:=by simp only;rw[t3];omega},λm hm _=>?_⟩
   .simp only at hy
    rcases t6 with e|e
    .rw[e] at hy;exact hmem y (by rw[t1];exact List.mem_append_right _ hy)
    rw[e] at hy;simp at hy
   simp at hm;subst hm;exact YP _
  have e:oV d.bI ⟨k,b⟩=d.bI:=by rw[oV,hlate];rfl
  rw[e]
  refine⟨vh.refl d s,h,λm hm _=>?_⟩
  simp at hm;subst hm;exact YP _
 exfalso
 rcases q with q|⟨q1,q2⟩
 .omega
 rw[hcond.2.2] at q2;cases q2
end
theorem MK {d:aD} {s:ah} {a:am} (h:SI d s a):SI (vB d) s a/\vh d s (vB d) s:=by
 rw[vB]
 cases eqB d.bu 2
 .exact⟨h,vh.refl d s⟩
 have:=y7.keep h (r:=⟨{d with bu:=3},[]⟩) rfl rfl rfl rfl (by simp)
 exact⟨this.si,this.mo⟩
theorem qd {n:ab} (h:PI n) {i:Nat} {d:aD} {s:ah} {a:am} (hd:n.an[i]?=some d) (hs:n.aj[i]?=some s) (ha:n.bi[i]?=some a) {r:bh} (st:y7 d s a r):PI (gq n i r):=by
 have hi:=(W1.1 hd).1
 have hm:=h.setM hd hs st.mo (a':=a) st.si
 rw[ea hs,ea ha] at hm
 refine PI.sends _ hm λf hf x y hx hy=>?_
 obtain⟨m,hm',rfl⟩:=X1.1 hf
 simp only[jx,YQ] at hx hy
 have e1:(n.an.set i r.bv)[i]?=some r.bv:=by simp[hi]
 rw[e1] at hx;rw[hs] at hy
 cases hx;cases hy
 exact⟨λ_ _ h3=>.inl (st.sg m hm' h3),λh1 _=>by simp[jx] at h1,λh1 _ _=>by simp[jx] at h1⟩
open Go.Proofs
attribute [local simp] bA bb be
structure B2 (d:aD) (s:ah) (a:am) (r:bR):Prop where
 mo:vh d s d r.aP
 si:SI d r.aP a
 sg:∀m∈r.dX,m.aV=2->Te r.aP m
theorem Sn (xs:List ae) (j:Nat):f8 xs=f8 (xs.take j)+f8 (xs.drop j):=by
 simp only[f8]
 rw[<-ZE,<-X5,List.take_append_drop]
theorem IM {l:List bm} {k:Nat} {p:bm} (h:l[k]?=some p):jI l (k+1)=jI l k+p.aS.length:=by
 simp only[jI]
 rw[YY,h]
 simp
theorem CX {l:List bm} {u:List ae} {A:Nat} (h:∀(i:Nat) x,u[i]?=some x->l[A+i]?=some ⟨x.aS⟩):∀j:Nat,j<=u.length->jI l (A+j)=jI l A+f8 (u.take j)
 |0,_=>by simp[f8]
 |j+1,hj=>by
  obtain⟨x,hx⟩:∃x,u[j]?=some x:=⟨_,W0 ZK⟩
  rw[<-Nat.add_assoc,IM (h j x hx),CX h j ZK,YY,hx]
  simp only[f8,Option.toList_some,X5,ZE,Xs,X8,ZJ,List.sum_nil]
  omega
theorem KV {l l':List bm} (h:l<+:l') {k:Nat} (hk:k<=l.length):jI l' k=jI l k:=by
 obtain⟨z,rfl⟩:=h
 simp only[jI]
 rw[List.take_append_of_le_length hk]
theorem tZ {x:aG} (h:ro x=true):0<=x.cV/\x.cV<=999999:=by
 simp only[ro,v0,bE] at h;omega
section
variable {d:aD} {s:ah} {a:am} (h:SI d s a) (g:SG s a)
theorem B2.none (h:SI d s a):B2 d s a ⟨s,[]⟩:=⟨vh.refl d s,h,by simp⟩
include h
theorem Ov {s':ah} {l:List aH} (h1:s'.bC=s.bC) (h2:s'.aF=s.aF) (h3:s'.bF=s.bF) (h4:s'.bu=s.bu) (h5:s'.ag=s.ag) (h6:s'.aO=s.aO) (h7:s'.aA=s.aA) (h8:s'.aw=s.aw) (h9:s'.bM.ed=s.bM.ed) (hl:∀m∈l,m.aV≠2):B2 d s a ⟨s',l⟩:=by
 refine⟨⟨rfl,YP _,.inr ⟨rfl,rfl⟩,YP _,by rw[h1],by rw[h1],by rw[h1];exact YP _,.inr ⟨h5,h6⟩,by rw[h7];exact Zz _,by rw[h8];exact YP _⟩,?_,λm hm e=>absurd e (hl m hm)⟩
 exact⟨by rw[h1];exact h.cl,by rw[h1,h3];exact h.pq,by rw[h3,h5];exact h.pg,by rw[h1,h2,h3];exact h.pv,by rw[h1,h5];exact h.sg,by rw[h4,h5];exact h.s1,by rw[h1,h5,h6];exact h.sk,h.dg,by rw[h1];exact h.dk,by rw[h7];exact h.pr,by rw[h7,h8];exact h.pe,by rw[h8];exact h.nx,by rw[h7,h8];exact h.wn,by rw[h8];exact h.ak,by rw[h7,h8,h9];exact h.ch⟩
include g
theorem O2 (m:aH):B2 d s a (J5 s m):=by
 have hr:=tZ g.sp.rcd
 simp only[J5]
 cases hb:eqB s.bC.cV 999999
 .have hb:=I9 hb
  simp only[cond_false]
  refine⟨⟨rfl,YP _,.inr ⟨rfl,rfl⟩,YP _,rfl,rfl,by simp only;omega,.inr ⟨rfl,rfl⟩,Zz _,YP _⟩,?_,λx hx e=>?_⟩
  .have h1:=h.cl
   have h2:=h.sg
   exact {h with cl:=by simp only;omega,pq:=YP _,pg:=λ_=>by simp only;omega,pv:=λ_=>rfl,sg:=by simp only;omega,sk:=h.sk,dk:=h.dk}
  simp at hx;subst hx
  exact⟨s.bC.cV+1,⟨by omega,YP _⟩,rfl,rfl⟩
 exact .none h
theorem LK (m:aH):B2 d s a (BM s m):=by
 rw[BM]
 cases hb:leB s.bF 0||(!eqB m.ag s.bF||(!eqB m.bK s.aF.vp||leB 999999 s.a9))
 .simp only[Xi] at hb
  have hp:=zK hb.1
  have h1:=h.pg hp
  simp only[cond_false,xQ]
  refine⟨⟨rfl,YP _,.inr ⟨rfl,rfl⟩,YP _,rfl,rfl,YP _,.inl h1,Zz _,YP _⟩,?_,λx hx e=>?_⟩
  .have h2:=h.pq
   have h3:=tZ g.sp.rcd
   exact {h with pq:=by show(0:Int)<=s.bC.cV;omega,pg:=λe=>by simp at e,pv:=λe=>by simp at e,sg:=h2,s1:=λ_=>hp,sk:=λ_=>by show s.aF.eP=xZ s.bC s.bF;rw[h.pv hp];rfl}
  simp[xt,wH] at hx;subst hx;simp at e
 exact .none h
omit g in
theorem LH (m:aH):B2 d s a (BL s m):=by
 rw[BL]
 cases !tx s m||(ltB m.a9 s.a9||(eqB m.a9 s.a9&&!eqB m.bg s.bg))
 .exact Ov h rfl rfl rfl rfl rfl rfl rfl rfl rfl (by simp[xt,wH])
 exact .none h
theorem O1 {m:aH} (hf:m.bK<=d.bI.bz\/Vk s m):B2 d s a (J4 s m):=by
 rw[J4]
 cases hb:!tx s m||ltB s.aw.bz m.bK
 .simp only[cond_false]
  simp only[Xi,Bool.not_eq_false'] at hb
  obtain⟨hk,hn⟩:=hb
  simp only[tx,v0] at hk
  rcases hf with hf|hf
  .have hg:=Gq g m.bK
   have hw:=g.sp.win
   have hd:=FE hw hn
   have hle:=s4 hn
   have f1:=hw.f
   have f2:=hw.n
   have hch:=h.ch
   have hak:=h.ak
   obtain⟨j,hj⟩:∃j,j=(m.bK-(s.aw.bz-s.aw.az.length)).toNat:=⟨_,rfl⟩
   rw[<-hj] at hd
   have hjl:j<=s.aw.az.length:=by omega
   have hnx:(kU s.aw m.bK).bz=s.aw.bz:=by rw[hd]
   have hlen:(kU s.aw m.bK).az.length=s.aw.az.length-j:=by rw[hd];simp
   have hacked:i6 (kU s.aw m.bK)=i6 s.aw+j:=by simp only[i6,hnx,hlen];omega
   have ha0:0<=i6 s.aw:=by simp only[i6];omega
   have hcut:=Sn s.aw.az j
   have hb':jI s.aA ((i6 s.aw).toNat+j)=jI s.aA (i6 s.aw).toNat+f8 (s.aw.az.take j):=by
    refine CX (λi x hx=>?_) j hjl
    have e1:=(hw.u i x hx).1
    have e2:=h.wn x (W2 hx)
    rw[show(i6 s.aw).toNat+i=(x.cV-1).toNat by simp only[i6];omega];exact e2
   refine⟨⟨rfl,YP _,.inr ⟨rfl,rfl⟩,YP _,rfl,rfl,YP _,.inr ⟨rfl,rfl⟩,Zz _,by simp only[mP,hnx];exact YP _⟩,?_,by simp⟩
   refine⟨h.cl,h.pq,h.pg,h.pv,h.sg,h.s1,h.sk,h.dg,h.dk,h.pr,?_,?_,λx hx=>h.wn x (y9 _ _ x hx),?_,?_⟩
   .simp only[mP,hnx];exact h.pe
   .simp only[mP,hnx];exact h.nx
   .show i6 (kU s.aw m.bK)<d.bI.bz
    rw[hacked];simp only[i6] at hak ⊢;omega
   rw[hg.2]
   show a.er+(s.bM.ed+(f8 s.aw.az-f8 (kU s.aw m.bK).az))=jI s.aA (i6 (kU s.aw m.bK)).toNat
   rw[hacked,show(i6 s.aw+(j:Int)).toNat=(i6 s.aw).toNat+j by omega,hb',<-hch,hd]
   simp only;omega
  exfalso
  have e1:=pH hk.2.1
  rcases hf with q|⟨q1,q2⟩
  .omega
  rw[hk.2.2] at q2;cases q2
 exact .none h
theorem Ka {m:aH} (hf:m.aV=8->m.bK<=d.bI.bz\/Vk s m):B2 d s a (sUp s m):=by
 rw[sUp]
 cases mM m
 .exact .none h
 simp only[au]
 cases eqB m.aV 1
 .cases eqB m.aV 3
  .cases eqB m.aV 5
   .cases h8:eqB m.aV 8
    .exact .none h
    exact O1 h g (hf (pH h8))
   exact LH h m
  exact LK h g m
 exact O2 h g m
theorem D8:B2 d s a ⟨g9 s,[]⟩:=by
 have hr:=tZ g.sp.rcd
 exact⟨⟨rfl,YP _,.inr ⟨rfl,rfl⟩,YP _,rfl,rfl,YP _,.inr ⟨rfl,rfl⟩,Zz _,YP _⟩,
  {h with pq:=by show(0:Int)<=s.bC.cV;omega,pg:=λe=>by simp[g9] at e,pv:=λe=>by simp[g9] at e},by simp⟩
theorem Gs (b:List Int):B2 d s a ⟨(rm s b).1,[]⟩:=by
 rw[rm]
 cases leB 24 (s.aA.length:Int)||ltB 60 (b.length:Int)
 .simp only[cond_false]
  have hp:s.aA<+:s.aA++[(⟨b⟩:bm)]:=List.prefix_append _ _
  have hnx:=g.sp.nx
  refine⟨⟨rfl,YP _,.inr ⟨rfl,rfl⟩,YP _,rfl,rfl,YP _,.inr ⟨rfl,rfl⟩,hp,YP _⟩,
   {h with pr:=h.pr.trans hp,pe:=λx hx=>⟨Cz hp (h.pe x hx).1,(h.pe x hx).2⟩,wn:=λx hx=>Cz hp (h.wn x hx),ch:=?_},by simp⟩
  show a.er+s.bM.ed=jI (s.aA++[(⟨b⟩:bm)]) (i6 s.aw).toNat
  rw[KV hp (by simp only[i6];omega)];exact h.ch
 exact .none h
end
open Go.Proofs
attribute [local simp] bA bb be
theorem ym.mono {s s':ah} {x:aC} (h:ym s x) (h1:s'.bC=s.bC) (h2:s'.aA=s.aA) (h3:s.aw.bz<=s'.aw.bz):ym s' x:=by
 obtain⟨k,g,e,b,q1,q2,q3,q4⟩:=h
 exact⟨k,g,e,b,q1,⟨q2.1,by omega⟩,by rw[h2];exact q3,by rw[h1];exact q4⟩
structure TrS (d:aD) (s:ah) (a:am) (s':ah) (a':am) (r:List aC):Prop where
 rc:s'.bC=s.bC
 gn:s'.ag=s.ag
 rk:s'.aO=s.aO
 su:s'.aA=s.aA
 st:s'.bu=s.bu
 wn:s.aw.bz<=s'.aw.bz
 si:SI d s' a'
 rd:∀x∈r,ym s' x
theorem TrS.mo {d:aD} {s s':ah} {a a':am} {r:List aC} (h:TrS d s a s' a' r):vh d s d s':=
 ⟨rfl,YP _,.inr ⟨rfl,rfl⟩,YP _,by rw[h.rc],by rw[h.rc],by rw[h.rc];exact YP _,.inr ⟨h.gn,h.rk⟩,by rw[h.su];exact Zz _,h.wn⟩
theorem SI.pay {d:aD} {s s':ah} {a a':am} (h:SI d s a) (h1:s'.bC=s.bC) (h2:s'.aF=s.aF) (h3:s'.bF=s.bF) (h4:s'.bu=s.bu) (h5:s'.ag=s.ag) (h6:s'.aO=s.aO) (h7:s'.aA=s.aA) (h8:s'.aw=s.aw) (h9:a'.er+s'.bM.ed=a.er+s.bM.ed):SI d s' a':=
 ⟨by rw[h1];exact h.cl,by rw[h1,h3];exact h.pq,by rw[h3,h5];exact h.pg,by rw[h1,h2,h3];exact h.pv,by rw[h1,h5];exact h.sg,by rw[h4,h5];exact h.s1,by rw[h1,h5,h6];exact h.sk,h.dg,by rw[h1];exact h.dk,by rw[h7];exact h.pr,by rw[h7,h8];exact h.pe,by rw[h8];exact h.nx,by rw[h7,h8];exact h.wn,by rw[h8];exact h.ak,by rw[h9,h7,h8];exact h.ch⟩
theorem K6 {s:ah} {a:am} (h:SG s a) (n:Int):(df s a n).2.er+(df s a n).1.bM.ed=a.er+s.bM.ed:=by
 rw[df]
 cases leB (lY s n) 0
 .have:=(DY h.mo.acc s.bM.ax (Fc (lY s n) s.g7.eg)).2.2.2.2.2.1
  simp only[cond_false,kF,this]
 rfl
theorem Ok {d:aD} {s:ah} {a:am} (h:SI d s a) (g:SG s a) (n:Int):SI d (df s a n).1 (df s a n).2:=by
 obtain⟨q,hk⟩:=oG s a n
 have hp:=K6 g n
 exact h.pay (by rw[hk]) (by rw[hk]) (by rw[hk]) (by rw[hk]) (by rw[hk]) (by rw[hk]) (by rw[hk]) (by rw[hk]) hp
theorem UB {d:aD} {s:ah} {a:am} (h:SI d s a) (g:SG s a) {x:bm} (e:rK s=some x):SI d {s with aw:=pp s.aw x.aS} a:=by
 obtain⟨hm,_,hx,hn,hl,hb⟩:=nU g.sp e
 have hnx:=h.nx
 have hac:i6 (pp s.aw x.aS)=i6 s.aw:=by simp only[i6,pp,List.length_append,W8,YS];omega
 refine⟨h.cl,h.pq,h.pg,h.pv,h.sg,h.s1,h.sk,h.dg,h.dk,h.pr,λy hy=>⟨(h.pe y hy).1,by have:=(h.pe y hy).2;simp only[pp];omega⟩,by simp only[pp];omega,λy hy=>?_,by rw[hac];exact h.ak,by rw[hac];exact h.ch⟩
 simp only[pp,W3,X7] at hy
 rcases hy with hy|hy
 .exact h.wn y hy
 subst hy;exact hx
theorem Gu {d:aD} {s:ah} {a:am} (h:SI d s a) (h1:s.bu=1) {y:ae} (hy:s.aA[(y.cV-1).toNat]?=some ⟨y.aS⟩) (hk:1<=y.cV/\y.cV<s.aw.bz) (e:Int):ym s (iV s.aO s.ag e y):=by
 have hg:=h.s1 h1
 exact⟨y.cV,s.ag,e,y.aS,hg,hk,hy,by rw[h.sk hg]⟩
theorem Gx {d:aD}:∀(k:Nat) {s:ah} {a:am} {r:List aC},SI d s a->SG s a->s.bu=1->(∀x∈r,ym s x)->TrS d s a (iW k s a r).1 (iW k s a r).2.1 (iW k s a r).2.2
 |0,s,a,r,h,g,h1,hr=>⟨rfl,rfl,rfl,rfl,rfl,YP _,h,hr⟩
 |k+1,s,a,r,h,g,h1,hr=>by
  rw[iW]
  cases e:rK s with
  |none=>exact⟨rfl,rfl,rfl,rfl,rfl,YP _,h,hr⟩
  |some x=>
   obtain⟨hm,_,hx,hn,hl,hb⟩:=nU g.sp e
   have he:=xe g (n:=(x.aS.length:Int)) ZK
   have hsi:=Ok h g (x.aS.length:Int)
   obtain⟨q,hk⟩:=oG s a (x.aS.length:Int)
   have hw:=g.sp.win.n
   simp only
   cases hq:ltB 0 (lY (df s a (x.aS.length:Int)).1 (x.aS.length:Int))
   .simp only[cond_false]
    have e':rK (df s a (x.aS.length:Int)).1=some x:=by rw[hk];exact e
    have hsent:=UB hsi he e'
    have hsg:=CB he e' hq
    have hst:({(df s a (x.aS.length:Int)).1 with aw:=pp (df s a (x.aS.length:Int)).1.aw x.aS}:ah).bu=1:=by rw[hk];exact h1
    have hrad:∀y∈r++[iV (df s a (x.aS.length:Int)).1.aO (df s a (x.aS.length:Int)).1.ag (df s a (x.aS.length:Int)).1.a9 ⟨(df s a (x.aS.length:Int)).1.aw.bz,x.aS⟩],ym {(df s a (x.aS.length:Int)).1 with aw:=pp (df s a (x.aS.length:Int)).1.aw x.aS} y:=by
     intro y hy
     rcases W3.1 hy with hy|hy
     .exact(hr y hy).mono (by rw[hk]) (by rw[hk]) (by rw[hk];simp only[pp];omega)
     simp at hy;subst hy
     exact Gu hsent hst (y:=⟨(df s a (x.aS.length:Int)).1.aw.bz,x.aS⟩) (by rw[hk];exact hx) (by rw[hk];simp only[pp];omega) _
    have ih:=Gx k hsent hsg hst hrad
    refine⟨by rw[ih.rc,hk],by rw[ih.gn,hk],by rw[ih.rk,hk],by rw[ih.su,hk],by rw[ih.st,hk],?_,ih.si,ih.rd⟩
    refine ZD ?_ ih.wn
    rw[hk];simp only[pp];omega
   simp only[cond_true]
   refine⟨by rw[hk],by rw[hk],by rw[hk],by rw[hk],by rw[hk],by rw[hk];exact YP _,hsi,λy hy=>(hr y hy).mono (by rw[hk]) (by rw[hk]) (by rw[hk];exact YP _)⟩
theorem KP {d:aD} {s:ah} {a:am} (h:SI d s a) (g:SG s a) (h1:s.bu=1):∀x∈zf s,ym s x:=by
 rw[zf,h1]
 simp only[bb,cond_true]
 intro x hx
 obtain⟨y,hy,rfl⟩:=X1.1 hx
 have hy:=Xu hy
 obtain⟨k,hk⟩:=Xe hy
 have hu:=(g.sp.win.u k y hk).1
 have hf:=g.sp.win.f
 have hlt:=(W1.1 hk).1
 exact Gu h h1 (h.wn y hy) ZK _
theorem Gt {d:aD} {s:ah} {a:am} (h:SI d s a) (g:SG s a) (m:aM):TrS d s a (oR s a m).aP (oR s a m).eo (oR s a m).cr/\∀x∈(oR s a m).jZ,x.aV=7:=by
 rw[oR]
 cases h1:eqB s.bu 1
 .exact⟨⟨rfl,rfl,rfl,rfl,rfl,YP _,h,by simp⟩,by simp⟩
 have h1:=pH h1
 simp only[au]
 have hg:=Do g
 have hq:=zX g.sp
 cases ltB 4 (lp s)
 .simp only[cond_false,NC]
  have hsi:SI d {s with d9:=lp s,d7:=(oN s).2,bM:=(g8 s a).2} (g8 s a).1:=h.pay rfl rfl rfl rfl rfl rfl rfl rfl hg.2.2.2.1
  have ht:=Gx 2 hsi (g.upd hq (z2 g.sp)) h1 (r:=[]) (by simp)
  refine⟨⟨ht.rc,ht.gn,ht.rk,ht.su,ht.st,ht.wn,ht.si,λx hx=>?_⟩,by simp⟩
  rcases W3.1 hx with hx|hx
  .have hx':ym s x:=by
    rw[oN] at hx;revert hx
    cases EV s
    .simp
    cases ltB 0 s.d7
    .exact KP h g h1 x
    simp
   exact hx'.mono ht.rc ht.su ht.wn
  exact ht.rd x hx
 simp only[cond_true,J9]
 refine⟨⟨rfl,rfl,rfl,rfl,rfl,YP _,h.pay rfl rfl rfl rfl rfl rfl rfl rfl hg.2.2.2.1,by simp⟩,λx hx=>?_⟩
 obtain⟨c,_,rfl⟩:=X1.1 hx
 rfl
open Go.Proofs
attribute [local simp] bA bb be
theorem MP.key {nc i:Nat} {d:aD} {s:ah} {a:am} (h:MP nc i d s a):d.c9.eP=s.bC.eP:=by
 have:=h.ids
 simp only[Dw,v0,eqB_t] at this
 exact this.2
theorem OU {n:ab} (h:PI n) {i:Nat} {d:aD} {s:ah} {a:am} (hd:n.an[i]?=some d) (hs:n.aj[i]?=some s) (ha:n.bi[i]?=some a) {r:bR} (st:B2 d s a r):PI (yG n i r):=by
 have hi:=(W1.1 hs).1
 have hm:=h.setM hd hs st.mo (a':=a) st.si
 rw[ea hd,ea ha] at hm
 refine PI.sends _ hm λf hf x y hx hy=>?_
 obtain⟨m,hm',rfl⟩:=X1.1 hf
 simp only[jx,YQ] at hx hy
 have e1:(n.aj.set i r.aP)[i]?=some r.aP:=by simp[hi]
 rw[e1] at hy;rw[hd] at hx
 cases hx;cases hy
 exact⟨λh1 _=>by simp[jx] at h1,λ_ h1=>by simp[jx] at h1,λ_ _ h3=>.inl (st.sg m hm' h3)⟩
theorem JS {n:ab} (h:PI n) {i:Nat} {d:aD} {s:ah} {a:am} (hd:n.an[i]?=some d) (hs:n.aj[i]?=some s) (ha:n.bi[i]?=some a) {t:bY} (st:TrS d s a t.aP t.eo t.cr) (hp:∀x∈t.jZ,x.aV=7):PI (rQ n i t):=by
 have hi:=(W1.1 hs).1
 have hm:=h.setM hd hs st.mo st.si
 rw[ea hd] at hm
 have e1:(n.aj.set i t.aP)[i]?=some t.aP:=by simp[hi]
 have hpg:=PI.sends (t.jZ.map (jx i false)) hm λf hf x y hx hy=>by
  obtain⟨m,hm',rfl⟩:=X1.1 hf
  have hk:=hp m hm'
  exact⟨λh1 _=>by simp[jx] at h1,λ_ h1=>by simp[jx] at h1,λ_ _ h3=>by simp only[jx] at h3;omega⟩
 have hkeep:=fG (t.jZ.map (jx i false)) {n with aj:=n.aj.set i t.aP,bi:=n.bi.set i t.eo}
 refine PI.sends _ hpg λf hf x y hx hy=>?_
 obtain⟨m,hm',rfl⟩:=X1.1 hf
 rw[hkeep.2.1] at hy
 simp only[wh,YQ] at hy
 rw[e1] at hy;cases hy
 exact⟨λh1=>by simp[wh] at h1,λ_ _=>.inl (st.rd m hm'),λ_ h1=>by simp[wh] at h1⟩
theorem Kx:∀(c i:Nat) {B:Int} {n:ab},NP B n->B+c<4611686018427387904->PI n->PI (kv c i n)
 |0,_,_,_,_,_,h=>h
 |c+1,i,B,n,hn,hB,h=>by
  rw[kv]
  cases hd:n.an[i]? with
  |none=>exact h
  |some d=>
   obtain⟨d',s,a,e1,e2,e3,hm⟩:=hn.at_ (W1.1 hd).1
   rw[hd] at e1;cases e1
   exact Kx c (i+1) (kE hn hd (vC d) (zn hm.dp) hm.dc ZK) ZK (qd h hd e2 e3 (I5 (h.si i d s a hd e2 e3)))
theorem KA:∀(c i:Nat) {B:Int} {n:ab},NP B n->B+2000*c<4611686018427387904->PI n->PI (pB c i n)
 |0,_,_,_,_,_,h=>h
 |c+1,i,B,n,hn,hB,h=>by
  rw[pB]
  cases hs:n.aj[i]? with
  |none=>exact h
  |some s=>cases ha:n.bi[i]? with
   |none=>exact h
   |some a=>
    have hls:=hn.ls
    have hml:=mL hn.map
    obtain⟨d,s',a',e1,e2,e3,hm⟩:=hn.at_ (i:=i) (by have:=(W1.1 hs).1;omega)
    rw[hs] at e2;rw[ha] at e3;cases e2;cases e3
    have ht:=Gt (h.si i d s a e1 hs ha) hm.sg n.d8
    exact KA c (i+1) (DT hn hs ha (Af hm.sg ZK) (El hm.sg hn.map) ZK) ZK (JS h e1 hs ha ht.1 ht.2)
theorem PY {n:ab} (h:PI n) (k:Nat):PI (jJ n k):=⟨h.si,λf hf=>h.fi f (by
 simp only[jJ,W3] at hf
 rcases hf with hf|hf
 .exact Xu hf
 exact ZC hf)⟩
theorem K1 {B:Int} {n:ab} (hn:NP B n) (h:PI n) (k:Nat):PI (iO n k):=by
 rw[iO]
 cases hf:n.aN[k]? with
 |none=>exact h
 |some f=>
  have hfm:=W2 hf
  have hp:=hn.fs f hfm
  have h1:=PY h k
  have hdd:=hp.d
  obtain⟨d,s,a,e1,e2,e3,hm⟩:=hn.at_ (i:=f.bv.toNat) ZK
  have hfi:=h.fi f hfm d s e1 e2
  have hsi:=h.si _ d s a e1 e2 e3
  have q1:(jJ n k).an[f.bv.toNat]?=some d:=e1
  have q2:(jJ n k).aj[f.bv.toNat]?=some s:=e2
  have q3:(jJ n k).bi[f.bv.toNat]?=some a:=e3
  simp only
  cases yC (jJ n k) f.bg
  .exact⟨h1.si,h1.fi⟩
  simp only[q1,q2,au]
  cases hu:f.em
  .simp only[cond_false]
   cases eqB d.bg f.bg
   .exact⟨h1.si,h1.fi⟩
   simp only[au]
   cases hr:f.dt
   .exact qd h1 q1 q2 q3 (Mt hsi hm.key (tZ hm.sg.sp.rcd).2 (λe=>hfi.dn hu hr e))
   exact qd h1 q1 q2 q3 (Mr hsi (D3.1 hm.dp.rc.v) hm.sg.sp hm.sg.b1 (hfi.rd hu hr))
  simp only[cond_true]
  cases hr:f.dt||!eqB f.aY.bg f.bg
  .simp only[cond_false]
   simp only[Xi] at hr
   exact OU h1 q1 q2 q3 (Ka hsi hm.sg (λe=>hfi.up hu hr.1 e))
  exact h1
theorem TP {d:aD} {s:ah} {f:bD} (h:(bif f.dt then f.em||Jl d f.cr else bif f.em then hUp s f.aY else F2 d f.aY)=true):FI d s f:=by
 refine⟨λh1 h2 h3=>?_,λh1 h2=>?_,λh1 h2 h3=>?_⟩
 .rw[h2,h1] at h
  simp only[hUp,h3,show eqB 8 3=false from by simp[eqB],bb,ZF,au] at h
  right
  rcases Xg _ _ |>.mp h with q|q
  .exact .inl (mK q)
  rw[v0] at q;exact .inr ⟨pH q.1,by simpa using q.2⟩
 .rw[h2,h1] at h
  simp only[cond_true,Xz,Jl] at h
  right
  rcases Xg _ _ |>.mp h with q|q
  .exact .inl (mK q)
  rw[v0] at q;exact .inr ⟨pH q.1,by simpa using q.2⟩
 rw[h2,h1] at h
 simp only[F2,h3,bb,au] at h
 right
 rcases Xg _ _ |>.mp h with q|q
 .exact .inl (pH q)
 exact .inr (pH q)
open Go.Proofs
attribute [local simp] bA bb be
theorem PI.same {n n':ab} (h:PI n) (h1:n'.an=n.an) (h2:n'.aj=n.aj) (h3:n'.bi=n.bi) (h4:∀f∈n'.aN,f∈n.aN):PI n':=
 ⟨by rw[h1,h2,h3];exact h.si,λf hf=>by rw[h1,h2];exact h.fi f (h4 f hf)⟩
theorem We {B:Int} {n:ab} (hn:NP B n) (h:PI n) (e:cR):PI (Cb n e).2:=by
 rw[Cb]
 cases inR e.cm 0 ((n.an.length:Int)-1)
 .exact h
 simp only[au]
 cases hd:n.an[e.cm.toNat]? with
 |none=>exact h
 |some d=>
  obtain⟨d',s,a,e1,e2,e3,hm⟩:=hn.at_ (W1.1 hd).1
  rw[hd] at e1;cases e1
  have hsi:=h.si _ d s a hd e2 e3
  simp only[e2]
  cases eqB e.aV 5
  .simp only[cond_false]
   cases eqB e.aV 6
   .simp only[cond_false]
    cases eqB e.aV 7
    .simp only[cond_false]
     cases(rm s e.aS).2
     .exact h
     have st:=Gs hsi hm.sg e.aS
     have hm':=h.setM hd e2 st.mo (a':=a) st.si
     rw[ea hd,ea e3] at hm'
     exact hm'
    simp only[cond_true]
    cases eqB d.bu 2
    .exact h
    have st:=MK hsi
    have hm':=h.setM hd e2 st.2 (a':=a) st.1
    rw[ea e2,ea e3] at hm'
    exact hm'
   simp only[cond_true]
   cases eqB e.bg d.bg||!ef n.d8 e.bg
   .exact qd h hd e2 e3 (IY hsi e.bg)
   exact h
  simp only[cond_true]
  cases eqB d.bu 0
  .exact h
  exact qd h hd e2 e3 (P9 hsi)
theorem O6 {B:Int} {n:ab} (hn:NP B n) (h:PI n) (k:Int) (up:Bool):PI (fO n k up).2:=by
 rw[fO]
 cases !inR k 0 (n.cq.dP-1)||(booB (fK n.cq k) up||eqB (eR n.cq k up).dm 0)
 .simp only[cond_false]
  have key:∀(i:Nat) d s' a,n.an[i]?=some d->(py n.cq (eR n.cq k up) n.aj.length 0 n.aj)[i]?=some s'->n.bi[i]?=some a->∃s,n.aj[i]?=some s/\SI d s' a/\vh d s d s':=by
   intro i d s' a hd hs ha
   rcases nM n.cq (eR n.cq k up) n.aj.length 0 n.aj i with q|⟨t,q1,q2⟩
   .rw[q] at hs;exact⟨s',hs,h.si i d s' a hd hs ha,vh.refl d s'⟩
   rw[q2] at hs;cases hs
   have hm:=hn.m i d t a hd q1 ha
   have st:=D8 (h.si i d t a hd q1 ha) hm.sg
   exact⟨t,q1,st.si,st.mo⟩
  refine⟨λi d s' a hd hs ha=>?_,λf hf d s' hd hs=>?_⟩
  .obtain⟨s,_,g,_⟩:=key i d s' a hd hs ha;exact g
  obtain⟨d',t,a,e1,e2,e3,hm⟩:=hn.at_ (i:=f.bv.toNat) (W1.1 hd).1
  obtain⟨s,g1,_,g2⟩:=key _ d s' a hd hs e3
  exact(h.fi f hf d s hd g1).mono g2
 exact h
theorem IF {B:Int} {n:ab} (hn:NP B n) (hB:B+10000<4611686018427387904) (h:PI n) {e:cR} (he:EP e) (hh:qy n e=true):PI (jd n e).2:=by
 rw[jd]
 split
 .rw[BG]
  cases hb:leB 100000 n.oZ
  .simp only[cond_false]
   have hb:=zK hb
   have hl:=hn.ld
   have hnw:=hn.nw
   have h1:NP B {n with oZ:=n.oZ+1}:={hn with nw:=by simp only;omega}
   have p1:PI {n with oZ:=n.oZ+1}:=h.same rfl rfl rfl (λf hf=>hf)
   have p2:=Kx n.an.length 0 h1 ZK p1
   have hnp:∀(c i:Nat) {B:Int} {n:ab},NP B n->B+c<4611686018427387904->NP (B+c) (kv c i n):=by
    intro c
    induction c with
    |zero=>intro i B n hn _;simpa [kv] using hn
    |succ c ih=>
     intro i B n hn hB
     rw[kv]
     cases hd:n.an[i]? with
     |none=>exact hn.mono ZK
     |some d=>
      obtain⟨d',s,a,e1,e2,e3,hm⟩:=hn.at_ (W1.1 hd).1
      rw[hd] at e1;cases e1
      exact(ih (i+1) (kE hn hd (vC d) (zn hm.dp) hm.dc ZK) ZK).mono ZK
   have h2:=hnp n.an.length 0 h1 ZK
   have hls:=h2.ls
   have hl2:=h2.ld
   exact KA _ 0 h2 ZK p2
  exact h
 split
 .rw[rJ]
  cases inR e.cm 0 ((n.aN.length:Int)-1)
  .exact h
  simp only[au]
  cases eqB e.aV 2
  .simp only[cond_false]
   cases eqB e.aV 3
   .simp only[cond_false]
    cases leB 200 (n.aN.length:Int)
    .simp only[cond_false]
     cases hf:n.aN[e.cm.toNat]? with
     |none=>exact h
     |some f=>exact h.send (h.fi f (W2 hf))
    exact h
   exact(PY h _).same rfl rfl rfl (λf hf=>hf)
  exact K1 hn h _
 split
 .exact We hn h e
 split
 .rw[BF];cases !ef n.d8 e.cm||booB (yC n e.cm) (eqB e.aV 10)
  .exact h.same rfl rfl rfl (λf hf=>hf)
  exact h
 split
 .exact O6 hn h _ _
 split
 .rename_i h13
  rw[vY];cases hp:we n e.bG
  .exact h
  refine h.send λd s hd hs=>?_
  rw[qy,h13,hp] at hh
  simp only[bb,Yb,Xz,Xg,Xr,decide_eq_true_eq] at hh
  rcases hh with⟨f,hf,rfl⟩|hh
  .exact h.fi _ hf d s hd hs
  rw[QI,hd,hs] at hh
  exact TP hh
 exact h
theorem V7 {m:aM} {rs:List aG} {p:bk} {b:Int} (hv:sQ rs=true):PI (f7 m rs p b rs.length):=by
 refine⟨λi d s a hd hs ha=>?_,λf hf=>by simp[f7] at hf⟩
 obtain⟨hk,rfl⟩:=zZ hd
 obtain⟨_,rfl⟩:=zZ hs
 obtain⟨_,rfl⟩:=zZ ha
 simp only[sQ,v0,ee] at hv
 have hr:=hv.1 i _ (W0 hk)
 simp only[BI,v0] at hr
 have hq:=tZ hr.1
 have hg:rs.getD i default=rs[i]:=MH (W0 hk)
 refine⟨YP _,?_,λe=>?_,λe=>?_,?_,λe=>?_,λe=>?_,?_,λe=>?_,?_,?_,?_,?_,?_,?_⟩
 .simp only[ly];rw[hg];exact hq.1
 .simp[ly] at e
 .simp[ly] at e
 .simp only[ly];rw[hg];exact hq.1
 .simp[ly] at e
 .simp[ly] at e
 .simp only[sV];rw[hg];exact hq.1
 .simp[sV] at e
 .simp[sV]
 .simp[sV]
 .simp[sV,ly]
 .simp[ly]
 .simp[i6,ly,sV]
 simp[i6,ly,yo,jI]
theorem Reach.pi:∀{k:Nat} {n:ab},Reach k n->k<=1000000->PI n
 |_,_,.new h hm hp hl _,_=>V7 h.2.2
 |_,_,.step h he hh,hk=>IF (h.np ZK) ZK (h.pi ZK) he hh
open Go.Proofs
attribute [local simp] bA bb be
theorem R5 {a b:List Int} (ha:okB a) (hb:okB b):BN a b=decide (a=b):=NJ ha hb
section
variable {B:Int} {n:ab} (h:NP B n) {i:Nat} {d:aD} {s:ah} {a:am} (hd:n.an[i]?=some d) (hs:n.aj[i]?=some s) (ha:n.bi[i]?=some a)
include h hd hs ha
end
open Go.Proofs
attribute [local simp] bA bb be
def kindW (k:Int):Nat:=if k=1 then 4 else if k=2\/k=7 then 3 else if k=3\/k=5 then 2 else 1
def wf (f:bD):Nat:=if f.dt then 2 else kindW f.aY.aV
open Go.Proofs
attribute [local simp] bA bb be
structure Paid (d:aD) (s:ah) (a:am):Prop where
 le:d.bI.aQ.length<=s.aA.length
 eq:s.aA.take d.bI.aQ.length=d.bI.aQ
 ch:a.er+s.bM.ed<=jI s.aA d.bI.aQ.length
 to:a.er+s.bM.ed<=a.eJ
open Go.Proofs
attribute [local simp] bA bb be
theorem NH {xs:List Int} (hl:xs.length<=1048576) {m:Int} (hm:3<=m/\m<=900):∃r,As xs m=some r/\3<=r/\r<=m:=by
 have h0:0<=ZB (xs.length:Int) 12/\ZB (xs.length:Int) 12<=1048576:=by
  rw[Int.tdiv_eq_ediv_of_nonneg ZK];omega
 rw[As]
 rw[bL (n:=ZB (xs.length:Int) 12) ZK,bL (n:=3+ZB (xs.length:Int) 12) ZK]
 cases hb:ltB m (3+ZB (xs.length:Int) 12)
 .have:=s4 hb;exact⟨_,rfl,by omega,by omega⟩
 exact⟨m,rfl,by omega,YP _⟩
structure Pw (n:ab):Prop where
 np:∃B:Int,NP B n/\B<=100000000
 pi:PI n
 dl:1<=n.an.length/\n.an.length<=3
 re:∃k,Reach k n/\k<=200
 ru:∃k,AJ k n/\k<=200
theorem RN.good {B l:Nat} {n:ab} (h:RN B l n) (hB:B<=200) (hl:1<=l/\l<=3):Pw n:=by
 obtain⟨k,h1,h2,h3⟩:=h
 exact⟨⟨_,h1.re.np ZK,by omega⟩,h1.re.pi ZK,by omega,⟨k,h1.re,by omega⟩,k,h1,by omega⟩
theorem wRunG {xs:List Int} (hl:xs.length<=1048576) (hu:∀x∈xs,ux x) {c:aT} (hc:da c) {a m:Int} (ha:0<=a/\a<=90) (hm:3<=m/\m<=60) {r:Int} (hr:As xs m=some r):
 Wp (AB c (WR (a+r))) (λr=>da r.2.2.2/\Pw r.1/\Pw r.2.2.1/\r.2.1.length<=1010/\∀e∈r.2.1,EP e):=by
 obtain⟨r',h1,h2,h3⟩:=NH hl (m:=m) ZK
 rw[hr] at h1;cases h1
 rw[bL (n:=a+r) ZK]
 refine Wp.mono (WQ hc ZK) λx hx=>?_
 obtain⟨g1,l,g2,g3,g4,g5,g6⟩:=hx
 exact⟨g1,g3.good ZK g2,g4.good ZK g2,g5,g6⟩
theorem Ip {xs:List Int} (hl:xs.length<=1048576) (hu:∀x∈xs,ux x):Wp (pV xs) Pw:=by
 unfold pV
 obtain⟨c,e,hc,_⟩:=V9 hl hu
 obtain⟨r,h1,_,_⟩:=NH hl (m:=50) ZK
 refine Wp.eq e (Wp.eq h1 ?_)
 unfold wT
 exact Wp.call (P:=λr=>Pw r.1) (Wp.call (wRunG hl hu hc (a:=40) (m:=50) ZK ZK h1) λx hx=>Wp.some hx.2.2.1) λx hx=>Wp.some hx
open Go.Proofs
attribute [local simp] bA bb be
theorem rP (n:ab) (i:Nat) (r:bh):(gq n i r).cq=n.cq:=by
 rw[gq,(fG _ _).2.2.2.2.2.1]
theorem Lx (n:ab) (i:Nat) (t:bY):(rQ n i t).cq=n.cq:=by
 rw[rQ,(fG _ _).2.2.2.2.2.1,(fG _ _).2.2.2.2.2.1]
theorem EL:∀(c i:Nat) (n:ab),(kv c i n).cq=n.cq
 |0,_,_=>rfl
 |c+1,i,n=>by
  rw[kv]
  cases n.an[i]? with
  |none=>rfl
  |some d=>simp only;rw[EL,rP]
theorem EM:∀(c i:Nat) (n:ab),(pB c i n).cq=n.cq
 |0,_,_=>rfl
 |c+1,i,n=>by
  rw[pB]
  cases n.aj[i]? with
  |none=>rfl
  |some s=>cases n.bi[i]? with
   |none=>rfl
   |some a=>simp only;rw[EM,Lx]
theorem G8 (n:ab) (k:Nat):(iO n k).cq=n.cq:=by
 rw[iO]
 cases n.aN[k]? with
 |none=>rfl
 |some f=>
  simp only
  cases yC (jJ n k) f.bg
  .rfl
  simp only[au]
  cases f.em
  .simp only[cond_false]
   cases hd:(jJ n k).an[f.bv.toNat]? with
   |none=>rfl
   |some d=>
    simp only
    cases eqB d.bg f.bg
    .rfl
    simp only[au];rw[rP];rfl
  simp only[cond_true]
  cases f.dt||!eqB f.aY.bg f.bg
  .simp only[cond_false]
   cases hs:(jJ n k).aj[f.bv.toNat]? with
   |none=>rfl
   |some s=>simp only[yG];rw[(fG _ _).2.2.2.2.2.1];rfl
  rfl
theorem zR (n:ab) (f:bD):(fg n f).cq=n.cq:=(kD n f).2.2.2.2.2.1
theorem KS {n:ab} (hp:f4 n.cq=true) (e:cR):(jd n e).2.cq.dP=n.cq.dP:=by
 rw[jd]
 split
 .rw[BG]
  cases leB 100000 n.oZ
  .simp only[cond_false];rw[EM,EL]
  rfl
 split
 .rw[rJ]
  cases inR e.cm 0 ((n.aN.length:Int)-1)
  .rfl
  simp only[au]
  cases eqB e.aV 2
  .simp only[cond_false]
   cases eqB e.aV 3
   .simp only[cond_false]
    cases leB 200 (n.aN.length:Int)
    .simp only[cond_false]
     cases n.aN[e.cm.toNat]? with
     |none=>rfl
     |some f=>simp only;rw[zR]
    rfl
   rfl
  simp only[cond_true];rw[G8]
 split
 .rw[Cb]
  cases inR e.cm 0 ((n.an.length:Int)-1)
  .rfl
  simp only[au]
  cases n.an[e.cm.toNat]? with
  |none=>rfl
  |some d=>cases n.aj[e.cm.toNat]? with
   |none=>rfl
   |some s=>
    simp only
    cases eqB e.aV 5
    .simp only[cond_false]
     cases eqB e.aV 6
     .simp only[cond_false]
      cases eqB e.aV 7
      .simp only[cond_false]
       cases(rm s e.aS).2<;>rfl
      simp only[cond_true]
      cases eqB d.bu 2<;>rfl
     simp only[cond_true]
     cases eqB e.bg d.bg||!ef n.d8 e.bg
     .simp only[cond_false];rw[rP]
     rfl
    simp only[cond_true]
    cases eqB d.bu 0
    .rfl
    simp only[au];rw[rP]
 split
 .rw[BF];cases !ef n.d8 e.cm||booB (yC n e.cm) (eqB e.aV 10)<;>rfl
 split
 .rw[fO]
  cases !inR e.cm 0 (n.cq.dP-1)||(booB (fK n.cq e.cm) (eqB e.aV 12)||eqB (eR n.cq e.cm (eqB e.aV 12)).dm 0)
  .exact(Am hp e.cm (eqB e.aV 12)).2
  rfl
 split
 .rw[vY];cases we n e.bG
  .rfl
  simp only[au];rw[zR]
 rfl
theorem Reach.two:∀{k:Nat} {n:ab},Reach k n->k<=1000000->n.cq.dP=2
 |_,_,.new h hm hp hl _,_=>rfl
 |_,_,.step (e:=e) h he hh,hk=>by rw[KS (h.np ZK).core e];exact h.two ZK
open Go.Proofs
attribute [local simp] bA bb be
theorem NF {p:a8} (i:Int):∀(c k:Nat) (v:Int),(v= -1\/fK p v=true)->(Fw p i c k v= -1/\v= -1/\∀j:Nat,k<=j->j<k+c->fK p j=false)\/fK p (Fw p i c k v)=true
 |0,k,v,h=>by
  rw[Fw]
  rcases h with h|h
  .exact .inl ⟨h,h,λj h1 h2=>by omega⟩
  exact .inr h
 |c+1,k,v,h=>by
  rw[Fw]
  have hs:lJ p i v k=v\/(lJ p i v k=k/\fK p k=true):=by
   rw[lJ]
   cases hu:fK p k
   .exact .inl rfl
   cases ltB v 0||ltB (wt v i) (wt k i)
   .exact .inl rfl
   exact .inr ⟨rfl,rfl⟩
  have hv:lJ p i v k= -1\/fK p (lJ p i v k)=true:=by
   rcases hs with e|⟨e,e2⟩
   .rw[e];exact h
   rw[e];exact .inr e2
  rcases NF i c (k+1) _ hv with⟨q1,q2,q3⟩|q
  .left
   rcases hs with e|⟨e,e2⟩
   .rw[e] at q2
    refine⟨q1,q2,λj h1 h2=>?_⟩
    by_cases hj:j=k
    .subst hj
     cases hu:fK p j
     .rfl
     rw[lJ,hu,q2,show ltB (-1) 0=true from by simp[ltB]] at e
     simp at e
    exact q3 j ZK ZK
   rw[e] at q2;omega
  exact .inr q
theorem WM:∀c∈hV 7,∀m∈hV (2^c),m≠0->(hV c).any (λ(k:Nat)=>eqB (vi .i64 (yq .i64 (m:Int) (k:Int)) 1) 1)=true:=by decide+kernel
theorem UM {p:a8} (h:f4 p=true) (hu:p.dm≠0):∃k:Nat,(k:Int)<p.dP/\fK p k=true:=by
 have hp:=iP h
 have h2:=h
 simp only[f4,v0,bE] at h2
 have h3:=h2.2
 rw[show p.dP=(p.dP.toNat:Int) by omega,H5 p.dP.toNat (X4.2 ZK)] at h3
 have:=WM p.dP.toNat (X4.2 ZK) p.dm.toNat (X4.2 ZK) ZK
 rw[Xr] at this
 obtain⟨k,hk,hb⟩:=this
 have hk:=X4.1 hk
 rw[show(p.dm.toNat:Int)=p.dm by omega] at hb
 exact⟨k,by omega,by rw[fK,h,bE.2 ZK,hb];rfl⟩
theorem Sb {p:a8} (h:f4 p=true) (hu:p.dm≠0) (i:Int):fK p (sel p i)=true:=by
 obtain⟨k,h1,h2⟩:=UM h hu
 rcases NF i p.dP.toNat 0 (-1) (.inl rfl) with⟨_,_,q3⟩|q
 .rw[q3 k ZK ZK] at h2;cases h2
 exact q
theorem Ks {p:a8} {k:Int} (h:fK p k=true):0<=k/\k<p.dP:=by
 simp only[fK,v0,bE] at h;omega
theorem Qg:∀m∈hV 4,∀k∈hV 2,eqB (vi .i64 (yq .i64 (pD .i64 (m:Int) (jY .i64 1 (k:Int))) (k:Int)) 1) 1=false:=by decide+kernel
theorem Er {p:a8} (h:f4 p=true) (hs:p.dP=2) {k:Int} (hk:inR k 0 (p.dP-1)=true):fK (eR p k false) k=false:=by
 have hk':=bE.1 hk
 have h2:=h
 simp only[f4,v0,bE] at h2
 have h3:=h2.2
 rw[show p.dP=((2:Nat):Int) by omega,H5 2 (by simp)] at h3
 have:=Qg p.dm.toNat (X4.2 ZK) k.toNat (X4.2 ZK)
 rw[show(p.dm.toNat:Int)=p.dm by omega,show(k.toNat:Int)=k by omega] at this
 rw[fK,eR,h,hk]
 simp only[YZ,this,Bool.and_false,au]
theorem R8 {p:a8} (h:f4 p=true) (hs:p.dP=2) (hu:p.dm≠0) {k:Int} (hk:inR k 0 (p.dP-1)=true) (hq:(eR p k false).dm≠0) (i:Int):
 sel (eR p k false) i≠k/\(eqB (sel p i) (sel (eR p k false) i)=!eqB (sel p i) k):=by
 have hv:=Am h k false
 have h1:=Sb h hu i
 have h2:=Sb hv.1 hq i
 have h3:=Er h hs hk
 have hk':=bE.1 hk
 have g1:=Ks h1
 have g2:=Ks h2
 rw[hv.2] at g2
 have hne:sel (eR p k false) i≠k:=λe=>by rw[e,h3] at h2;cases h2
 refine⟨hne,?_⟩
 by_cases e:sel p i=k
 .rw[e,bb];exact eqB_f.2 (Ne.symm hne)
 rw[eqB_f.2 e];exact eqB_t.2 ZK
open Go.Proofs
attribute [local simp] bA bb be
open Go.Proofs
attribute [local simp] bA bb be
def HO (r:aG) (g:Int):Int:=if g=0 then 0 else xZ r g
def Py (s:ah) (x:aC):Prop:=ym s x\/wX (HO s.bC x.ag) x=false
structure PR (n:ab):Prop where
 dz:∀d∈n.an,d.ag=0->d.aO=0
 sz:∀s∈n.aj,s.ag=0->s.aO=0
 rd:∀f∈n.aN,f.dt=true->f.em=false/\∀s,n.aj[f.bv.toNat]?=some s->Py s f.cr
theorem ym.mo {d d':aD} {s s':ah} {x:aC} (h:ym s x) (m:vh d s d' s'):ym s' x:=by
 obtain⟨k,g,e,b,q1,q2,q3,q4⟩:=h
 exact⟨k,g,e,b,q1,⟨q2.1,ZI q2.2 m.wn⟩,Cz m.su q3,by rw[Dz m.ri m.rk];exact q4⟩
theorem Py.mo {d d':aD} {s s':ah} {x:aC} (h:Py s x) (m:vh d s d' s'):Py s' x:=by
 rcases h with h|h
 .exact .inl (h.mo m)
 right;rw[HO,Dz m.ri m.rk];exact h
open Go.Proofs
attribute [local simp] bA bb be
def RF (n:ab) (f:bD):Prop:=f.dt=true->f.em=false/\∀s,n.aj[f.bv.toNat]?=some s->Py s f.cr
theorem PR.send {n:ab} (h:PR n) {f:bD} (hf:RF n f):PR (fg n f):=by
 rw[fg]
 cases leB 200 (n.aN.length:Int)
 .refine⟨h.dz,h.sz,λg hg=>?_⟩
  rcases W3.1 hg with hg|hg
  .exact h.rd g hg
  simp at hg;subst hg;exact hf
 exact⟨h.dz,h.sz,h.rd⟩
theorem PR.sends:∀(l:List bD) {n:ab},PR n->(∀f∈l,RF n f)->PR (sends n l)
 |[],n,h,_=>h
 |f::l,n,h,hf=>by
  have hk:=kD n f
  exact PR.sends l (h.send (hf f (by simp))) (λg hg=>by unfold RF;rw[hk.2.1];exact hf g (by simp[hg]))
theorem PR.setM {n:ab} (h:PR n) {i:Nat} {d d':aD} {s s':ah} {a':am} (hd:n.an[i]?=some d) (hs:n.aj[i]?=some s) (hm:vh d s d' s') (g1:0<=d.ag) (g2:0<=s.ag):
 PR {n with an:=n.an.set i d',aj:=n.aj.set i s',bi:=n.bi.set i a'}:=by
 refine⟨λx hx e=>?_,λx hx e=>?_,λf hf h1=>⟨(h.rd f hf h1).1,λx hx=>?_⟩⟩
 .rcases Y7 hx with hx|rfl
  .exact h.dz x hx e
  rcases hm.dg with q|⟨q1,q2⟩
  .omega
  rw[q2];exact h.dz d (W2 hd) ZK
 .rcases Y7 hx with hx|rfl
  .exact h.sz x hx e
  rcases hm.sg with q|⟨q1,q2⟩
  .omega
  rw[q2];exact h.sz s (W2 hs) ZK
 rcases mg hx with⟨e1,e2⟩|⟨e1,e2⟩
 .subst e2;exact((h.rd f hf h1).2 s (by rw[<-e1];exact hs)).mo hm
 exact(h.rd f hf h1).2 x e2
theorem H7 (n:ab) (i:Int) (up:Bool) (m:aH):RF n (jx i up m):=λh=>by simp[jx] at h
section
variable {B:Int} {n:ab} (hn:NP B n) (h:PR n) {i:Nat} {d:aD} {s:ah} {a:am} (hd:n.an[i]?=some d) (hs:n.aj[i]?=some s) (ha:n.bi[i]?=some a)
include hn h hd hs ha
theorem tE {r:bh} (st:y7 d s a r):PR (gq n i r):=by
 have hm:=hn.m i d s a hd hs ha
 have:=h.setM hd hs st.mo (a':=a) hm.dp.gn.1 hm.sg.sp.gn.1
 rw[ea hs,ea ha] at this
 exact PR.sends _ this λf hf=>by obtain⟨m,_,rfl⟩:=X1.1 hf;exact H7 _ _ _ _
theorem OV {r:bR} (st:B2 d s a r):PR (yG n i r):=by
 have hm:=hn.m i d s a hd hs ha
 have:=h.setM hd hs st.mo (a':=a) hm.dp.gn.1 hm.sg.sp.gn.1
 rw[ea hd,ea ha] at this
 exact PR.sends _ this λf hf=>by obtain⟨m,_,rfl⟩:=X1.1 hf;exact H7 _ _ _ _
theorem Rw {t:bY} (st:TrS d s a t.aP t.eo t.cr):PR (rQ n i t):=by
 have hm:=hn.m i d s a hd hs ha
 have hi:=(W1.1 hs).1
 have:=h.setM hd hs st.mo (a':=t.eo) hm.dp.gn.1 hm.sg.sp.gn.1
 rw[ea hd] at this
 have hpg:=PR.sends (t.jZ.map (jx i false)) this λf hf=>by obtain⟨m,_,rfl⟩:=X1.1 hf;exact H7 _ _ _ _
 have hkeep:=fG (t.jZ.map (jx i false)) {n with aj:=n.aj.set i t.aP,bi:=n.bi.set i t.eo}
 refine PR.sends _ hpg λf hf _=>?_
 obtain⟨m,hm',rfl⟩:=X1.1 hf
 refine⟨rfl,λx hx=>?_⟩
 rw[hkeep.2.1] at hx
 simp only[wh,YQ] at hx
 rw[show(n.aj.set i t.aP)[i]?=some t.aP by simp[hi]] at hx;cases hx
 exact .inl (st.rd m hm')
end
theorem PZ {n:ab} (h:PR n) (k:Nat):PR (jJ n k):=⟨h.dz,h.sz,λf hf=>h.rd f (by
 simp only[jJ,W3] at hf
 rcases hf with hf|hf
 .exact Xu hf
 exact ZC hf)⟩
theorem K2 {B:Int} {n:ab} (hn:NP B n) (p:PI n) (h:PR n) (k:Nat):PR (iO n k):=by
 rw[iO]
 cases hf:n.aN[k]? with
 |none=>exact h
 |some f=>
  have hfm:=W2 hf
  have hp:=hn.fs f hfm
  have h1:=PZ h k
  have hn1:=Ct hn k
  have hdd:=hp.d
  obtain⟨d,s,a,e1,e2,e3,hm⟩:=hn.at_ (i:=f.bv.toNat) ZK
  have hfi:=p.fi f hfm d s e1 e2
  have hsi:=p.si _ d s a e1 e2 e3
  have q1:(jJ n k).an[f.bv.toNat]?=some d:=e1
  have q2:(jJ n k).aj[f.bv.toNat]?=some s:=e2
  have q3:(jJ n k).bi[f.bv.toNat]?=some a:=e3
  simp only
  cases yC (jJ n k) f.bg
  .exact⟨h1.dz,h1.sz,h1.rd⟩
  simp only[q1,q2,au]
  cases hu:f.em
  .simp only[cond_false]
   cases eqB d.bg f.bg
   .exact⟨h1.dz,h1.sz,h1.rd⟩
   simp only[au]
   cases hr:f.dt
   .exact tE hn1 h1 q1 q2 q3 (Mt hsi hm.key (tZ hm.sg.sp.rcd).2 (λe=>hfi.dn hu hr e))
   exact tE hn1 h1 q1 q2 q3 (Mr hsi (D3.1 hm.dp.rc.v) hm.sg.sp hm.sg.b1 (hfi.rd hu hr))
  simp only[cond_true]
  cases hr:f.dt||!eqB f.aY.bg f.bg
  .simp only[cond_false]
   simp only[Xi] at hr
   exact OV hn1 h1 q1 q2 q3 (Ka hsi hm.sg (λe=>hfi.up hu hr.1 e))
  exact h1
open Go.Proofs
attribute [local simp] bA bb be
theorem Ky:∀(c i:Nat) {B:Int} {n:ab},NP B n->B+c<4611686018427387904->PI n->PR n->PR (kv c i n)/\PI (kv c i n)/\NP (B+c) (kv c i n)
 |0,_,_,_,hn,_,p,h=>⟨h,p,by simpa [kv] using hn⟩
 |c+1,i,B,n,hn,hB,p,h=>by
  rw[kv]
  cases hd:n.an[i]? with
  |none=>exact⟨h,p,hn.mono ZK⟩
  |some d=>
   obtain⟨d',s,a,e1,e2,e3,hm⟩:=hn.at_ (W1.1 hd).1
   rw[hd] at e1;cases e1
   have st:=I5 (p.si i d s a hd e2 e3)
   have ih:=Ky c (i+1) (kE hn hd (vC d) (zn hm.dp) hm.dc ZK) ZK (qd p hd e2 e3 st) (tE hn h hd e2 e3 st)
   exact⟨ih.1,ih.2.1,ih.2.2.mono ZK⟩
theorem KB:∀(c i:Nat) {B:Int} {n:ab},NP B n->B+2000*c<4611686018427387904->PI n->PR n->PR (pB c i n)
 |0,_,_,_,_,_,_,h=>h
 |c+1,i,B,n,hn,hB,p,h=>by
  rw[pB]
  cases hs:n.aj[i]? with
  |none=>exact h
  |some s=>cases ha:n.bi[i]? with
   |none=>exact h
   |some a=>
    have hls:=hn.ls
    have hml:=mL hn.map
    obtain⟨d,s',a',e1,e2,e3,hm⟩:=hn.at_ (i:=i) (by have:=(W1.1 hs).1;omega)
    rw[hs] at e2;rw[ha] at e3;cases e2;cases e3
    have ht:=Gt (p.si i d s a e1 hs ha) hm.sg n.d8
    exact KB c (i+1) (DT hn hs ha (Af hm.sg ZK) (El hm.sg hn.map) ZK) ZK (JS p e1 hs ha ht.1 ht.2) (Rw hn h e1 hs ha ht.1)
theorem Wf {B:Int} {n:ab} (hn:NP B n) (p:PI n) (h:PR n) (e:cR):PR (Cb n e).2:=by
 rw[Cb]
 cases inR e.cm 0 ((n.an.length:Int)-1)
 .exact h
 simp only[au]
 cases hd:n.an[e.cm.toNat]? with
 |none=>exact h
 |some d=>
  obtain⟨d',s,a,e1,e2,e3,hm⟩:=hn.at_ (W1.1 hd).1
  rw[hd] at e1;cases e1
  have hsi:=p.si _ d s a hd e2 e3
  simp only[e2]
  cases eqB e.aV 5
  .simp only[cond_false]
   cases eqB e.aV 6
   .simp only[cond_false]
    cases eqB e.aV 7
    .simp only[cond_false]
     cases(rm s e.aS).2
     .exact h
     have st:=Gs hsi hm.sg e.aS
     have hm':=h.setM hd e2 st.mo (a':=a) hm.dp.gn.1 hm.sg.sp.gn.1
     rw[ea hd,ea e3] at hm'
     exact hm'
    simp only[cond_true]
    cases eqB d.bu 2
    .exact h
    have st:=MK hsi
    have hm':=h.setM hd e2 st.2 (a':=a) hm.dp.gn.1 hm.sg.sp.gn.1
    rw[ea e2,ea e3] at hm'
    exact hm'
   simp only[cond_true]
   cases eqB e.bg d.bg||!ef n.d8 e.bg
   .exact tE hn h hd e2 e3 (IY hsi e.bg)
   exact h
  simp only[cond_true]
  cases eqB d.bu 0
  .exact h
  exact tE hn h hd e2 e3 (P9 hsi)
theorem O7 {B:Int} {n:ab} (hn:NP B n) (p:PI n) (h:PR n) (k:Int) (up:Bool):PR (fO n k up).2:=by
 rw[fO]
 cases !inR k 0 (n.cq.dP-1)||(booB (fK n.cq k) up||eqB (eR n.cq k up).dm 0)
 .simp only[cond_false]
  have hls:=hn.ls
  have key:∀(i:Nat) s',(py n.cq (eR n.cq k up) n.aj.length 0 n.aj)[i]?=some s'->∃d s,n.aj[i]?=some s/\vh d s d s'/\s'.ag=s.ag/\s'.aO=s.aO:=by
   intro i s' hs
   rcases nM n.cq (eR n.cq k up) n.aj.length 0 n.aj i with q|⟨t,q1,q2⟩
   .rw[q] at hs;exact⟨default,s',hs,vh.refl _ s',rfl,rfl⟩
   rw[q2] at hs;cases hs
   obtain⟨d,t',a,e1,e2,e3,hm⟩:=hn.at_ (i:=i) (by have:=(W1.1 q1).1;omega)
   rw[q1] at e2;cases e2
   exact⟨d,t,q1,(D8 (p.si i d t a e1 q1 e3) hm.sg).mo,rfl,rfl⟩
  refine⟨h.dz,λs' hs' e=>?_,λf hf h1=>⟨(h.rd f hf h1).1,λs' hs'=>?_⟩⟩
  .obtain⟨i,hi⟩:=Xe hs'
   obtain⟨d,s,q1,_,q2,q3⟩:=key i s' hi
   rw[q3];exact h.sz s (W2 q1) ZK
  obtain⟨d,s,q1,q2,_⟩:=key _ s' hs'
  exact((h.rd f hf h1).2 s q1).mo q2
 exact h
open Go.Proofs
attribute [local simp] bA bb be
theorem PR.same {n n':ab} (h:PR n) (h1:n'.an=n.an) (h2:n'.aj=n.aj) (h4:∀f∈n'.aN,f∈n.aN):PR n':=
 ⟨by rw[h1];exact h.dz,by rw[h2];exact h.sz,λf hf=>by rw[h2];exact h.rd f (h4 f hf)⟩
theorem PK {B:Int} {n:ab} (hn:NP B n) (hB:B+10000<4611686018427387904) (p:PI n) (h:PR n) {e:cR} (hs:e.aV=13->RF n e.bG):PR (jd n e).2:=by
 rw[jd]
 split
 .rw[BG]
  cases hb:leB 100000 n.oZ
  .simp only[cond_false]
   have hb:=zK hb
   have hl:=hn.ld
   have hnw:=hn.nw
   have h1:NP B {n with oZ:=n.oZ+1}:={hn with nw:=by simp only;omega}
   have t:=Ky n.an.length 0 h1 ZK (p.same rfl rfl rfl (λf hf=>hf)) (h.same rfl rfl (λf hf=>hf))
   have hls:=t.2.2.ls
   have hl2:=t.2.2.ld
   exact KB _ 0 t.2.2 ZK t.2.1 t.1
  exact h
 split
 .rw[rJ]
  cases inR e.cm 0 ((n.aN.length:Int)-1)
  .exact h
  simp only[au]
  cases eqB e.aV 2
  .simp only[cond_false]
   cases eqB e.aV 3
   .simp only[cond_false]
    cases leB 200 (n.aN.length:Int)
    .simp only[cond_false]
     cases hf:n.aN[e.cm.toNat]? with
     |none=>exact h
     |some f=>exact h.send (h.rd f (W2 hf))
    exact h
   exact(PZ h _).same rfl rfl (λf hf=>hf)
  exact K2 hn p h _
 split
 .exact Wf hn p h e
 split
 .rw[BF];cases !ef n.d8 e.cm||booB (yC n e.cm) (eqB e.aV 10)
  .exact h.same rfl rfl (λf hf=>hf)
  exact h
 split
 .exact O7 hn p h _ _
 split
 .rename_i h13
  rw[vY];cases we n e.bG
  .exact h
  exact h.send (hs h13)
 exact h
theorem V8 {m:aM} {rs:List aG} {p:bk} {b:Int}:PR (f7 m rs p b rs.length):=by
 refine⟨λd hd _=>?_,λs hs _=>?_,λf hf=>by simp[f7] at hf⟩
 .simp only[f7,X1] at hd;obtain⟨j,_,rfl⟩:=hd;rfl
 simp only[f7,X1] at hs;obtain⟨j,_,rfl⟩:=hs;rfl
open Go.Proofs
attribute [local simp] bA bb be
theorem AJ.pr:∀{k:Nat} {n:ab},AJ k n->k<=1000000->PR n
 |_,_,.new _ _ _ _ _,_=>V8
 |_,_,.step (k:=k) (n:=n) (e:=e) h he hh hf,hk=>by
  have hn:=h.re.np ZK
  have hp:=h.re.pi ZK
  have ih:=h.pr ZK
  refine PK hn ZK hp ih λh13 hr=>?_
  obtain⟨u,d,e1,e2,e3⟩:=hf h13 hr
  refine⟨u,λs hs=>.inr ?_⟩
  obtain⟨d',s',a,q1,q2,q3,hm⟩:=hn.at_ (W1.1 e1).1
  rw[e1] at q1;cases q1;rw[hs] at q2;cases q2
  have si:=hp.si _ d s a e1 hs q3
  have hr:d.aO=HO s.bC d.ag:=by
   rw[HO]
   split
   .rename_i h0;exact ih.dz d (W2 e1) h0
   exact si.dk (by have:=hm.dp.gn.1;omega)
  rw[e2,<-hr];exact e3
section
variable {B:Int} {n:ab} (hn:NP B n) (p:PI n) (h:PR n) {i:Nat} {s:ah} (hs:n.aj[i]?=some s)
include hn p h hs
end
open Go.Proofs
attribute [local simp] bA bb be
theorem iM {α ρ:Type} {L:Int->Option (cf Int ρ)} (xs:List α) (f:ρ) {c:Option ρ} (hl:xs.length<=9223372036854775806)
 (hs:∀(k:Nat) (x:α),xs[k]?=some x->k<xs.length->L (k:Int)=some (.next ((k+1:Nat):Int))) (he:L (xs.length:Int)=dn c):iter L FU 0=c:=by
 have:=ka (L:=L) xs (λ_ _=>true) f c hl (λk x hx hk=>by rw[hs k x hx hk];rfl) he
 rw[this,AK];rfl
theorem wE {xs:List Int} (hl:xs.length<=1048576):lQ xs xs=some true:=by
 simp only[lQ,bb,au]
 exact iM xs false ZK (λk x hx hk=>by
  simp only[s3,cg hk,be,hx,bb,bN (show k<9223372036854775807 by omega),au]) (by simp only[s3,bA,cond_false])
theorem Ai {xs:List bm} (hl:xs.length<=1048576) (hd:∀p∈xs,p.aS.length<=1048576):jD xs xs=some true:=by
 simp only[jD,bb,au]
 exact iM xs false ZK (λk x hx hk=>by
  simp only[nT,cg hk,be,hx,wE (hd x (W2 hx)),bN (show k<9223372036854775807 by omega),au]) (by simp only[nT,bA,cond_false])
open Go.Proofs
attribute [local simp] bA bb be
theorem Ah {xs:List Int} (h:okL (λ_=>True) xs):lQ xs xs=some true:=wE h.1
theorem yk {xs:List Int} (h:okL (λ_=>True) xs):tz xs xs=some true:=by
 have hl:=h.1
 simp only[tz,bb,au]
 exact iM xs false ZK (λk x hx hk=>by
  simp only[ut,cg hk,be,hx,bb,bN (show k<9223372036854775807 by omega),au]) (by simp only[ut,bA,cond_false])
theorem Kb {xs:List bm} (h:okL nX xs):jD xs xs=some true:=Ai h.1 λp hp=>(h.2 p hp).1
theorem tM {xs:List ae} (h:okL fx xs):mJ xs xs=some true:=by
 have hl:=h.1
 simp only[mJ,bb,au]
 exact iM xs false ZK (λk x hx hk=>by
  simp only[pf,cg hk,be,hx,bb,Ah (h.2 x (W2 hx)),bN (show k<9223372036854775807 by omega),au]) (by simp only[pf,bA,cond_false])
theorem ve {x:aX} (h:iy x):lX x x=some true:=by
 simp only[lX,bb,tM h,au]
theorem Fv {x:bk} (h:d4 x):xn x x=some true:=by
 simp only[xn,bb,yk h,au]
theorem og {x:ah} (h:ec x):kC x x=some true:=by
 simp only[kC,bb,ZA,Fv h.1,Kb h.2.1,ve h.2.2,au]
theorem HZ {x:aM} (h:fw x):zL x x=some true:=by
 have hl:=h.1
 simp only[zL,bb,au]
 exact iM x.aR false ZK (λk c hx hk=>by
  simp only[vW,cg hk,be,hx,bb,yk (h.2 c (W2 hx)),bN (show k<9223372036854775807 by omega),au]) (by simp only[vW,bA,cond_false])
theorem Aj {x:aK} (h:eG x):ou x x=some true:=by
 simp only[ou,bb,tM h.1,Kb h.2,au]
theorem Cm {x:aD} (h:ge x):rH x x=some true:=by
 simp only[rH,bb,FJ,ZA,Aj h,au]
theorem Bk {x:am} (h:fE x):pO x x=some true:=by
 have hl:=h.1
 simp only[pO,bb,au]
 exact iM x.aq false ZK (λk r hx hk=>by
  simp only[o8,cg hk,be,hx,bb,ZA,bN (show k<9223372036854775807 by omega),au]) (by simp only[o8,bA,cond_false])
theorem Cn {x:bD} (h:jF x):rI x x=some true:=by
 simp only[rI,yD,uu,bb,FJ,ZA,Ah h,au]
theorem Bl {n:ab} (h:gp n):pP n n=some true:=by
 obtain⟨h0,⟨l1,h1⟩,⟨l2,h2⟩,⟨l3,h3⟩,⟨l4,h4⟩⟩:=h
 simp only[pP,HZ h0,bb,ZA,au]
 refine iM n.an false ZK (λk x hx hk=>by
  simp only[o9,cg hk,be,hx,Cm (h1 x (W2 hx)),bN (show k<9223372036854775807 by omega),au]) ?_
 simp only[o9,bA,cond_false]
 congr 1
 refine iM n.aj false ZK (λk x hx hk=>by
  simp only[pa,cg hk,be,hx,og (h2 x (W2 hx)),bN (show k<9223372036854775807 by omega),au]) ?_
 simp only[pa,bA,cond_false]
 congr 1
 refine iM n.bi false ZK (λk x hx hk=>by
  simp only[pb,cg hk,be,hx,Bk (h3 x (W2 hx)),bN (show k<9223372036854775807 by omega),au]) ?_
 simp only[pb,bA,cond_false]
 congr 1
 exact iM n.aN false ZK (λk x hx hk=>by
  simp only[pc,cg hk,be,hx,Cn (h4 x (W2 hx)),bN (show k<9223372036854775807 by omega),au]) (by simp only[pc,bA,cond_false])
theorem VN {xs:List Int} (hl:xs.length<=1048576) (hu:∀x∈xs,ux x) {i:Int} (h0:0<=i) (h1:i<=1000):∃r,lat xs i=some r/\0<=r/\r<=255:=by
 rw[lat]
 cases hb:ltB i (xs.length:Int)
 .simp only[cond_false]
  rw[bL (n:=i*31) ZK,bL (n:=(xs.length:Int)*7) ZK,bL ZK,YV ZK]
  exact⟨_,rfl,by omega,by omega⟩
 have hb:=mK hb
 obtain⟨k,rfl⟩:∃k:Nat,i=k:=⟨i.toNat,by omega⟩
 obtain⟨x,hx⟩:∃x,xs[k]?=some x:=⟨_,W0 ZK⟩
 have:=hu x (W2 hx)
 unfold ux at this
 simp only[be,hx,bL (n:=x) ZK,au]
 exact⟨_,rfl,this.1,this.2⟩
open Go.Proofs
attribute [local simp] bA bb be
theorem Jh:∀(xs:List bm) (v:Int),0<=v->v+60*xs.length<=1000000->(∀p∈xs,p.aS.length<=60)->jK (λ(v:Int) (x:bm)=>some (cf.next (WR (v+(x.aS.length:Int))))) some xs v=some (v+(xs.map λp=>(p.aS.length:Int)).sum)
 |[],v,_,_,_=>by simp[jK]
 |x::xs,v,h1,h2,h3=>by
  have hx:=h3 x (by simp)
  simp only[W8] at h2
  rw[jK]
  simp only[bL (n:=v+(x.aS.length:Int)) ZK]
  rw[Jh xs _ ZK ZK (λp hp=>h3 p (by simp[hp]))]
  simp only[Xs,ZJ];congr 1;omega
theorem Tr {s:ah} (h:SP s) (k:Int):ov s k=some (jI s.aA k.toNat):=by
 have hl:=h.sl
 obtain⟨m,hm,hm2,hm3⟩:∃m:Nat,m=min k.toNat s.aA.length/\m<=s.aA.length/\s.aA.take m=s.aA.take k.toNat:=
  ⟨_,rfl,Nat.min_le_right _ _,by rw[List.take_eq_take_min (i:=k.toNat)]⟩
 have hlt:(s.aA.take m).length=m:=by simp;omega
 have hspec:=fr (step:=gJ s k) (s.aA.take m) (λj (v:Int)=>(v,(j:Int))) (λv x=>some (.next (WR (v+(x.aS.length:Int))))) some ZK
  (λj x v hx hj=>by
   rw[hlt] at hj
   have hx':s.aA[j]?=some x:=by rw[Xm,if_pos hj] at hx;exact hx
   have h1:ltB (j:Int) k=true:=ltB_t.2 ZK
   have h2:ltB (j:Int) (s.aA.length:Int)=true:=cg ZK
   simp[gJ,h1,h2,hx',bN (show j<9223372036854775807 by omega)]) (λv=>by
   rw[hlt]
   have:ltB (m:Int) (s.aA.length:Int)=false\/ltB (m:Int) k=false:=by
    simp only[ltB_f];omega
   rcases this with h1|h1
   .simp[gJ,h1]
   simp only[gJ,h1];cases ltB (m:Int) (s.aA.length:Int)<;>rfl) 0
 simp only[ov]
 rw[show iter (gJ s k) FU (0,0)=_ from hspec,Jh _ _ ZK (by simp;omega) (λp hp=>h.sd p (Xu hp))]
 simp only[YO,jI,hm3];congr 1;omega
section
variable {B:Int} {n:ab} (h:NP B n) {i:Nat} {d:aD} {s:ah} {a:am} (hd:n.an[i]?=some d) (hs:n.aj[i]?=some s) (ha:n.bi[i]?=some a)
include h hd
theorem hasS:AD n (i:Int)=some true/\oU n (i:Int)=some true:=by
 have h1:=h.ls
 have h2:=h.la
 have h3:=h.ld
 have hi:=(W1.1 hd).1
 simp only[AD,oU,h1,h2,Q1,eQ,YO,bL (n:=(n.an.length:Int)-1) ZK,bE.2 (show(0:Int)<=(i:Int)/\(i:Int)<=(n.an.length:Int)-1 by omega)]
 exact⟨trivial,trivial⟩
include hs ha
theorem Oa:ow n (i:Int)=some (a.er+s.bM.ed):=by
 obtain⟨e1,e2⟩:=hasS h hd
 have hm:=h.m i d s a hd hs ha
 have q1:=hm.sg.mo.acc.s
 have q2:=hm.sg.mo.acc.t
 have q3:=hm.sg.sp.q
 have q4:=q3.u
 have q5:=q3.g
 have q6:=q3.m
 simp only[ow,e2,be,ha,hs,bL (n:=a.er+s.bM.ed) ZK,au]
theorem Ti:fX s=some (i6 s.aw):=by
 have hm:=h.m i d s a hd hs ha
 have hn:=hm.sg.sp.win.n
 have hl:=hm.sg.sp.win.l
 rw[fX,bL (n:=s.aw.bz-1) ZK,bL ZK];rfl
end
theorem Uz {xs:List bm} (hl:xs.length<=1000) (hx:∀p∈xs,okB p.aS):Aq xs xs=some true:=by
 simp only[Aq,bb,au]
 exact iM xs false ZK (λk x hx' hk=>by
  have e:BN x.aS x.aS=true:=by rw[R5 (hx x (W2 hx')) (hx x (W2 hx'))];simp
  simp only[wK,cg hk,be,hx',U0,e,bN (show k<9223372036854775807 by omega),au]) (by simp only[wK,bA,cond_false])
theorem Rv {xs ys:List bm} (hp:xs<+:ys) (hx:∀p∈xs,okB p.aS) (hl:xs.length<=1000):rT xs ys=some true:=by
 have hle:=hp.length_le
 have ht:=(List.prefix_iff_eq_take.1 hp).symm
 rw[rT,leB_t.2 (show(xs.length:Int)<=(ys.length:Int) by omega)]
 simp only[show gK ys 0 (xs.length:Int)=true from by simp[gK];omega,YQ,ht,Uz hl hx,au]
theorem Tl {B:Int} {n:ab} (h:NP B n) (p:PI n):HS n=some true:=by
 have hl:=h.ld
 simp only[HS]
 exact iM n.an false ZK (λk d hd hk=>by
  obtain⟨d',s,a,e1,e2,e3,hm⟩:=h.at_ hk
  rw[hd] at e1;cases e1
  have si:=p.si k d s a hd e2 e3
  have hr:=D3.1 hm.dp.rc.v
  have hak:=si.ak
  have hn:=hr.n
  obtain⟨f1,f2⟩:=hasS h hd
  have h2:eqB (a.er+s.bM.ed) (jI s.aA (i6 s.aw).toNat)=true:=eqB_t.2 si.ch
  have h3:leB (i6 s.aw) (d.bI.aQ.length:Int)=true:=leB_t.2 ZK
  simp only[Bb,cg hk,mR,kY,gR,f1,f2,be,hd,e2,Rv si.pr hm.dp.rc.b2 (by have:=hr.l;omega),Oa h hd e2 e3,Ti h hd e2 e3,Tr hm.sg.sp,h2,h3,bN (show k<9223372036854775807 by omega),au])
  (by simp only[Bb,bA,F9 h.okN,h.vn,au]<;>rfl)
open Go.Proofs
attribute [local simp] bA bb be
theorem Di (p q:a8):∀(c i:Nat) (l:List ah) (j:Nat),i+c=l.length->(py p q c i l)[j]?=if i<=j then(bif eqB (sel p j) (sel q j) then l[j]? else(l[j]?).map g9) else l[j]?
 |0,i,l,j,h=>by
  rw[py];split
  .rw[List.getElem?_eq_none ZK];cases eqB (sel p j) (sel q j)<;>rfl
  rfl
 |c+1,i,l,j,h=>by
  obtain⟨s,hs⟩:∃s,l[i]?=some s:=⟨_,W0 ZK⟩
  rw[py]
  cases hb:eqB (sel p i) (sel q i)
  .simp only[cond_false,hs]
   rw[Di p q c (i+1) _ j (by rw[List.length_set];omega)]
   by_cases e:i=j
   .subst e
    rw[if_neg ZK,if_pos (Nat.le_refl _),hb,hs,List.getElem?_set_self ZK];rfl
   rw[List.getElem?_set_ne e]
   by_cases w:i<=j
   .rw[if_pos ZK,if_pos w]
   rw[if_neg ZK,if_neg w]
  simp only[cond_true]
  rw[Di p q c (i+1) l j ZK]
  by_cases e:i=j
  .subst e
   rw[if_neg ZK,if_pos (Nat.le_refl _),hb];rfl
  by_cases w:i<=j
  .rw[if_pos ZK,if_pos w]
  rw[if_neg ZK,if_neg w]
theorem srv11 (n:ab) (k:Int):iE n ⟨11,k,0,[],gY⟩=mA n ⟨11,k,0,[],gY⟩:=by
 have e:∀r,mB n r=ij n r:=λr=>rfl
 simp only[iE,mA,e,show eqB (11:Int) 12=false from by simp[eqB]]
theorem ev11 {B:Int} {n:ab} (h:NP B n) (k:Int):ky n ⟨11,k,0,[],gY⟩=some (bif(fO n k false).1 then((fO n k false).2,true) else(n,false)):=by
 have:=(wG h k false).2.1 ⟨11,k,0,[],gY⟩ rfl (by simp[eqB])
 simp only[ky,nN,srv11,V5 h.okN,F8 h.okN,h.vn,this,au]
 cases(fO n k false).1<;>rfl
theorem WN:∀m∈hV 4,∀k∈hV 2,(eqB (vi .i64 (yq .i64 (m:Int) (k:Int)) 1) 1&&(eqB (vi .i64 (yq .i64 (m:Int) (1-(k:Int))) 1) 1&&eqB (pD .i64 (m:Int) (jY .i64 1 (k:Int))) 0))=false:=by decide+kernel
theorem Ud {p:a8} (h:f4 p=true) (hs:p.dP=2) {k:Int} (hk:0<=k/\k<=1) (h1:fK p k=true) (h2:fK p (1-k)=true):(eR p k false).dm≠0:=by
 intro h3
 have q:=h
 simp only[f4,v0,bE] at q
 have q2:=q.2
 rw[show p.dP=((2:Nat):Int) by omega,H5 2 (by simp)] at q2
 have:=WN p.dm.toNat (X4.2 ZK) k.toNat (X4.2 ZK)
 rw[show(p.dm.toNat:Int)=p.dm by omega,show(k.toNat:Int)=k by omega] at this
 rw[eR,h,bE.2 (show 0<=k/\k<=p.dP-1 by omega)] at h3
 simp only[YZ,au] at h3
 simp only[fK,v0] at h1 h2
 rw[h1.2.2,h2.2.2,h3] at this
 simp[eqB] at this
theorem vV (xs:List Int) (hp:preL ux xs):mI xs=some true:=by
 simp only[mI,VO,YO]
 cases hb:ltB 1048576 (xs.length:Int) with
 |true=>rfl
 |false=>
  have hl:=s4 hb
  have hu:=hp.2
  obtain⟨n,hd,hg⟩:=(Ip (xs:=xs) ZK hu).ex
  obtain⟨B,hn,hB⟩:=hg.np
  have hld:=hn.ld
  have h2:n.cq.dP=2:=(by obtain⟨kk,hr,hkk⟩:=hg.re;exact hr.two ZK)
  obtain⟨b,hb0,hb1,hb2⟩:=VN (xs:=xs) ZK hu (i:=0) ZK ZK
  obtain⟨k,hk⟩:∃k,YN b 2=k:=⟨_,rfl⟩
  have hk2:0<=k/\k<=1:=by rw[YV hb1] at hk;omega
  have hin:inR k 0 (n.cq.dP-1)=true:=bE.2 ZK
  have z11:({dN with aV:=11,cm:=k}:cR)=⟨11,k,0,[],gY⟩:=rfl
  simp only[hd,hb0,hk,z11,ev11 hn,au]
  cases hs:(fO n k false).1
  .simp only[Bl hn.okN,Ii,bL (n:=1-k) ZK,au]
   cases q1:fK n.cq k
   .rfl
   cases q2:fK n.cq (1-k)
   .rfl
   exfalso
   have:=Ud hn.core h2 hk2 q1 q2
   simp only[fO,hin,q1,Yb,Xz,booB,eqB_f.2 this] at hs
   simp at hs
  obtain⟨x,hx⟩:∃x,x=(fO n k false).2:=⟨_,rfl⟩
  have hq0:(eR n.cq k false).dm≠0:=by
   intro e
   simp only[fO,e,bb,ZF,cond_true] at hs
   cases hs
  have hxe:x={n with aj:=py n.cq (eR n.cq k false) n.aj.length 0 n.aj,cq:=eR n.cq k false}:=by
   rw[hx]
   revert hs
   simp only[fO]
   cases !inR k 0 (n.cq.dP-1)||(booB (fK n.cq k) false||eqB (eR n.cq k false).dm 0)<;>simp
  have hxn:NP B x:=by rw[hx];exact(wG hn k false).2.2
  have hxp:PI x:=by
   obtain⟨kk,hr,hkk⟩:=hg.re
   have:=IF hn ZK hg.pi (zv (k:=11) (i:=k) (c:=0) (b:=[]) (by intro y hy;simp at hy)) (rx n (by simp))
   rw[jd] at this
   simp[show eqB (11:Int) 12=false from by simp[eqB]] at this
   rw[hx];exact this
  have hsl:x.aj.length=n.aj.length:=by rw[hxn.ls,hn.ls,hxe]
  have hxc:x.cq=eR n.cq k false:=by rw[hxe]
  have hsv:=Am hn.core k false
  have hdn:=Er hn.core h2 hin
  rw[<-hx]
  simp only[hsl,bb,Ih,hxc,hdn,au]
  refine iM n.aj false (by have:=hn.ls;omega) (λi s hsi hi=>?_) ?_
  .have hn4:=hn.ls
   have hf:=R8 hn.core h2 hn.up hin hq0 i
   have hat:=Di n.cq (eR n.cq k false) n.aj.length 0 n.aj i ZK
   rw[if_pos (Nat.zero_le _),hf.2,hsi] at hat
   have hxs:x.aj[i]?=(py n.cq (eR n.cq k false) n.aj.length 0 n.aj)[i]?:=by rw[hxe]
   rw[<-hxs] at hat
   have hos:=hn.okN.2.2.1.2 s (W2 hsi)
   have hsel:eqB (sel (eR n.cq k false) i) k=false:=eqB_f.2 hf.1
   simp only[ki,cg hi,be,hsi,yP,uk,hk,hxc,Sa hn.core,R9 hsv.1,au]
   cases hc:eqB (sel n.cq i) k
   .rw[hc] at hat
    simp only[au] at hat
    simp only[hat,og hos,hsel,bN (show i<9223372036854775807 by omega),au]
   rw[hc] at hat
   simp only[Y4,au] at hat
   have hof:ec (g9 s):=hxn.okN.2.2.1.2 _ (W2 hat)
   have hw:lX (g9 s).aw s.aw=some true:=ve hos.2.2
   simp only[Qu hos,show(g9 s).bF=0 from rfl,show(g9 s).d9=0 from rfl,show(g9 s).aO=s.aO from rfl,show(g9 s).bM=s.bM from rfl,bb,hw,ZA,hat,og hof,hsel,bN (show i<9223372036854775807 by omega),au]
  simp only[ki,bA,F8 hxn.okN,hxn.vn,Tl hxn hxp,au]
end Go.AM
