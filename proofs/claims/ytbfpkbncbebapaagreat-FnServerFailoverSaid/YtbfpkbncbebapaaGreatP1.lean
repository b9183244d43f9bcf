/- A part. -/
import Derived.Test.YtbfpkbncbebapaaGreatL
set_option linter.unusedVariables false
set_option linter.unusedSimpArgs false
open Option renaming bind_some->YO,bind->YL,bind_assoc->Zi,map_some->Y4
open List renaming getElem?_eq_getElem->W0,getElem?_eq_some_iff->W1,mem_of_getElem?->W2,mem_append->W3,length_cons->W8,getElem?_of_mem->Xe,nil_append->X2,mem_cons->W5,pairwise_cons->YT,pairwise_append->YU,length_append->Xp,mem_map->X1,all_eq_true->W6,getElem?_append_left->W9,length_nil->YS,takeWhile_cons->Y1,getElem?_mapIdx->Y6,takeWhile_append_dropWhile->Zc,mem_singleton->X7,replicate->Xa,getElem_mem->Y2,range->hV,mem_range->X4,ext_getElem?->Y3,getElem?_set->YB,cons_append->Xw,dropWhile_subset->Zd,length_singleton->Ze,mem_filter->Yc,mem_zipIdx_iff_getElem?->Zf,find?_eq_none->Zg,getElem?_append_right->Xd,take_add_one->YY,any_eq_false->Yd,drop_eq_getElem_cons->XR,rel_of_pairwise_cons->Zs,mem_or_eq_of_mem_set->Y7,drop_length->Zj,length_take->Yg,filter_cons->Zk,length_map->Xb,foldl_cons->Y8,take_of_length_le->Y9,takeWhile_subset->Zt,length_filter_le->Zn,getElem?_eq_none->Za,getElem?_zipIdx->Zo,mem_of_mem_take->Xu,dropWhile_cons->Zu,length_pos_iff->Zv,length_zipIdx->Zp,length->Zb,take_left->Zq,drop_left->Zy
open Bool renaming and_eq_true->v0,eq_iff_iff->YR,or_eq_false_iff->Xi,not_eq_false'->YX,not_eq_true'->Xo,or_self->YZ,true_and->Y0,and_true->Y5,true_or->Zr
open Int renaming toNat_natCast->YQ,tmod_eq_emod_of_nonneg->YV,tmod->YN,emod_lt_of_pos->Zh,emod_nonneg->Zl,add_emod_right->Zw,emod_eq_of_lt->Zx,le_refl->YP
open Nat renaming add_sub_cancel->YW,mul_le_mul->Zm,zero_le->Xk,min_eq_left->Xy,le_trans->X6,le_refl->W7
namespace Go.AM
theorem i9:9223372036854775808<=FU:=by unfold FU;omega
def jK {α σ ρ:Type} (body:σ->α->Option (cf σ ρ)) (fin:σ->Option ρ):List α->σ->Option ρ
 |[],s=>fin s
 |x::xs,s=>match body s x with
  |some (.next s')=>jK body fin xs s'
  |some (.done r)=>some r
  |none=>none
def AE {σ τ ρ:Type} (f:σ->τ):Option (cf σ ρ)->Option (cf τ ρ)
 |some (.next s)=>some (.next (f s))
 |some (.done r)=>some (.done r)
 |none=>none
@[simp] theorem stepM_next {σ τ ρ:Type} (f:σ->τ) (s:σ):AE (ρ:=ρ) f (some (.next s))=some (.next (f s)):=rfl
@[simp] theorem stepM_done {σ τ ρ:Type} (f:σ->τ) (r:ρ):AE f (some (.done r))=some (.done r):=rfl
@[simp] theorem stepM_none {σ τ ρ:Type} (f:σ->τ):AE (ρ:=ρ) f none=none:=rfl
@[simp] theorem stepM_cond {σ τ ρ:Type} (f:σ->τ) (b:Bool) (x y:Option (cf σ ρ)):AE f (bif b then x else y)=bif b then AE f x else AE f y:=by cases b<;>rfl
@[simp] theorem stepM_bind {α σ τ ρ:Type} (f:σ->τ) (o:Option α) (k:α->Option (cf σ ρ)):AE f (YL o k)=YL o (λa=>AE f (k a)):=by cases o<;>rfl
@[simp] theorem dn_some {σ ρ:Type} (r:ρ):dn (σ:=σ) (some r)=some (.done r):=rfl
@[simp] theorem dn_none {σ ρ:Type}:dn (σ:=σ) (ρ:=ρ) none=none:=rfl
theorem fr {α σ τ ρ:Type} {step:τ->Option (cf τ ρ)} (xs:List α) (mk:Nat->σ->τ) (body:σ->α->Option (cf σ ρ)) (fin:σ->Option ρ) (hl:xs.length<=9223372036854775806)
 (hs:∀(k:Nat) (x:α) (s:σ),xs[k]?=some x->k<xs.length->step (mk k s)=AE (mk (k+1)) (body s x))
 (he:∀s,step (mk xs.length s)=dn (fin s)) (s0:σ):iter step FU (mk 0 s0)=jK body fin xs s0:=by
 have key:∀(m n:Nat) (s:σ) (k:Nat),m=xs.length-k->k<=xs.length->m<n->iter step n (mk k s)=jK body fin (xs.drop k) s:=by
  intro m
  induction m with
  |zero=>
   intro n s k hm hk hn
   cases n with
   |zero=>omega
   |succ n=>
    have:k=xs.length:=by omega
    subst this
    rw[Zj,jK,iter,he]
    cases fin s<;>rfl
  |succ m ih=>
   intro n s k hm hk hn
   cases n with
   |zero=>omega
   |succ n=>
    have hlt:k<xs.length:=by omega
    rw[XR hlt,jK,iter,hs k xs[k] s (W0 hlt) hlt]
    cases hb:body s xs[k] with
    |none=>rfl
    |some o=>
     cases o with
     |done r=>rfl
     |next s'=>exact ih n s' (k+1) ZK ZK ZK
 have:=key (xs.length-0) FU s0 0 rfl (Xk _) (by have:=i9;omega)
 simpa using this
theorem be {α:Type} (xs:List α) (k:Nat):ix xs (k:Int)=xs[k]?:=by simp[ix,leB]
theorem bL {n:Int} (h: -9223372036854775808<=n/\n<=9223372036854775807):WR n=n:=It h
theorem bN {k:Nat} (h:k<9223372036854775807):WR ((k:Int)+1)=((k+1:Nat):Int):=by rw[bL ZK];omega
theorem cg {a b:Nat} (h:a<b):ltB (a:Int) (b:Int)=true:=by simp[ltB,h]
theorem bA (a:Int):ltB a a=false:=by simp[ltB]
theorem bb (a:Int):eqB a a=true:=by simp[eqB]
theorem Ou {α β:Type} {step:Int×List β->Option (cf (Int×List β) (List β))} (f:α->β) (z:β) (xs:List α) (hl:xs.length<=9223372036854775806)
 (hs:∀(k:Nat) (x:α) (v:List β),xs[k]?=some x->v.length=xs.length->step ((k:Int),v)=some (.next (((k+1:Nat):Int),v.set k (f x))))
 (he:∀v,step ((xs.length:Nat),v)=some (.done v)):iter step FU (0,Xa xs.length z)=some (xs.map f):=by
 have key:∀(m n:Nat) (k:Nat),m=xs.length-k->k<=xs.length->m<n->iter step n ((k:Int),(xs.take k).map f++Xa (xs.length-k) z)=some (xs.map f):=by
  intro m
  induction m with
  |zero=>
   intro n k hm hk hn
   cases n with
   |zero=>omega
   |succ n=>
    have:k=xs.length:=by omega
    subst this
    rw[iter,he]
    simp
  |succ m ih=>
   intro n k hm hk hn
   cases n with
   |zero=>omega
   |succ n=>
    have hlt:k<xs.length:=by omega
    rw[iter,hs k xs[k] _ (W0 hlt) (by simp;omega)]
    have e:((xs.take k).map f++Xa (xs.length-k) z).set k (f xs[k])=(xs.take (k+1)).map f++Xa (xs.length-(k+1)) z:=by
     apply Y3
     intro j
     rw[YB]
     by_cases hj:k=j
     .subst hj
      rw[if_pos rfl,if_pos (by simp;omega),W9 (by simp;omega)]
      simp[hlt]
     rw[if_neg hj]
     by_cases h2:j<k
     .rw[W9 (by simp;omega),W9 (by simp;omega)]
      simp[h2,show j<k+1 by omega]
     rw[Xd (by simp;omega),Xd (by simp;omega)]
     simp only[List.getElem?_replicate,Xb,Yg,Xy (Nat.le_of_lt hlt),Xy (show k+1<=xs.length from hlt)]
     by_cases h3:j<xs.length
     .rw[if_pos ZK,if_pos ZK]
     rw[if_neg ZK,if_neg ZK]
    show iter step n (((k+1:Nat):Int),_)=_
    rw[e]
    exact ih n (k+1) ZK ZK ZK
 have:=key (xs.length-0) FU 0 rfl (Xk _) (by have:=i9;omega)
 simpa using this
attribute [local simp] bA bb be
def okL {α:Type} (ok:α->Prop) (xs:List α):Prop:=xs.length<=1048576/\∀x∈xs,ok x
def preL {α:Type} (pre:α->Prop) (xs:List α):Prop:=xs.length<=9223372036854775807/\∀x∈xs,pre x
theorem Dk {α ρ:Type} {body:Unit->α->Option (cf Unit ρ)} {fin:Unit->Option ρ}:∀(xs:List α),(∀x∈xs,body () x=some (.next ()))->jK body fin xs ()=fin ()
 |[],_=>rfl
 |x::xs,h=>by rw[jK,h x (by simp)];exact Dk xs (λy hy=>h y (by simp[hy]))
theorem lt0_t {r:Int} (h:r<0):ltB r 0=true:=by simp[ltB,h]
theorem lt0_f {r:Int} (h:0<=r):ltB r 0=false:=by simp[ltB];omega
def vH {α β:Type} (by_:Nat) (p:α->Bool) (f:α->β) (acc:List β) (x:α):Option (cf (List β) (List β)):=
 bif p x then(bif dh by_ (acc++[f x]).length then some (.next (acc++[f x])) else none) else some (.next acc)
theorem xg {α β:Type} {by_:Nat} (hb:by_<=100000) (p:α->Bool) (f:α->β):∀(xs:List α) (acc:List β),acc.length+xs.length<=1048576->jK (vH by_ p f) some xs acc=some (acc++(xs.filter p).map f)
 |[],acc,h=>by simp[jK]
 |x::xs,acc,h=>by
  simp only[W8] at h
  rw[jK]
  cases hp:p x with
  |false=>
   rw[List.filter_cons_of_neg (by simp[hp])]
   simpa [vH,hp] using xg hb p f xs acc ZK
  |true=>
   have ha:dh by_ (acc++[f x]).length=true:=by
    have h1:(acc++[f x]).length*by_<=1048577*100000:=Zm (by simp;omega) hb
    simp only[dh,decide_eq_true_eq]
    refine⟨by omega,by simp;omega⟩
   rw[List.filter_cons_of_pos (by simp[hp])]
   simp only[vH,hp,ha,cond_true]
   rw[xg hb p f xs (acc++[f x]) (by simp;omega)]
   simp
theorem cN {by_ n:Nat} (hb:by_<=100000) (hn:n<=1048577):dh by_ n=true:=by
 have h1:n*by_<=1048577*100000:=Zm hn hb
 simp only[dh,decide_eq_true_eq]
 omega
def ux (n:Int):Prop:=0<=n/\n<=255
theorem wf_u8 {n:Int} (h:(Lit.int .u8 n).wf=true):ux n:=by
 simp[Lit.wf,IntKind.min,IntKind.max,IntKind.signed,IntKind.bits] at h
 exact⟨by omega,by omega⟩
theorem tm {α:Type} {L:Int->Option (cf Int Int)} (xs:List α) (p:α->Bool) (hl:xs.length<=9223372036854775806)
 (hs:∀(k:Nat) (x:α),xs[k]?=some x->k<xs.length->L (k:Int)=bif p x then some (.done (k:Int)) else some (.next ((k+1:Nat):Int))) (he:L (xs.length:Int)=some (.done (-1))):
 iter L FU 0=some (nK p 0 xs):=by
 have key:∀(m n:Nat) (k:Nat),m=xs.length-k->k<=xs.length->m<n->iter L n (k:Int)=some (nK p k (xs.drop k)):=by
  intro m
  induction m with
  |zero=>
   intro n k hm hk hn
   cases n with
   |zero=>omega
   |succ n=>
    have:k=xs.length:=by omega
    subst this
    rw[iter,he,Zj,nK]
  |succ m ih=>
   intro n k hm hk hn
   cases n with
   |zero=>omega
   |succ n=>
    have hlt:k<xs.length:=by omega
    rw[iter,hs k xs[k] (W0 hlt) hlt,QM hlt]
    cases p xs[k] with
    |true=>rfl
    |false=>exact ih n (k+1) ZK ZK ZK
 have:=key (xs.length-0) FU 0 rfl (Xk _) (by have:=i9;omega)
 simpa using this
theorem A1 {α:Type} (p:α->Bool):∀(xs:List α) (i:Nat),nK p (i:Int) xs= -1/\(∀x∈xs,p x=false)\/∃j:Nat,nK p (i:Int) xs=((i+j:Nat):Int)/\∃x,xs[j]?=some x/\p x=true/\∀y∈xs.take j,p y=false
 |[],i=>.inl ⟨rfl,by simp⟩
 |x::xs,i=>by
  rw[nK]
  cases hp:p x with
  |true=>exact .inr ⟨0,by simp,x,rfl,hp,by simp⟩
  |false=>
   rcases A1 p xs (i+1) with⟨h1,h2⟩|⟨j,h1,y,h2,h3,h4⟩
   .exact .inl ⟨by simpa using h1,by simp[hp];exact h2⟩
   refine .inr ⟨j+1,?_,y,by simpa using h2,h3,by simp[hp];exact h4⟩
   have:nK p ((i:Int)+1) xs=((i+1+j:Nat):Int):=by simpa using h1
   simp only[cond_false]
   rw[this];omega
theorem PJ {α:Type} {L:Int->Option (cf Int Bool)} (xs:List α) (p:α->Bool) (hl:xs.length<=9223372036854775806)
 (hs:∀(k:Nat) (x:α),xs[k]?=some x->k<xs.length->L (k:Int)=bif p x then some (.done true) else some (.next ((k+1:Nat):Int))) (he:L (xs.length:Int)=some (.done false)):
 iter L FU 0=some (xs.any p):=by
 have:=fr (step:=L) xs (λk (_:Unit)=>(k:Int)) (λ_ x=>bif p x then some (.done true) else some (.next ())) (λ_=>some false) hl
  (λk x s hx hk=>by rw[hs k x hx hk];cases p x<;>rfl) (λs=>by rw[he];rfl) ()
 refine Eq.trans (show iter L FU 0=_ from this) ?_
 have key:∀xs:List α,jK (λ(_:Unit) x=>bif p x then some (cf.done true) else some (.next ())) (λ_=>some false) xs ()=some (xs.any p):=by
  intro xs
  induction xs with
  |nil=>rfl
  |cons x xs ih=>rw[jK];cases hp:p x<;>simp[hp,ih]
 exact key xs
theorem PH {α:Type} {L:Int->Option (cf Int Bool)} (xs:List α) (p:α->Bool) (hl:xs.length<=9223372036854775806)
 (hs:∀(k:Nat) (x:α),xs[k]?=some x->k<xs.length->L (k:Int)=bif p x then some (.next ((k+1:Nat):Int)) else some (.done false)) (he:L (xs.length:Int)=some (.done true)):
 iter L FU 0=some (xs.all p):=by
 have:=fr (step:=L) xs (λk (_:Unit)=>(k:Int)) (λ_ x=>bif p x then some (.next ()) else some (.done false)) (λ_=>some true) hl
  (λk x s hx hk=>by rw[hs k x hx hk];cases p x<;>rfl) (λs=>by rw[he];rfl) ()
 refine Eq.trans (show iter L FU 0=_ from this) ?_
 have key:∀xs:List α,jK (λ(_:Unit) x=>bif p x then some (.next ()) else some (cf.done false)) (λ_=>some true) xs ()=some (xs.all p):=by
  intro xs
  induction xs with
  |nil=>rfl
  |cons x xs ih=>rw[jK];cases hp:p x<;>simp[hp,ih]
 exact key xs
theorem allK {α:Type} {L:Int->Option (cf Int Bool)} (xs:List α) (p:Nat->α->Bool) (c:Option Bool) (hl:xs.length<=9223372036854775806)
 (hs:∀(k:Nat) (x:α),xs[k]?=some x->k<xs.length->L (k:Int)=bif p k x then some (.next ((k+1:Nat):Int)) else some (.done false)) (he:L (xs.length:Int)=dn c):
 iter L FU 0=bif xs.zipIdx.all (λy=>p y.2 y.1) then c else some false:=by
 have:=fr (step:=L) xs.zipIdx (λk (_:Unit)=>(k:Int)) (λ_ y=>bif p y.2 y.1 then some (.next ()) else some (.done false)) (λ_=>c) (by simpa using hl)
  (λk y s hy hk=>by
   have hk':k<xs.length:=by simpa using hk
   have:y=(xs[k],k):=by rw[W0 hk] at hy;simpa using hy.symm
   subst this
   rw[hs k xs[k] (W0 hk') hk'];cases p k xs[k]<;>rfl) (λs=>by rw[Zp,he]) ()
 refine Eq.trans (show iter L FU 0=_ from this) ?_
 have key:∀ys:List (α×Nat),jK (λ(_:Unit) y=>bif p y.2 y.1 then some (.next ()) else some (cf.done false)) (λ_=>c) ys ()=bif ys.all (λy=>p y.2 y.1) then c else some false:=by
  intro ys
  induction ys with
  |nil=>rfl
  |cons x xs ih=>rw[jK];cases hp:p x.2 x.1<;>simp[hp,ih]
 exact key _
def inR (n a b:Int):Bool:=leB a n&&leB n b
theorem bE {n a b:Int}:inR n a b=true↔a<=n/\n<=b:=by simp[inR,leB]
theorem y8 {n:Nat} (h:n<=1048576):WR ((n:Int)-1)=(n:Int)-1:=bL ZK
theorem ix_in {α:Type} {xs:List α} {i:Int} (h0:0<=i) (h1:i<xs.length):∃x,x∈xs/\ix xs i=some x:=by
 obtain⟨k,rfl⟩:=Int.eq_ofNat_of_zero_le h0
 have hk:k<xs.length:=by omega
 exact⟨xs[k],Y2 hk,by rw[be,W0 hk]⟩
theorem FJ (b:Bool):booB b b=true:=by simp
def rgI (k:IntKind) (n:Int):Prop:=(Lit.int k n).wf=true
theorem WT.rg {k:IntKind} {n:Int} (h:WT (.i k) (.i k n)):rgI k n:=by
 cases h with|i h=>exact h
theorem Mh {α:Type} {e:List Sh} {f:α->List D}:∀{xs:List α},WTL e (xs.map f)->∀x∈xs,WTs e (f x)
 |[],_,x,hx=>by cases hx
 |y::ys,h,x,hx=>by
  cases h with
  |cons h1 h2=>
   rcases W5.1 hx with rfl|hx
   .exact h1
   exact Mh h2 x hx
theorem WT.rl {α:Type} {e:List Sh} {f:α->List D} {xs:List α} (h:WT (.l e) (.l (xs.map f))):∀x∈xs,WTs e (f x):=by
 cases h with|l hl h=>exact Mh h
def Wp {α:Type} (m:Option α) (Q:α->Prop):Prop:=match m with
 |some a=>Q a
 |none=>False
theorem Wp.ex {α:Type} {m:Option α} {Q:α->Prop} (h:Wp m Q):∃a,m=some a/\Q a:=by
 cases m with
 |none=>exact h.elim
 |some a=>exact⟨a,rfl,h⟩
theorem Wp.of {α:Type} {m:Option α} {Q:α->Prop} {a:α} (h:m=some a) (q:Q a):Wp m Q:=by subst h;exact q
theorem Wp.some {α:Type} {a:α} {Q:α->Prop} (h:Q a):Wp (some a) Q:=h
theorem Wp.bind {α β:Type} {m:Option α} {k:α->Option β} {Q:β->Prop} (h:Wp m (λa=>Wp (k a) Q)):Wp (YL m k) Q:=by
 cases m with
 |none=>exact h.elim
 |some a=>exact h
theorem Wp.mono {α:Type} {m:Option α} {P Q:α->Prop} (h:Wp m P) (k:∀a,P a->Q a):Wp m Q:=by
 cases m with
 |none=>exact h.elim
 |some a=>exact k a h
theorem Wp.call {α β:Type} {m:Option α} {k:α->Option β} {P:α->Prop} {Q:β->Prop} (h:Wp m P) (hk:∀a,P a->Wp (k a) Q):Wp (YL m k) Q:=Wp.bind (h.mono hk)
theorem Wp.eq {α β:Type} {m:Option α} {k:α->Option β} {a:α} {Q:β->Prop} (h:m= .some a) (hk:Wp (k a) Q):Wp (YL m k) Q:=by subst h;exact hk
theorem Wp.cond {α:Type} {b:Bool} {x y:Option α} {Q:α->Prop} (h1:b=true->Wp x Q) (h0:b=false->Wp y Q):Wp (bif b then x else y) Q:=by
 cases b
 .exact h0 rfl
 exact h1 rfl
theorem Wp.ok {α:Type} {b:Bool} {x:Option α} {Q:α->Prop} (hb:b=true) (h:Wp x Q):Wp (bif b then x else none) Q:=by subst hb;exact h
theorem Wp.iter {σ ρ:Type} {step:σ->Option (cf σ ρ)} {Q:ρ->Prop} (I:σ->Prop) (μ:σ->Nat) (h:∀x,I x->Wp (step x) (λs=>match s with| .next x'=>I x'/\μ x'<μ x| .done r=>Q r)):
 ∀(n:Nat) (x:σ),I x->μ x<n->Wp (AM.iter step n x) Q
 |0,_,_,h=>by omega
 |n+1,x,hI,hn=>by
  obtain⟨s,e,hs⟩:=(h x hI).ex
  rw[AM.iter,e]
  cases s with
  |next x'=>exact Wp.iter I μ h n x' hs.1 (by have:=hs.2;omega)
  |done r=>exact hs
theorem Wp.iterF {σ ρ:Type} {step:σ->Option (cf σ ρ)} {Q:ρ->Prop} (I:σ->Prop) (μ:σ->Nat) {x:σ} (hI:I x) (hn:μ x<=1000000000000) (h:∀x,I x->Wp (step x) (λs=>match s with| .next x'=>I x'/\μ x'<μ x| .done r=>Q r)):Wp (AM.iter step FU x) Q:=
 Wp.iter I μ h FU x hI (by have:=i9;omega)
theorem Wp.dn {σ ρ:Type} {m:Option ρ} {Q:cf σ ρ->Prop} (h:Wp m (λr=>Q (.done r))):Wp (AM.dn m) Q:=by
 cases m with
 |none=>exact h.elim
 |some r=>exact h
theorem Wp.ix {α β:Type} {xs:List α} {i:Int} {k:α->Option β} {Q:β->Prop} (h0:0<=i) (h1:i<xs.length) (hk:∀x,x∈xs->xs[i.toNat]?= .some x->Wp (k x) Q):Wp (YL (AM.ix xs i) k) Q:=by
 have hl:i.toNat<xs.length:=by omega
 have hx:xs[i.toNat]?= .some xs[i.toNat]:=W0 hl
 refine Wp.eq (a:=xs[i.toNat]) ?_ (hk _ (Y2 hl) hx)
 unfold AM.ix
 rw[show leB 0 i=true from by simp[leB,h0]]
 exact hx
theorem mK {a b:Int} (h:ltB a b=true):a<b:=ltB_t.1 h
theorem s4 {a b:Int} (h:ltB a b=false):b<=a:=ltB_f.1 h
theorem xN {a b:Int} (h:leB a b=true):a<=b:=leB_t.1 h
theorem zK {a b:Int} (h:leB a b=false):b<a:=leB_f.1 h
theorem pH {a b:Int} (h:eqB a b=true):a=b:=eqB_t.1 h
theorem I9 {a b:Int} (h:eqB a b=false):a≠b:=eqB_f.1 h
theorem gx {b n:Nat} (h:n*b<=140737488355328) (h':n<=9223372036854775807):dh b n=true:=by simp[dh,h,h']
attribute [local simp] bA bb be
def Uf (a:eH):Prop:=okL (λ_=>True) a.bX
def fw (a:aM):Prop:=okL Uf a.aR
def fx (a:ae):Prop:=okL (λ_=>True) a.aS
def nX (a:bm):Prop:=okL (λ_=>True) a.aS
def eG (a:aK):Prop:=okL fx a.aF/\okL nX a.aQ
def ge (a:aD):Prop:=eG a.bI
def d4 (a:bk):Prop:=okL (λ_=>True) a.bj
def iy (a:aX):Prop:=okL fx a.az
def ec (a:ah):Prop:=d4 a.g7/\okL nX a.aA/\iy a.aw
def fE (a:am):Prop:=okL (λ_=>True) a.aq
def rL (a:bw):Prop:=okL (λ_=>True) a.aS
def mN (a:aC):Prop:=rL a.bp
def jF (a:bD):Prop:=mN a.cr
def gp (a:ab):Prop:=fw a.d8/\okL ge a.an/\okL ec a.aj/\okL fE a.bi/\okL jF a.aN
open Go.Proofs
attribute [local simp] bA bb be
def eS {α:Type} (p:Nat->α->Bool) (xs:List α):Bool:=xs.zipIdx.all (λy=>p y.2 y.1)
theorem ee {α:Type} {p:Nat->α->Bool} {xs:List α}:eS p xs=true↔∀(k:Nat) (x:α),xs[k]?=some x->p k x=true:=by
 unfold eS
 rw[W6]
 constructor
 .intro h k x hx
  exact h (x,k) (by rw[Zf];simpa using hx)
 rintro h ⟨x,k⟩ hm
 rw[Zf] at hm
 exact h k x (by simpa using hm)
theorem KQ {α:Type} {p q:Nat->α->Bool} {xs:List α} (h:∀(k:Nat) (x:α),xs[k]?=some x->p k x=q k x):eS p xs=eS q xs:=by
 rw[YR,ee,ee]
 constructor
 .intro g k x hx;rw[<-h k x hx];exact g k x hx
 intro g k x hx;rw[h k x hx];exact g k x hx
theorem IC {α:Type} {p q:Nat->α->Bool} {xs:List α}:(eS p xs&&eS q xs)=eS (λk x=>p k x&&q k x) xs:=by
 rw[YR,v0,ee,ee,ee]
 constructor
 .rintro⟨h1,h2⟩ k x hx;simp[h1 k x hx,h2 k x hx]
 intro h
 exact⟨λk x hx=>by have:=h k x hx;simp at this;exact this.1,λk x hx=>by have:=h k x hx;simp at this;exact this.2⟩
theorem qm {α:Type} {p:α->Bool} {xs:List α}:eS (λ_ x=>p x) xs=xs.all p:=by
 rw[YR,ee,W6]
 constructor
 .intro h x hx
  obtain⟨k,hk,rfl⟩:=List.getElem_of_mem hx
  exact h k _ (W0 hk)
 intro h k x hx;exact h x (W2 hx)
theorem fy {α:Type} {L:Int->Option (cf Int Bool)} (xs:List α) (p:Nat->α->Bool) (c:Option Bool) (hl:xs.length<=9223372036854775806)
 (hs:∀(k:Nat) (x:α),xs[k]?=some x->k<xs.length->L (k:Int)=bif p k x then some (.next ((k+1:Nat):Int)) else some (.done false)) (he:L (xs.length:Int)=dn c):
 iter L FU 0=bif eS p xs then c else some false:=allK xs p c hl hs he
theorem uq {α:Type} {xs:List α} {k:Nat} (hk:k<xs.length) (h0:0<k) (hl:xs.length<=9223372036854775806):∃y,xs[k-1]?=some y/\ix xs (WR ((k:Int)-1))=some y:=by
 have h1:k-1<xs.length:=by omega
 refine⟨xs[k-1],W0 h1,?_⟩
 rw[bL ZK,show((k:Int)-1)=((k-1:Nat):Int) from by omega,be,W0 h1]
def iQ {α:Type} (key:α->Int) (xs:List α) (k:Nat) (x:α):Bool:=match k with
 |0=>true
 |j+1=>match xs[j]? with
  |some y=>!leB (key x) (key y)
  |none=>false
def asc (xs:List Int):Bool:=eS (iQ id xs) xs
theorem kR (a b c:Int):ct a b c=some (inR a b c):=by
 unfold ct inR
 cases leB b a<;>rfl
theorem eQ (a b c:Int):cO a b c=some (inR a b c):=by
 unfold cO inR
 cases leB b a<;>rfl
theorem MJ {xs:List Int} (h:xs.length<=1048576):mE xs=some (asc xs):=by
 have key:∀(n m:Nat) (j:Nat),j+n=xs.length->1<=j->n<m->∃b,iter (jn xs) m (j:Int)=some b/\(b=true↔∀k x,j<=k->xs[k]?=some x->iQ id xs k x=true):=by
  intro n
  induction n with
  |zero=>
   intro m j hj h1 hm
   cases m with
   |zero=>omega
   |succ m=>
    simp only[iter,jn]
    rw[show ltB (j:Int) (xs.length:Int)=false from by simp[ltB];omega]
    refine⟨true,rfl,λ_ k x hk hx=>?_,λ_=>rfl⟩
    have:=(W1.1 hx).1
    omega
  |succ n ih=>
   intro m j hj h1 hm
   cases m with
   |zero=>omega
   |succ m=>
    have hjl:j<xs.length:=by omega
    obtain⟨y,hy,hi⟩:=uq hjl ZK ZK
    simp only[iter,jn]
    rw[cg hjl,hi,be,W0 hjl]
    simp only[au]
    obtain⟨i,rfl⟩:∃i,j=i+1:=⟨j-1,by omega⟩
    simp only[YW] at hy
    cases hle:leB xs[i+1] y with
    |true=>
     refine⟨false,rfl,(λh=>by cases h),λhh=>?_⟩
     have:=hh (i+1) _ (W7 _) (W0 hjl)
     simp[iQ,hy,hle] at this
    |false=>
     simp only[cond_false]
     rw[bN (show i+1<9223372036854775807 by omega)]
     obtain⟨b,hb,hi⟩:=ih m (i+1+1) ZK ZK ZK
     refine⟨b,hb,hi.trans ⟨λhh k x hk hx=>?_,λhh k x hk hx=>hh k x ZK hx⟩⟩
     by_cases e:k=i+1
     .subst e
      rw[W0 hjl] at hx;cases hx
      simp[iQ,hy,hle]
     exact hh k x ZK hx
 unfold mE
 cases hx:xs with
 |nil=>
  have:FU=(FU-1)+1:=by have:=i9;omega
  rw[this,iter]
  simp[jn,dn,ltB,asc,eS]
 |cons a l=>
  rw[<-hx]
  obtain⟨b,hb,hi⟩:=key (xs.length-1) FU 1 (by have:0<xs.length:=(by rw[hx];simp);omega) (W7 _) (by have:=i9;omega)
  rw[show(1:Int)=((1:Nat):Int) from rfl,hb]
  congr 1
  rw[YR,hi,asc,ee]
  constructor
  .intro hh k x hk
   cases k with
   |zero=>rfl
   |succ k=>exact hh _ x ZK hk
  intro hh k x _ hk;exact hh k x hk
def mc (k:Int):Bool:=inR k 1 2147483646
theorem MS (k:Int):gA k=some (mc k):=by simp only[gA,kR,YO,mc]
theorem Ju (k:Int):gD k=some (mc k):=by simp only[gD,eQ,YO,mc]
def EN (x:dx):Bool:=inR x.du 0 3&&inR x.bK 0 99
theorem Va (x:dx):fQ x=some (EN x):=by
 simp only[fQ,kR,YO,EN];cases inR x.du 0 3<;>rfl
theorem Vb (x:dx):fY x=some (EN x):=by
 simp only[fY,eQ,YO,EN];cases inR x.du 0 3<;>rfl
def vg (x:me):Bool:=EN x.ID&&(mc x.eP&&inR x.dM 0 999999)
theorem WO (x:me):pJ x=some (vg x):=by
 simp only[pJ,Va,MS,kR,YO,vg];cases EN x.ID<;>cases mc x.eP<;>rfl
theorem SH (x:me):mZ x=some (vg x):=by
 simp only[mZ,Vb,Ju,eQ,YO,vg];cases EN x.ID<;>cases mc x.eP<;>rfl
def ro (x:aG):Bool:=EN x.ID&&(mc x.eP&&inR x.cV 0 999999)
theorem rec_i (x:aG):fN x=some (ro x):=by
 simp only[fN,Va,MS,kR,YO,ro];cases EN x.ID<;>cases mc x.eP<;>rfl
theorem RD (x:aG):ei x=some (ro x):=by
 simp only[ei,Vb,Ju,eQ,YO,ro];cases EN x.ID<;>cases mc x.eP<;>rfl
def jj (x:cP):Bool:=inR x.fB 0 2&&(inR x.eM 0 4&&inR x.f5 0 3)
theorem Rr (x:cP):mn x=some (jj x):=by
 simp only[mn,kR,YO,jj];cases inR x.fB 0 2<;>cases inR x.eM 0 4<;>rfl
theorem Rs (x:cP):mW x=some (jj x):=by
 simp only[mW,eQ,YO,jj];cases inR x.fB 0 2<;>cases inR x.eM 0 4<;>rfl
def f4 (x:a8):Bool:=inR x.dP 1 6&&inR x.dm 0 (WR ((jY .i64 1 x.dP)-1))
theorem HI (x:a8):jb x=some (f4 x):=by
 simp only[jb,kR,YO,f4]
 cases h:inR x.dP 1 6 with
 |false=>rfl
 |true=>rw[show leB 0 x.dP=true from by rw[bE] at h;simp[leB];omega];rfl
theorem Lw (x:a8):kG x=some (f4 x):=by
 simp only[kG,eQ,YO,f4]
 cases h:inR x.dP 1 6 with
 |false=>rfl
 |true=>rw[show leB 0 x.dP=true from by rw[bE] at h;simp[leB];omega];rfl
def iB (x:cT):Bool:=leB 0 x.ax&&(leB 0 x.ed&&(leB x.ed x.cH&&leB x.cH 100000))
theorem HJ (x:cT):jC x=some (iB x):=by
 simp only[jC,YO,iB];cases leB 0 x.ax<;>cases leB 0 x.ed<;>cases leB x.ed x.cH<;>rfl
theorem zY (x:cT):gE x=some (iB x):=by
 have:iB x=(leB 0 x.ax&&(inR x.cH 0 100000&&inR x.ed 0 x.cH)):=by
  rw[YR];simp[iB,inR,leB];omega
 rw[this]
 simp only[gE,eQ,YO];cases leB 0 x.ax<;>cases inR x.cH 0 100000<;>rfl
def tp (n:Nat):Bool:=!ltB 60 (n:Int)
def y5 (xs:List bm):Bool:=xs.all λx=>tp x.aS.length
theorem U1 {xs:List bm} (h:xs.length<=1048576):rF xs=some (y5 xs):=
 PH xs (λx=>tp x.aS.length) ZK (λk x hx hk=>by
  simp only[qA,cg hk,be,hx,bN (show k<9223372036854775807 by omega),tp,au]
  cases ltB 60 (x.aS.length:Int)<;>rfl) (by simp[qA,dn])
def wd (r:aK) (k:Nat) (x:ae):Bool:=inR x.cV (WR (r.bz+1)) (WR (WR (r.bz+8)-1))&&(iQ ae.cV r.aF k x&&tp x.aS.length)
def pC (r:aK):Bool:=eqB r.bz (WR ((r.aQ.length:Int)+1))&&(leB (r.aQ.length:Int) 24&&(y5 r.aQ&&(leB (r.aF.length:Int) 8&&eS (wd r) r.aF)))
theorem u5 (a b:Int):ltB a b=!leB b a:=by rw[YR];simp[ltB,leB]
theorem Wm {r:aK} (h1:r.aQ.length<=1048576) (h2:r.aF.length<=1048576):kz r=some (pC r):=by
 have hL:iter (iD r) FU 0=bif eS (wd r) r.aF then some true else some false:=by
  refine fy r.aF (wd r) (some true) ZK (λk x hx hk=>?_) (by simp[iD])
  simp only[iD,cg hk,be,hx,bN (show k<9223372036854775807 by omega),kR,wd,tp,au]
  cases k with
  |zero=>
   simp only[iQ,show ltB 0 ((0:Nat):Int)=false from by simp[ltB]]
   cases ltB 60 (x.aS.length:Int)<;>cases inR x.cV (WR (r.bz+1)) (WR (WR (r.bz+8)-1))<;>rfl
  |succ k=>
   obtain⟨y,hy,hi⟩:=uq hk ZK ZK
   simp only[YW] at hy
   simp only[iQ,hy,hi,show ltB 0 ((k+1:Nat):Int)=true from by simp[ltB],YO]
   cases ltB 60 (x.aS.length:Int)<;>cases inR x.cV (WR (r.bz+1)) (WR (WR (r.bz+8)-1))<;>cases leB x.cV y.cV<;>rfl
 simp only[kz,U1 h1,YO,hL,pC,u5 24,u5 8]
 cases eqB r.bz (WR ((r.aQ.length:Int)+1))<;>cases leB (r.aQ.length:Int) 24<;>cases y5 r.aQ<;>cases leB (r.aF.length:Int) 8<;>cases eS (wd r) r.aF<;>rfl
theorem RH {r:aK} (h1:r.aQ.length<=1048576) (h2:r.aF.length<=1048576):iS r=some (pC r):=by
 have hF:iter (gv r) FU 0=bif eS (λ_ x=>tp x.aS.length) r.aQ then some (eqB r.bz (WR ((r.aQ.length:Int)+1))&&(leB (r.aQ.length:Int) 24&&leB (r.aF.length:Int) 8)) else some false:=by
  refine fy r.aQ (λ_ x=>tp x.aS.length) _ ZK (λk x hx hk=>?_) ?_
  .simp only[gv,cg hk,be,hx,bN (show k<9223372036854775807 by omega),tp,au]
   cases ltB 60 (x.aS.length:Int)<;>rfl
  simp only[gv,bA,cond_false]
  cases eqB r.bz (WR ((r.aQ.length:Int)+1))<;>cases leB (r.aQ.length:Int) 24<;>rfl
 have hL:iter (iF r) FU 0=bif eS (wd r) r.aF then iter (gv r) FU 0 else some false:=by
  refine fy r.aF (wd r) _ ZK (λk x hx hk=>?_) (by simp[iF])
  simp only[iF,cg hk,be,hx,bN (show k<9223372036854775807 by omega),eQ,wd,tp,au]
  cases k with
  |zero=>
   simp only[iQ,show ltB 0 ((0:Nat):Int)=false from by simp[ltB]]
   cases ltB 60 (x.aS.length:Int)<;>cases inR x.cV (WR (r.bz+1)) (WR (WR (r.bz+8)-1))<;>rfl
  |succ k=>
   obtain⟨y,hy,hi⟩:=uq hk ZK ZK
   simp only[YW] at hy
   simp only[iQ,hy,hi,show ltB 0 ((k+1:Nat):Int)=true from by simp[ltB],YO]
   cases ltB 60 (x.aS.length:Int)<;>cases inR x.cV (WR (r.bz+1)) (WR (WR (r.bz+8)-1))<;>cases leB x.cV y.cV<;>rfl
 rw[qm] at hF
 simp only[iS,hL,hF,pC,y5]
 cases eqB r.bz (WR ((r.aQ.length:Int)+1))<;>cases leB (r.aQ.length:Int) 24<;>cases(r.aQ.all λx=>tp x.aS.length)<;>cases leB (r.aF.length:Int) 8<;>cases eS (wd r) r.aF<;>rfl
def jX (d:aD):Bool:=vg d.c9&&(inR d.bu 0 3&&(inR d.bg 0 5&&(inR d.ag 0 999999&&(inR d.a9 0 999999&&(inR d.aO 0 2147483646&&((!inR d.bu 2 3||mc d.aO)&&(inR d.f5 0 3&&pC d.bI)))))))
theorem st23 (n:Int):inR n 2 3=(eqB n 2||eqB n 3):=by rw[YR];simp[inR,leB,eqB];omega
theorem Qd {d:aD} (h1:d.bI.aQ.length<=1048576) (h2:d.bI.aF.length<=1048576):mh d=some (jX d):=by
 simp only[mh,WO,kR,MS,Wm h1 h2,YO,jX,st23]
 cases vg d.c9<;>cases inR d.bu 0 3<;>cases inR d.bg 0 5<;>try rfl
 cases inR d.ag 0 999999<;>cases inR d.a9 0 999999<;>cases inR d.aO 0 2147483646<;>try rfl
 cases eqB d.bu 2<;>cases eqB d.bu 3<;>cases mc d.aO<;>cases inR d.f5 0 3<;>rfl
theorem Qe {d:aD} (h1:d.bI.aQ.length<=1048576) (h2:d.bI.aF.length<=1048576):mT d=some (jX d):=by
 simp only[mT,SH,eQ,Ju,RH h1 h2,YO,jX]
 cases inR d.bu 2 3<;>cases mc d.aO<;>cases vg d.c9<;>cases inR d.bu 0 3<;>cases inR d.bg 0 5<;>cases inR d.ag 0 999999<;>try rfl
 all_goals (cases inR d.a9 0 999999<;>cases inR d.aO 0 2147483646<;>cases inR d.f5 0 3<;>rfl)
open Go.Proofs
attribute [local simp] bA bb be
theorem xi {α:Type} {step:Int×Int->Option (cf (Int×Int) Int)} (xs:List α) (f:Int->α->Int) (hl:xs.length<=9223372036854775806)
 (hs:∀(k:Nat) (x:α) (a:Int),xs[k]?=some x->k<xs.length->step (a,(k:Int))=some (.next (f a x,((k+1:Nat):Int)))) (he:∀a,step (a,(xs.length:Int))=some (.done a)) (a0:Int):
 iter step FU (a0,0)=some (xs.foldl f a0):=by
 have:=fr (step:=step) xs (λk (v:Int)=>(v,(k:Int))) (λv x=>some (.next (f v x))) some hl
  (λk x s hx hk=>by rw[hs k x s hx hk];rfl) (λs=>by rw[he];rfl) a0
 refine Eq.trans (show iter step FU (a0,0)=_ from this) ?_
 clear this he hs
 induction xs generalizing a0 with
 |nil=>rfl
 |cons x xs ih=>rw[jK,Y8];exact ih (by simp at hl;omega) _
def vZ (xs:List ae):Int:=xs.foldl (λa x=>WR (a+(x.aS.length:Int))) 0
theorem nb_i {xs:List ae} (h:xs.length<=1048576):mF xs=some (vZ xs):=by
 unfold mF
 rw[xi xs (λa x=>WR (a+(x.aS.length:Int))) ZK (λk x a hx hk=>by
  simp only[mG,cg hk,be,hx,bN (show k<9223372036854775807 by omega),au]) (λa=>by simp[mG])]
 rfl
theorem Ua {xs:List ae} (h:xs.length<=1048576):oh xs=some (vZ xs):=by
 unfold oh
 rw[xi xs (λa x=>WR (a+(x.aS.length:Int))) ZK (λk x a hx hk=>by
  simp only[uJ,cg hk,be,hx,bN (show k<9223372036854775807 by omega),au]) (λa=>by simp[uJ])]
 rfl
def JZ (q:cT):Int:=bif iB q then WR (q.cH-q.ed) else 0
theorem rem_i (q:cT):lG q=some (JZ q):=by simp only[lG,HJ,YO,JZ];cases iB q<;>rfl
theorem U9 (q:cT):ju q=some (JZ q):=by simp only[ju,zY,YO,JZ];cases iB q<;>rfl
def A5 (p:bk):Bool:=inR p.gH 1 1000&&(inR p.gG 1 4&&inR p.eg 1 100000)
def oX (p:bk):Bool:=A5 p&&eS (λk x=>inR x 0 3&&iQ id p.bj k x) p.bj
theorem Wx {p:bk} (h:d4 p):ie p=some (oX p):=by
 have hl:=h.1
 have hL:iter (f9 p) FU 0=bif eS (λ_ x=>inR x 0 3) p.bj then some (asc p.bj) else some false:=by
  refine fy p.bj (λ_ x=>inR x 0 3) _ ZK (λk x hx hk=>?_) (by simp[f9,MJ hl])
  simp only[f9,cg hk,be,hx,bN (show k<9223372036854775807 by omega),kR,au]
  cases inR x 0 3<;>rfl
 simp only[ie,kR,YO,hL,oX,A5,<-IC,asc]
 cases inR p.gH 1 1000<;>cases inR p.gG 1 4<;>cases inR p.eg 1 100000<;>cases eS (λ_ x=>inR x 0 3) p.bj<;>rfl
theorem Sm {p:bk} (h:d4 p):fZ p=some (oX p):=by
 have hl:=h.1
 have hL:iter (gh p) FU 0=bif eS (λk x=>inR x 0 3&&iQ id p.bj k x) p.bj then some (A5 p) else some false:=by
  refine fy p.bj _ _ ZK (λk x hx hk=>?_) ?_
  .simp only[gh,cg hk,be,hx,bN (show k<9223372036854775807 by omega),eQ,au]
   cases k with
   |zero=>
    simp only[iQ,show ltB 0 ((0:Nat):Int)=false from by simp[ltB]]
    cases inR x 0 3<;>rfl
   |succ k=>
    obtain⟨y,hy,hi⟩:=uq hk ZK ZK
    simp only[YW] at hy
    simp only[iQ,hy,hi,hx,be,show ltB 0 ((k+1:Nat):Int)=true from by simp[ltB],YO,id]
    cases inR x 0 3<;>cases leB x y<;>rfl
  simp only[gh,bA,eQ,A5,au]
  cases inR p.gH 1 1000<;>cases inR p.gG 1 4<;>rfl
 simp only[fZ,hL,oX]
 cases A5 p<;>cases eS (λk x=>inR x 0 3&&iQ id p.bj k x) p.bj<;>rfl
def unB (w:aX) (k:Nat) (x:ae):Bool:=eqB x.cV (WR (WR (w.bz-(w.az.length:Int))+(k:Int)))&&tp x.aS.length
def iH (w:aX):Bool:=inR w.bz 1 100000&&(leB (w.az.length:Int) 8&&(leB 1 (WR (w.bz-(w.az.length:Int)))&&eS (unB w) w.az))
theorem Sc {w:aX} (h:iy w):mr w=some (iH w):=by
 have hl:=h.1
 have hL:iter (jN w) FU 0=bif eS (unB w) w.az then some true else some false:=by
  refine fy w.az (unB w) _ ZK (λk x hx hk=>?_) (by simp[jN])
  simp only[jN,cg hk,be,hx,bN (show k<9223372036854775807 by omega),unB,tp,au]
  cases eqB x.cV (WR (WR (w.bz-(w.az.length:Int))+(k:Int)))<;>cases ltB 60 (x.aS.length:Int)<;>rfl
 simp only[mr,kR,YO,hL,iH,u5]
 cases inR w.bz 1 100000<;>cases leB (w.az.length:Int) 8<;>cases leB 1 (WR (w.bz-(w.az.length:Int)))<;>cases eS (unB w) w.az<;>rfl
theorem Kf {w:aX} (h:iy w):ko w=some (iH w):=by
 have hl:=h.1
 have hL:iter (jV w) FU 0=bif eS (unB w) w.az then some (inR w.bz 1 100000&&(leB (w.az.length:Int) 8&&leB 1 (WR (w.bz-(w.az.length:Int))))) else some false:=by
  refine fy w.az (unB w) _ ZK (λk x hx hk=>?_) ?_
  .simp only[jV,cg hk,be,hx,bN (show k<9223372036854775807 by omega),unB,tp,au]
   cases eqB x.cV (WR (WR (w.bz-(w.az.length:Int))+(k:Int)))<;>cases ltB 60 (x.aS.length:Int)<;>rfl
  simp only[jV,bA,eQ,au]
  cases inR w.bz 1 100000<;>cases leB (w.az.length:Int) 8<;>rfl
 simp only[ko,hL,iH]
 cases inR w.bz 1 100000<;>cases leB (w.az.length:Int) 8<;>cases leB 1 (WR (w.bz-(w.az.length:Int)))<;>cases eS (unB w) w.az<;>rfl
def BN (a b:List Int):Bool:=strB (vj a) (vj b)
theorem eqb_i (a b:List Int):vK a b=some (BN a b):=rfl
theorem U0 (a b:List Int):lZ a b=some (BN a b):=rfl
def y4 (s:ah) (x:ae):Bool:=match s.aA[(x.cV-1).toNat]? with
 |some y=>BN x.aS y.aS
 |none=>false
def lL (s:ah):Bool:=leB (s.aA.length:Int) 24&&(y5 s.aA&&(iH s.aw&&leB s.aw.bz (WR ((s.aA.length:Int)+1))))
def rO (s:ah):Bool:=leB (vZ s.aw.az) (JZ s.bM)
def DA (s:ah):Bool:=(!eqB s.bu 1||mc s.aO)&&(!ltB 0 s.bF||mc s.aF.eP)
def it (s:ah):Bool:=ro s.bC&&(oX s.g7&&(jj s.gZ&&(iH s.aw&&(iB s.bM&&(inR s.bu 0 1&&(DA s&&(inR s.bF 0 999999&&(inR s.ag 0 999999&&(inR s.a9 0 999999&&(inR s.aO 0 2147483646&&
 (inR s.bg 0 5&&(inR s.d9 0 5&&(inR s.d7 0 3&&(leB (s.aA.length:Int) 24&&(y5 s.aA&&(leB s.aw.bz (WR ((s.aA.length:Int)+1))&&(s.aw.az.all (y4 s)&&rO s)))))))))))))))))
theorem Vg {s:ah} (hs:lL s=true) {k:Nat} {x:ae} (hx:s.aw.az[k]?=some x):∃y,ix s.aA (WR (x.cV-1))=some y/\s.aA[(x.cV-1).toNat]?=some y:=by
 simp only[lL,iH,v0,ee,bE] at hs
 obtain⟨h1,h2,⟨⟨h3,h3'⟩,h4,h5,h6⟩,h7⟩:=hs
 have hk:=(W1.1 hx).1
 have h8:=h6 k x hx
 simp only[unB,v0] at h8
 have h4':(s.aw.az.length:Int)<=8:=by simpa [leB] using h4
 have h1':(s.aA.length:Int)<=24:=by simpa [leB] using h1
 rw[bL ZK] at h5
 rw[bL ZK] at h7
 have h9:=h8.1
 rw[bL (n:=s.aw.bz-_) ZK,bL ZK] at h9
 have h9':x.cV=s.aw.bz-s.aw.az.length+k:=by simpa [eqB] using h9
 have h5':1<=s.aw.bz-(s.aw.az.length:Int):=by simpa [leB] using h5
 have h7':s.aw.bz<=(s.aA.length:Int)+1:=by simpa [leB] using h7
 have hlt:(x.cV-1).toNat<s.aA.length:=by omega
 refine⟨s.aA[(x.cV-1).toNat],?_,W0 hlt⟩
 have hm:x.cV-1=(((x.cV-1).toNat:Nat):Int):=by omega
 rw[bL ZK]
 generalize (x.cV-1).toNat=m at hm hlt ⊢
 rw[hm,be,W0 hlt]
theorem WC {s:ah} (h:ec s) (hs:lL s=true):iter (fD s) FU 0=some (s.aw.az.all (y4 s)&&rO s):=by
 have hl:=h.2.2.1
 have:=fy (L:=fD s) s.aw.az (λ_ x=>y4 s x) (some (rO s)) ZK (λk x hx hk=>by
  obtain⟨y,h1,h2⟩:=Vg hs hx
  simp only[fD,cg hk,be,hx,h1,eqb_i,bN (show k<9223372036854775807 by omega),y4,h2,au]
  cases BN x.aS y.aS<;>rfl) (by simp[fD,mu,nb_i hl,rem_i,rO])
 rw[this,qm]
 cases s.aw.az.all (y4 s)<;>rfl
theorem WD {s:ah} (h:ec s) (hs:lL s=true):iter (jH s) FU 0=some (s.aw.az.all (y4 s)&&rO s):=by
 have hl:=h.2.2.1
 have:=fy (L:=jH s) s.aw.az (λ_ x=>y4 s x) (some (rO s)) ZK (λk x hx hk=>by
  obtain⟨y,h1,h2⟩:=Vg hs hx
  simp only[jH,cg hk,be,hx,h1,U0,bN (show k<9223372036854775807 by omega),y4,h2,au]
  cases BN x.aS y.aS<;>rfl) (by simp[jH,Ua hl,U9,rO])
 rw[this,qm]
 cases s.aw.az.all (y4 s)<;>rfl
theorem Sl {s:ah} (h:ec s):uL s=some (lL s&&(s.aw.az.all (y4 s)&&rO s)):=by
 have hl:=h.2.1.1
 have hL:=fy (L:=oD s) s.aA (λ_ x=>tp x.aS.length) (bif leB (s.aA.length:Int) 24&&(iH s.aw&&leB s.aw.bz (WR ((s.aA.length:Int)+1))) then iter (jH s) FU 0 else some false) ZK (λk x hx hk=>by
  simp only[oD,cg hk,be,hx,bN (show k<9223372036854775807 by omega),tp,au]
  cases ltB 60 (x.aS.length:Int)<;>rfl) (by
  simp only[oD,bA,Kf h.2.2,u5,au]
  cases leB (s.aA.length:Int) 24<;>cases iH s.aw<;>cases leB s.aw.bz (WR ((s.aA.length:Int)+1))<;>rfl)
 rw[qm] at hL
 unfold uL
 rw[hL]
 cases hs:lL s with
 |true=>
  rw[WD h hs]
  simp only[lL,y5,v0] at hs
  simp[hs.1,hs.2.1,hs.2.2.1,hs.2.2.2]
 |false=>
  have:(leB (s.aA.length:Int) 24&&(iH s.aw&&leB s.aw.bz (WR ((s.aA.length:Int)+1))))=false\/(s.aA.all λx=>tp x.aS.length)=false:=by
   simp only[lL,y5] at hs
   revert hs
   cases leB (s.aA.length:Int) 24<;>cases iH s.aw<;>cases leB s.aw.bz (WR ((s.aA.length:Int)+1))<;>cases(s.aA.all λx=>tp x.aS.length)<;>simp
  rcases this with e|e<;>rw[e]
  .cases(s.aA.all λx=>tp x.aS.length)<;>rfl
  rfl
theorem st01 (n:Int):inR n 0 1=(eqB n 0||eqB n 1):=by rw[YR];simp[inR,leB,eqB];omega
theorem O8 {s:ah} (h:ec s):lF s=some (it s):=by
 have hz:=λhs=>WC h hs
 simp only[lF,rec_i,Wx h.1,Rr,Sc h.2.2,HJ,MS,kR,U1 h.2.1.1,YO,it,DA,st01,u5 24,u5 (WR ((s.aA.length:Int)+1))]
 simp only[lL] at hz
 revert hz
 generalize iter (fD s) FU 0=z
 cases ro s.bC
 .intro _;rfl
 cases oX s.g7
 .intro _;rfl
 cases jj s.gZ
 .intro _;rfl
 cases iH s.aw
 .intro _;rfl
 cases iB s.bM
 .intro _;rfl
 cases eqB s.bu 0<;>cases eqB s.bu 1<;>try (intro _;rfl)
 all_goals
  cases mc s.aO<;>cases ltB 0 s.bF<;>cases mc s.aF.eP<;>try (intro _;rfl)
 all_goals
  cases inR s.bF 0 999999<;>cases inR s.ag 0 999999<;>cases inR s.a9 0 999999<;>cases inR s.aO 0 2147483646<;>try (intro _;rfl)
 all_goals
  cases inR s.bg 0 5<;>cases inR s.d9 0 5<;>cases inR s.d7 0 3<;>try (intro _;rfl)
 all_goals
  cases leB (s.aA.length:Int) 24<;>cases y5 s.aA<;>cases leB s.aw.bz (WR ((s.aA.length:Int)+1))<;>intro hz<;>first|rfl|exact hz rfl
theorem Bn {s:ah} (h:ec s):jt s=some (it s):=by
 have:it s=(inR s.bu 0 1&&(DA s&&(ro s.bC&&(oX s.g7&&(jj s.gZ&&(iB s.bM&&((lL s&&(s.aw.az.all (y4 s)&&rO s))&&(inR s.bF 0 999999&&(inR s.ag 0 999999&&(inR s.a9 0 999999&&(inR s.aO 0 2147483646&&(inR s.bg 0 5&&(inR s.d9 0 5&&inR s.d7 0 3))))))))))))):=by
  simp only[it,lL];ac_rfl
 rw[this]
 simp only[jt,RD,Sm h.1,Rs,zY,Ju,eQ,Sl h,YO,DA,st01]
 cases eqB s.bu 0<;>cases eqB s.bu 1<;>cases mc s.aO<;>cases ltB 0 s.bF<;>cases mc s.aF.eP<;>try rfl
 all_goals
  cases ro s.bC<;>cases oX s.g7<;>cases jj s.gZ<;>cases iB s.bM<;>cases(lL s&&(s.aw.az.all (y4 s)&&rO s))<;>try rfl
 all_goals
  cases inR s.bF 0 999999<;>cases inR s.ag 0 999999<;>cases inR s.a9 0 999999<;>cases inR s.aO 0 2147483646<;>try rfl
 all_goals
  cases inR s.bg 0 5<;>cases inR s.d9 0 5<;>rfl
open Go.Proofs
attribute [local simp] bA bb be
def Pn (a:am):Int:=a.aq.foldl (λs x=>WR (s+x.dV)) 0
theorem WH {a:am} (h:fE a):my a=some (Pn a):=by
 have:=h.1
 unfold my
 rw[xi a.aq (λs x=>WR (s+x.dV)) ZK (λk x s hx hk=>by
  simp only[mz,cg hk,be,hx,bN (show k<9223372036854775807 by omega),au]) (λs=>by simp[mz])]
 rfl
theorem WI {a:am} (h:fE a):nq a=some (Pn a):=by
 have:=h.1
 unfold nq
 rw[xi a.aq (λs x=>WR (s+x.dV)) ZK (λk x s hx hk=>by
  simp only[nr,cg hk,be,hx,bN (show k<9223372036854775807 by omega),au]) (λs=>by simp[nr])]
 rfl
def Cd (a:am) (k:Nat) (x:aE):Bool:=!ltB x.ax 0&&(inR x.dV 1 100000&&iQ aE.ax a.aq k x)
def Pm (a:am):Bool:=eqB (WR (WR (a.bQ+a.er)+Pn a)) a.eJ
def gX (a:am):Bool:=inR a.eJ 0 100000&&(inR a.bQ 0 a.eJ&&(inR a.er 0 a.eJ&&(leB (a.aq.length:Int) 8&&(eS (Cd a) a.aq&&Pm a))))
theorem FD {a:am} (h:fE a):jl a=some (gX a):=by
 have hl:=h.1
 have hL:iter (ja a) FU 0=bif eS (Cd a) a.aq then some (Pm a) else some false:=by
  refine fy a.aq (Cd a) _ ZK (λk x hx hk=>?_) (by simp[ja,WH h,Pm])
  simp only[ja,cg hk,be,hx,bN (show k<9223372036854775807 by omega),kR,Cd,au]
  cases k with
  |zero=>
   simp only[iQ,show ltB 0 ((0:Nat):Int)=false from by simp[ltB]]
   cases ltB x.ax 0<;>cases inR x.dV 1 100000<;>rfl
  |succ k=>
   obtain⟨y,hy,hi⟩:=uq hk ZK ZK
   simp only[YW] at hy
   simp only[iQ,hy,hi,show ltB 0 ((k+1:Nat):Int)=true from by simp[ltB],YO]
   cases ltB x.ax 0<;>cases inR x.dV 1 100000<;>cases leB x.ax y.ax<;>rfl
 simp only[jl,kR,YO,hL,gX,u5 8]
 cases inR a.eJ 0 100000<;>cases inR a.bQ 0 a.eJ<;>cases inR a.er 0 a.eJ<;>cases leB (a.aq.length:Int) 8<;>cases eS (Cd a) a.aq<;>rfl
theorem w8 {a:am} (h:fE a):gr a=some (gX a):=by
 have hl:=h.1
 have hL:iter (je a) FU 0=bif eS (Cd a) a.aq then some (inR a.eJ 0 100000&&(inR a.bQ 0 a.eJ&&(inR a.er 0 a.eJ&&(leB (a.aq.length:Int) 8&&Pm a)))) else some false:=by
  refine fy a.aq (Cd a) _ ZK (λk x hx hk=>?_) ?_
  .simp only[je,cg hk,be,hx,bN (show k<9223372036854775807 by omega),eQ,Cd,au]
   cases k with
   |zero=>
    simp only[iQ,show ltB 0 ((0:Nat):Int)=false from by simp[ltB]]
    cases ltB x.ax 0<;>cases inR x.dV 1 100000<;>rfl
   |succ k=>
    obtain⟨y,hy,hi⟩:=uq hk ZK ZK
    simp only[YW] at hy
    simp only[iQ,hy,hi,hx,be,show ltB 0 ((k+1:Nat):Int)=true from by simp[ltB],YO]
    cases ltB x.ax 0<;>cases inR x.dV 1 100000<;>cases leB x.ax y.ax<;>rfl
  simp only[je,bA,eQ,WI h,Pm,au]
  cases inR a.eJ 0 100000<;>cases inR a.bQ 0 a.eJ<;>cases inR a.er 0 a.eJ<;>cases leB (a.aq.length:Int) 8<;>rfl
 simp only[gr,hL,gX]
 cases inR a.eJ 0 100000<;>cases inR a.bQ 0 a.eJ<;>cases inR a.er 0 a.eJ<;>cases leB (a.aq.length:Int) 8<;>cases eS (Cd a) a.aq<;>rfl
def iR (a:am) (i:Int):Int:=match a.aq.find? (λx=>eqB x.ax i) with
 |some x=>x.dV
 |none=>0
theorem MB {α:Type} (p:α->Bool) (xs:List α):(nK p 0 xs= -1/\xs.find? p=none)\/∃x,ltB (nK p 0 xs) 0=false/\ix xs (nK p 0 xs)=some x/\xs.find? p=some x:=by
 rcases A1 p xs 0 with⟨h1,h2⟩|⟨j,h1,x,h2,h3,h4⟩
 .exact .inl ⟨h1,by rw[Zg];intro x hx;simp[h2 x hx]⟩
 right
 have h1':nK p 0 xs=(j:Int):=by simpa using h1
 refine⟨x,by rw[h1'];simp[ltB],by rw[h1',be,h2],?_⟩
 have hj:=(W1.1 h2)
 rw[List.find?_eq_some_iff_getElem]
 have hjl:=hj.1
 refine⟨h3,j,hjl,hj.2,λi hi=>?_⟩
 have hil:i<xs.length:=Nat.lt_trans hi hjl
 have:xs[i]∈xs.take j:=List.mem_take_iff_getElem.2 ⟨i,by omega,rfl⟩
 simp[h4 _ this]
theorem RO {a:am} (h:fE a) (i:Int):pK a i=some (iR a i):=by
 have:=h.1
 have hf:=tm (L:=ik a i) a.aq (λx=>eqB x.ax i) ZK (λk x hx hk=>by
  simp only[ik,cg hk,be,hx,bN (show k<9223372036854775807 by omega),au]
  cases eqB x.ax i<;>rfl) (by simp[ik,dn])
 unfold pK mH iR
 rw[hf]
 rcases MB (λx:aE=>eqB x.ax i) a.aq with⟨e1,e2⟩|⟨x,e1,e2,e3⟩
 .rw[e1,e2];simp[ltB]
 simp only[e1,e2,e3,au]
theorem J1 {a:am} (h:fE a) (i:Int):nm a i=some (iR a i):=by
 have:=h.1
 have hf:=tm (L:=sv a i) a.aq (λx=>eqB x.ax i) ZK (λk x hx hk=>by
  simp only[sv,cg hk,be,hx,bN (show k<9223372036854775807 by omega),au]
  cases eqB x.ax i<;>rfl) (by simp[sv,dn])
 unfold nm oT iR
 rw[hf]
 rcases MB (λx:aE=>eqB x.ax i) a.aq with⟨e1,e2⟩|⟨x,e1,e2,e3⟩
 .rw[e1,e2];simp[ltB]
 simp only[e1,e2,e3,au]
def uR (a:am) (q:cT):Bool:=gX a&&(iB q&&eqB (iR a q.ax) q.cH)
theorem T0 {a:am} (h:fE a) (q:cT):ig a q=some (uR a q):=by
 simp only[ig,FD h,HJ,RO h,YO,uR];cases gX a<;>cases iB q<;>rfl
theorem Ht {a:am} (h:fE a) (q:cT):eY a q=some (uR a q):=by
 simp only[eY,w8 h,zY,J1 h,YO,uR];cases gX a<;>cases iB q<;>rfl
theorem ka {α ρ:Type} {L:Int->Option (cf Int ρ)} (xs:List α) (p:Nat->α->Bool) (f:ρ) (c:Option ρ) (hl:xs.length<=9223372036854775806)
 (hs:∀(k:Nat) (x:α),xs[k]?=some x->k<xs.length->L (k:Int)=bif p k x then some (.next ((k+1:Nat):Int)) else some (.done f)) (he:L (xs.length:Int)=dn c):
 iter L FU 0=bif eS p xs then c else some f:=by
 have:=fr (step:=L) xs.zipIdx (λk (_:Unit)=>(k:Int)) (λ_ y=>bif p y.2 y.1 then some (.next ()) else some (.done f)) (λ_=>c) (by simpa using hl)
  (λk y s hy hk=>by
   have hk':k<xs.length:=by simpa using hk
   have:y=(xs[k],k):=by rw[W0 hk] at hy;simpa using hy.symm
   subst this
   rw[hs k xs[k] (W0 hk') hk'];cases p k xs[k]<;>rfl) (λs=>by rw[Zp,he]) ()
 refine Eq.trans (show iter L FU 0=_ from this) ?_
 have key:∀ys:List (α×Nat),jK (λ(_:Unit) y=>bif p y.2 y.1 then some (.next ()) else some (cf.done f)) (λ_=>c) ys ()=bif ys.all (λy=>p y.2 y.1) then c else some f:=by
  intro ys
  induction ys with
  |nil=>rfl
  |cons x xs ih=>rw[jK];cases hp:p x.2 x.1<;>simp[hp,ih]
 exact key _
theorem QK {l:List Int} (h:l.length<=1048576) (v:Int):Ao l v=some (l.any λx=>eqB x v):=
 PJ l (λx=>eqB x v) ZK (λk x hx hk=>by
  simp only[yT,cg hk,be,hx,bN (show k<9223372036854775807 by omega),au]
  cases eqB x v<;>rfl) (by simp[yT,dn])
theorem Qq (a b:Int):eqB a b=eqB b a:=by rw[YR];simp[eqB];exact eq_comm
theorem has_i {l:List Int} (h:l.length<=1048576) (v:Int):fL l v=some (l.any λx=>eqB x v):=by
 have hf:=tm (L:=fM l v) l (λx=>eqB x v) ZK (λk x hx hk=>by
  simp only[fM,cg hk,be,hx,bN (show k<9223372036854775807 by omega),Qq v x,au]
  cases eqB x v<;>rfl) (by simp[fM,dn])
 unfold fL jL
 rw[hf]
 simp only[YO]
 rw[Dx ZK]
def ef (m:aM) (i:Int):Bool:=inR i 0 ((m.aR.length:Int)-1)
theorem KW {m:aM} (h:m.aR.length<=1048576) (i:Int):rG m i=some (ef m i):=by
 simp only[rG,kR,y8 h,YO,ef]
def zi (m:aM) (x:Int) (i:Nat):Bool:=match m.aR[x.toNat]? with
 |some d=>d.bX.any λy=>eqB y (i:Int)
 |none=>false
def nbB (m:aM) (i:Nat) (ns:List Int) (k:Nat) (x:Int):Bool:=ef m x&&(!eqB x (i:Int)&&(iQ id ns k x&&zi m x i))
def wW (m:aM) (i:Nat) (c:eH):Bool:=inR c.fB 0 2&&eS (nbB m i c.bX) c.bX
def ol (m:aM):Bool:=inR (m.aR.length:Int) 1 6&&eS (wW m) m.aR
theorem Cs {m:aM} {x:Int} (h:ef m x=true):∃d,d∈m.aR/\ix m.aR x=some d/\m.aR[x.toNat]?=some d:=by
 simp only[ef,bE] at h
 have hlt:x.toNat<m.aR.length:=by omega
 refine⟨m.aR[x.toNat],Y2 hlt,?_,W0 hlt⟩
 have hm:x=(x.toNat:Int):=by omega
 generalize x.toNat=m at hm hlt ⊢
 rw[hm,be,W0 hlt]
theorem map_i {m:aM} (h:fw m):rz m=some (ol m):=by
 have hl:=h.1
 have h2:∀(i:Nat) (c:eH),c∈m.aR->i<m.aR.length->iter (ml m (i:Int) c) FU 0=bif eS (λk x=>!eqB x (i:Int)&&(ef m x&&zi m x i)) c.bX then some (.next ((i+1:Nat):Int)) else some (.done false):=by
  intro i c hc hi
  have hn:=(h.2 c hc).1
  refine ka c.bX (λk x=>!eqB x (i:Int)&&(ef m x&&zi m x i)) (cf.done false) _ ZK (λk x hx hk=>?_) (by simp[ml,bN (show i<9223372036854775807 by omega)])
  simp only[ml,cg hk,be,hx,bN (show k<9223372036854775807 by omega),KW hl,sX,au]
  cases eqB x (i:Int) with
  |true=>rfl
  |false=>
   cases hcb:ef m x with
   |false=>rfl
   |true=>
    obtain⟨d,d1,d2,d3⟩:=Cs hcb
    simp only[d2,has_i (h.2 d d1).1,zi,d3,au]
    cases(d.bX.any λy=>eqB y (i:Int))<;>rfl
 have hL:iter (mj m) FU 0=bif eS (wW m) m.aR then some true else some false:=by
  refine ka m.aR (wW m) false (some true) ZK (λk x hx hk=>?_) (by simp[mj])
  have hm:=W2 hx
  simp only[mj,cg hk,be,hx,kR,MJ (h.2 x hm).1,h2 k x hm hk,wW,au]
  have:eS (nbB m k x.bX) x.bX=(asc x.bX&&eS (λj y=>!eqB y (k:Int)&&(ef m y&&zi m y k)) x.bX):=by
   rw[asc,IC]
   exact KQ λj y _=>by simp only[nbB];ac_rfl
  rw[this]
  cases inR x.fB 0 2<;>cases asc x.bX<;>cases eS (λj y=>!eqB y (k:Int)&&(ef m y&&zi m y k)) x.bX<;>rfl
 simp only[rz,kR,YO,hL,ol]
 cases inR (m.aR.length:Int) 1 6<;>cases eS (wW m) m.aR<;>rfl
theorem U5 {m:aM} (h:fw m):oO m=some (ol m):=by
 have hl:=h.1
 have h2:∀(i:Nat) (c:eH),c∈m.aR->i<m.aR.length->iter (mV m (i:Int) c) FU 0=bif eS (nbB m i c.bX) c.bX then some (.next ((i+1:Nat):Int)) else some (.done false):=by
  intro i c hc hi
  have hn:=(h.2 c hc).1
  refine ka c.bX (nbB m i c.bX) (cf.done false) _ ZK (λk x hx hk=>?_) (by simp[mV,bN (show i<9223372036854775807 by omega)])
  simp only[mV,cg hk,be,hx,bN (show k<9223372036854775807 by omega),eQ,y8 hl,nbB,au]
  cases hcb:ef m x with
  |false=>rw[show inR x 0 ((m.aR.length:Int)-1)=false from hcb];rfl
  |true=>
   rw[show inR x 0 ((m.aR.length:Int)-1)=true from hcb]
   obtain⟨d,d1,d2,d3⟩:=Cs hcb
   cases k with
   |zero=>
    simp only[iQ,show ltB 0 ((0:Nat):Int)=false from by simp[ltB],d2,QK (h.2 d d1).1,zi,d3,au]
    cases eqB x (i:Int)<;>cases(d.bX.any λy=>eqB y (i:Int))<;>rfl
   |succ k=>
    obtain⟨y,hy,hi⟩:=uq hk ZK ZK
    simp only[YW] at hy
    simp only[iQ,hy,hi,show ltB 0 ((k+1:Nat):Int)=true from by simp[ltB],d2,QK (h.2 d d1).1,zi,d3,id,au]
    cases eqB x (i:Int)<;>cases leB x y<;>cases(d.bX.any λy=>eqB y (i:Int))<;>rfl
 have hL:iter (mU m) FU 0=bif eS (wW m) m.aR then some (inR (m.aR.length:Int) 1 6) else some false:=by
  refine ka m.aR (wW m) false _ ZK (λk x hx hk=>?_) (by simp[mU,eQ])
  have hm:=W2 hx
  simp only[mU,cg hk,be,hx,eQ,h2 k x hm hk,wW,au]
  cases inR x.fB 0 2<;>cases eS (nbB m k x.bX) x.bX<;>rfl
 simp only[oO,hL,ol]
 cases inR (m.aR.length:Int) 1 6<;>cases eS (wW m) m.aR<;>rfl
open Go.Proofs
attribute [local simp] bA bb be
def Dw (d:aD) (s:ah):Bool:=(eqB d.c9.ID.du s.bC.ID.du&&(eqB d.c9.ID.bK s.bC.ID.bK&&true))&&eqB d.c9.eP s.bC.eP
def uw (n:ab) (i:Nat) (d:aD):Bool:=match n.aj[i]?,n.bi[i]? with
 |some s,some a=>jX d&&(it s&&(gX a&&(Dw d s&&(ef n.d8 d.bg&&(ef n.d8 s.bg&&(eqB s.bM.ax (i:Int)&&uR a s.bM))))))
 |_,_=>false
def flB (n:ab) (f:bD):Bool:=inR f.bv 0 ((n.an.length:Int)-1)&&ef n.d8 f.bg
def yw (n:ab):Bool:=inR n.cZ 0 (WR ((jY .i64 1 (n.d8.aR.length:Int))-1))&&(inR n.oZ 0 100000&&leB 0 n.kT)
def lC (n:ab):Bool:=ol n.d8&&(f4 n.cq&&(!eqB n.cq.dm 0&&(leB (n.an.length:Int) 4&&(eqB (n.aj.length:Int) (n.an.length:Int)&&(eqB (n.bi.length:Int) (n.an.length:Int)&&
 (eS (uw n) n.an&&(leB (n.aN.length:Int) 200&&(n.aN.all (flB n)&&yw n))))))))
theorem Mm {m:aM} {x:Int} {b:Int} (h:inR x 0 b=true):ef m x=ltB x (m.aR.length:Int):=by
 rw[bE] at h
 rw[YR];simp[ef,inR,leB,ltB];omega
theorem flt_i {n:ab} (h:gp n):iter (gP n) FU 0=some (n.aN.all (flB n)&&yw n):=by
 have hl:=h.2.2.2.2.1
 have:=fy (L:=gP n) n.aN (λ_ f=>flB n f) (some (yw n)) ZK (λk x hx hk=>by
  simp only[gP,cg hk,be,hx,bN (show k<9223372036854775807 by omega),kR,y8 h.2.1.1,KW h.1.1,flB,au]
  cases inR x.bv 0 ((n.an.length:Int)-1)<;>cases ef n.d8 x.bg<;>rfl) (by
  simp only[gP,bA,kR,yw,show leB 0 (n.d8.aR.length:Int)=true from by simp[leB],au]
  cases inR n.cZ 0 (WR ((jY .i64 1 (n.d8.aR.length:Int))-1))<;>cases inR n.oZ 0 100000<;>rfl)
 rw[this,qm]
 cases n.aN.all (flB n)<;>rfl
theorem flt_s {n:ab} (h:gp n):iter (gT n) FU 0=some (n.aN.all (flB n)&&yw n):=by
 have hl:=h.2.2.2.2.1
 have:=fy (L:=gT n) n.aN (λ_ f=>flB n f) (some (yw n)) ZK (λk x hx hk=>by
  simp only[gT,cg hk,be,hx,bN (show k<9223372036854775807 by omega),eQ,y8 h.2.1.1,y8 h.1.1,flB,ef,au]
  cases inR x.bv 0 ((n.an.length:Int)-1)<;>cases inR x.bg 0 ((n.d8.aR.length:Int)-1)<;>rfl) (by
  simp only[gT,bA,eQ,yw,show leB 0 (n.d8.aR.length:Int)=true from by simp[leB],au]
  cases inR n.cZ 0 (WR ((jY .i64 1 (n.d8.aR.length:Int))-1))<;>cases inR n.oZ 0 100000<;>rfl)
 rw[this,qm]
 cases n.aN.all (flB n)<;>rfl
section
variable {n:ab} (h:gp n) (e1:n.aj.length=n.an.length) (e2:n.bi.length=n.an.length)
include h e1 e2
omit h in
theorem at_i {k:Nat} (hk:k<n.an.length):∃s a,s∈n.aj/\a∈n.bi/\n.aj[k]?=some s/\n.bi[k]?=some a:=
 ⟨n.aj[k]'(by omega),n.bi[k]'(by omega),Y2 _,Y2 _,W0 _,W0 _⟩
theorem mem_i {k:Nat} {d:aD} (hd:n.an[k]?=some d):jc n (k:Int)=some (uw n k d):=by
 have hk:=(W1.1 hd).1
 obtain⟨s,a,s1,a1,s2,a2⟩:=at_i e1 e2 hk
 have od:=h.2.1.2 d (W2 hd)
 have os:=h.2.2.1.2 s s1
 have oa:=h.2.2.2.1.2 a a1
 simp only[jc,be,hd,s2,a2,Qd od.2.1 od.1.1,O8 os,FD oa,KW h.1.1,T0 oa,YO,uw,Dw]
 cases jX d<;>cases it s<;>cases gX a<;>try rfl
 cases(eqB d.c9.ID.du s.bC.ID.du&&(eqB d.c9.ID.bK s.bC.ID.bK&&true))<;>cases eqB d.c9.eP s.bC.eP<;>try rfl
 cases ef n.d8 d.bg<;>cases ef n.d8 s.bg<;>cases eqB s.bM.ax (k:Int)<;>rfl
theorem mem_s {k:Nat} {d:aD} (hd:n.an[k]?=some d):uM n (k:Int)=some (uw n k d):=by
 have hk:=(W1.1 hd).1
 obtain⟨s,a,s1,a1,s2,a2⟩:=at_i e1 e2 hk
 have od:=h.2.1.2 d (W2 hd)
 have os:=h.2.2.1.2 s s1
 have oa:=h.2.2.2.1.2 a a1
 simp only[uM,be,hd,s2,a2,Qe od.2.1 od.1.1,Bn os,w8 oa,Ht oa,YO,uw,Dw]
 cases hv:jX d
 .rfl
 cases hs:it s
 .rfl
 have c1:ef n.d8 d.bg=ltB d.bg (n.d8.aR.length:Int):=by
  simp only[jX,v0] at hv;exact Mm hv.2.2.1
 have c2:ef n.d8 s.bg=ltB s.bg (n.d8.aR.length:Int):=by
  simp only[it,v0] at hs;exact Mm hs.2.2.2.2.2.2.2.2.2.2.2.1
 rw[c1,c2]
 cases gX a<;>cases(eqB d.c9.ID.du s.bC.ID.du&&(eqB d.c9.ID.bK s.bC.ID.bK&&true))<;>cases eqB d.c9.eP s.bC.eP<;>try rfl
 cases ltB d.bg (n.d8.aR.length:Int)<;>cases ltB s.bg (n.d8.aR.length:Int)<;>cases eqB s.bM.ax (k:Int)<;>rfl
theorem VZ:iter (gO n) FU 0=some (eS (uw n) n.an&&(leB (n.aN.length:Int) 200&&(n.aN.all (flB n)&&yw n))):=by
 have hl:=h.2.1.1
 have:=fy (L:=gO n) n.an (uw n) (some (leB (n.aN.length:Int) 200&&(n.aN.all (flB n)&&yw n))) ZK (λk x hx hk=>by
  simp only[gO,cg hk,mem_i h e1 e2 hx,bN (show k<9223372036854775807 by omega),au]
  cases uw n k x<;>rfl) (by
  simp only[gO,bA,cond_false,flt_i h,u5 200]
  cases leB (n.aN.length:Int) 200<;>rfl)
 rw[this]
 cases eS (uw n) n.an<;>rfl
theorem V0:iter (gS n) FU 0=some (eS (uw n) n.an&&(n.aN.all (flB n)&&yw n)):=by
 have hl:=h.2.1.1
 have:=fy (L:=gS n) n.an (uw n) (some (n.aN.all (flB n)&&yw n)) ZK (λk x hx hk=>by
  simp only[gS,cg hk,mem_s h e1 e2 hx,bN (show k<9223372036854775807 by omega),au]
  cases uw n k x<;>rfl) (by simp only[gS,bA,cond_false,flt_s h])
 rw[this]
 cases eS (uw n) n.an<;>rfl
end
theorem xf {a b:Nat} (h:eqB (a:Int) (b:Int)=true):a=b:=by
 have:(a:Int)=b:=by simpa [eqB] using h
 omega
theorem F8 {n:ab} (h:gp n):jm n=some (lC n):=by
 simp only[jm,map_i h.1,HI,YO,lC,u5 4]
 cases ol n.d8<;>cases f4 n.cq<;>cases eqB n.cq.dm 0<;>cases leB (n.an.length:Int) 4<;>try rfl
 cases e1:eqB (n.aj.length:Int) (n.an.length:Int)<;>cases e2:eqB (n.bi.length:Int) (n.an.length:Int)<;>try rfl
 rw[VZ h (xf e1) (xf e2)];rfl
theorem F9 {n:ab} (h:gp n):jq n=some (lC n):=by
 simp only[jq,U5 h.1,Lw,YO,lC,u5 4,u5 200]
 cases ol n.d8<;>cases f4 n.cq<;>cases eqB n.cq.dm 0<;>cases leB (n.an.length:Int) 4<;>try rfl
 cases e1:eqB (n.aj.length:Int) (n.an.length:Int)<;>cases e2:eqB (n.bi.length:Int) (n.an.length:Int)<;>try rfl
 rw[V0 h (xf e1) (xf e2)]
 cases eS (uw n) n.an<;>cases leB (n.aN.length:Int) 200<;>rfl
attribute [local simp] bA be
theorem nQ {α:Type} {by_:Nat} {L:Int×List α->Option (cf (Int×List α) (List α))} (xs:List α) (hb:by_<=100000) (hl:xs.length<=1048576)
 (hs:∀(k:Nat) (x:α),xs[k]?=some x->k<xs.length->L ((k:Int),xs.take k)=bif dh by_ (xs.take k++[x]).length then some (.next (((k+1:Nat):Int),xs.take k++[x])) else none)
 (he:L ((xs.length:Nat),xs)=some (.done xs)):iter L FU (0,[])=some xs:=by
 have:=fr (step:=L) xs (λk (_:Unit)=>((k:Int),xs.take k)) (λ_ _=>some (.next ())) (λ_=>some xs) ZK
  (λk x _ hx hk=>by
   rw[hs k x hx hk,cN hb (by simp;omega)]
   have e:xs.take (k+1)=xs.take k++[x]:=by rw[YY,hx];rfl
   simp[e]) (λ_=>by rw[List.take_length,he];rfl) ()
 rw[Dk xs (λ_ _=>rfl)] at this
 exact this
theorem C5 {α:Type} (z:α) (xs:List α):cpL (Xa ((xs.length:Int)).toNat z) xs=xs:=by simp[cpL]
theorem iw {b n:Nat} (hb:b<=100000) (hn:n<=1048576):zQ b (n:Int) (n:Int)=true:=by
 have h:b*n<=100000*1048576:=Zm hb hn
 have h2:(b:Int)*(n:Int)<=104857600000:=by rw[<-Int.natCast_mul];omega
 simp only[zQ,decide_eq_true_eq];omega
theorem nR {α:Type} {f:α->Option α} {L:Int×List α->Option (cf (Int×List α) (List α))} (z:α) (xs:List α) (hl:xs.length<=1048576) (hf:∀x∈xs,f x=some x)
 (hs:∀(k:Nat) (v:List α),L ((k:Int),v)=bif ltB (k:Int) (xs.length:Int) then(YL (ix xs (k:Int)) λx=>YL (f x) λr=>YL (ix v (k:Int)) λ_=>some (.next (WR ((k:Int)+1),v.set ((k:Int)).toNat r))) else some (.done v)):
 iter L FU (0,Xa ((xs.length:Int)).toNat z)=some xs:=by
 have:=Ou (step:=L) id z xs ZK
  (λk x v hx hv=>by
   have hk:=(W1.1 hx).1
   rw[hs]
   simp[cg hk,hx,hf x (W2 hx),bN (show k<9223372036854775807 by omega),W0 (show k<v.length by omega)])
  (λv=>by rw[hs];simp)
 simpa using this
theorem okL.le {α:Type} {ok:α->Prop} {xs:List α} (h:okL ok xs):xs.length<=1048576:=h.1
theorem FH {xs:List bm} (h:okL nX xs):qP xs=some xs:=by
 rw[qP,nQ (by_:=24) (L:=oC xs) xs ZK h.1 (λk x hx hk=>by
  simp[oC,cg hk,hx,bN (show k<9223372036854775807 by have:=h.1;omega),cN (by_:=1) (n:=x.aS.length) ZK (by have:=(h.2 x (W2 hx)).1;omega)]) (by simp[oC])]
 rfl
theorem Kg {xs:List ae} (h:okL fx xs):tT xs=some xs:=by
 rw[tT,nQ (by_:=32) (L:=p7 xs) xs ZK h.1 (λk x hx hk=>by
  simp[p7,cg hk,hx,bN (show k<9223372036854775807 by have:=h.1;omega),cN (by_:=1) (n:=x.aS.length) ZK (by have:=(h.2 x (W2 hx)).1;omega)]) (by simp[p7])]
 rfl
theorem Ep {w:aX} (h:iy w):lV w=some w:=by rw[lV,Kg h];rfl
theorem RG {r:aK} (h:eG r):wM r=some r:=by rw[wM,Kg h.1,YO,FH h.2];rfl
theorem Wi {p:bk} (h:d4 p):tW p=some p:=by
 rw[tW,X2,cN ZK (by have:=h.1;omega)];rfl
theorem pt {s:ah} (h:ec s):ip s=some s:=by rw[ip,Wi h.1,YO,FH h.2.1,YO,Ep h.2.2];rfl
theorem zr {d:aD} (h:ge d):jy d=some d:=by rw[jy,RG h];rfl
theorem CM {a:am} (h:fE a):lA a=some a:=by
 rw[lA,X2,cN ZK (by have:=h.1;omega)];rfl
theorem Uo {x:aC} (h:mN x):Au x=some x:=by
 rw[Au,X2,cN ZK (by have:=h.1;omega)];rfl
theorem Jf {f:bD} (h:jF f):qV f=some f:=by rw[qV,Uo h];rfl
theorem map_c {m:aM} (h:fw m):oS m=some m:=by
 rw[oS,nQ (by_:=32) (L:=i8 m) m.aR ZK h.1 (λk x hx hk=>by
  simp[i8,cg hk,hx,bN (show k<9223372036854775807 by have:=h.1;omega),cN (by_:=8) (n:=x.bX.length) ZK (by have:=(h.2 x (W2 hx)).1;omega)]) (by simp[i8])]
 rfl
theorem U7 {n:ab} (h:gp n):wR n=some n:=by
 obtain⟨h1,h2,h3,h4,h5⟩:=h
 rw[wR,map_c h1,YO,
  nQ (by_:=144) (L:=sD n) n.an ZK h2.1 (λk x hx hk=>by simp[sD,cg hk,hx,bN (show k<9223372036854775807 by have:=h2.1;omega),zr (h2.2 x (W2 hx))]) (by simp[sD]),YO,
  nQ (by_:=288) (L:=sE n) n.aj ZK h3.1 (λk x hx hk=>by simp[sE,cg hk,hx,bN (show k<9223372036854775807 by have:=h3.1;omega),pt (h3.2 x (W2 hx))]) (by simp[sE]),YO,
  nQ (by_:=48) (L:=sF n) n.bi ZK h4.1 (λk x hx hk=>by simp[sF,cg hk,hx,bN (show k<9223372036854775807 by have:=h4.1;omega),CM (h4.2 x (W2 hx))]) (by simp[sF]),YO,
  nQ (by_:=176) (L:=sH n) n.aN ZK h5.1 (λk x hx hk=>by simp[sH,cg hk,hx,bN (show k<9223372036854775807 by have:=h5.1;omega),Jf (h5.2 x (W2 hx))]) (by simp[sH])]
 rfl
theorem QR {xs:List Int} (h:xs.length<=1048576):qa xs=some xs:=by rw[qa,iw ZK h,C5];rfl
theorem G4 {xs:List Int} (h:xs.length<=1048576):ke xs=some xs:=by rw[ke,iw ZK h,C5];rfl
theorem TU {xs:List aE} (h:xs.length<=1048576):fc xs=some xs:=by rw[fc,iw ZK h,C5];rfl
theorem DQ {xs:List bm} (h:okL nX xs):lk xs=some xs:=by
 rw[lk,iw ZK h.1,nR (f:=λx=>YL (ke x.aS) λr=>some (⟨r⟩:bm)) (L:=nP xs) (⟨[]⟩:bm) xs h.1 (λx hx=>by rw[G4 (h.2 x hx).1];rfl) (λk v=>by
  simp only[nP];cases ltB (k:Int) (xs.length:Int)<;>simp[Zi])]
 rfl
theorem DN {xs:List ae} (h:okL fx xs):lj xs=some xs:=by
 rw[lj,iw ZK h.1,nR (f:=λx=>YL (ke x.aS) λr=>some (⟨x.cV,r⟩:ae)) (L:=nO xs) fa xs h.1 (λx hx=>by rw[G4 (h.2 x hx).1];rfl) (λk v=>by
  simp only[nO];cases ltB (k:Int) (xs.length:Int)<;>simp[Zi])]
 rfl
theorem Up {r:aK} (h:eG r):ot r=some r:=by rw[ot,DN h.1,YO,DQ h.2];rfl
theorem Vw {d:aD} (h:ge d):rC d=some d:=by rw[rC,Up h];rfl
theorem Uk {p:bk} (h:d4 p):jP p=some p:=by rw[jP,QR h.1];rfl
theorem O4 {w:aX} (h:iy w):rE w=some w:=by rw[rE,DN h];rfl
theorem NG {s:ah} (h:ec s):mD s=some s:=by rw[mD,Uk h.1,YO,DQ h.2.1,YO,O4 h.2.2];rfl
theorem Vn {a:am} (h:fE a):pL a=some a:=by rw[pL,TU h.1];rfl
theorem LN {x:bw} (h:rL x):pM x=some x:=by rw[pM,G4 h.1];rfl
theorem Ry {x:aC} (h:mN x):um x=some x:=by rw[um,LN h];rfl
theorem Om {f:bD} (h:jF f):rD f=some f:=by rw[rD,Ry h];rfl
theorem VU {m:aM} (h:fw m):zG m=some m:=by
 rw[zG,iw ZK h.1,nR (f:=λx=>YL (qa x.bX) λr=>some (⟨x.fB,r⟩:eH)) (L:=vL m) Mb m.aR h.1 (λx hx=>by rw[QR (h.2 x hx).1];rfl) (λk v=>by
  simp only[vL];cases ltB (k:Int) (m.aR.length:Int)<;>simp[Zi])]
 rfl
theorem V5 {n:ab} (h:gp n):mC n=some n:=by
 obtain⟨h1,h2,h3,h4,h5⟩:=h
 rw[mC,VU h1,YO,eT,iw ZK h2.1,nR (L:=ga n.an) _ _ h2.1 (λx hx=>Vw (h2.2 x hx)) (λk v=>rfl),cond_true,YO,YO,
  eL,iw ZK h3.1,nR (L:=fJ n.aj) _ _ h3.1 (λx hx=>NG (h3.2 x hx)) (λk v=>rfl),cond_true,YO,YO,
  eK,iw ZK h4.1,nR (L:=fH n.bi) _ _ h4.1 (λx hx=>Vn (h4.2 x hx)) (λk v=>rfl),cond_true,YO,YO,
  eU,iw ZK h5.1,nR (L:=gb n.aN) _ _ h5.1 (λx hx=>Om (h5.2 x hx)) (λk v=>rfl),cond_true,YO,YO]
open Go.Proofs
attribute [local simp] bA bb be
theorem Jo (n a b:Int):ct n a b=some (inR n a b):=by unfold ct inR;cases leB a n<;>rfl
theorem Kk (n a b:Int):cO n a b=some (inR n a b):=by unfold cO inR;cases leB a n<;>rfl
theorem GE (x m:Int):(YN x m)%m=x%m:=by
 have h:=Int.mul_tdiv_add_tmod x m
 have h2:x%m=(m*x.tdiv m+x.tmod m)%m:=by rw[h]
 rw[h2,Int.mul_add_emod_self_left]
theorem KD {m:Int} (x:Int) (hm:0<m): -m<YN x m/\YN x m<m:=⟨Int.lt_tmod_of_pos x hm,Int.tmod_lt_of_pos x hm⟩
theorem T2 {r m:Int} (h1: -m<r) (h2:r<0):r%m=r+m:=by
 rw[<-Zw r m,Zx ZK ZK]
theorem TT (x:Int) {m:Int} (h1:1<=m) (h2:m<=1000000000000):TS x m=some (x%m):=by
 obtain⟨a,b⟩:=KD x (show 0<m by omega)
 have hr:inR m 1 1000000000000=true:=bE.2 ⟨h1,h2⟩
 have hz:(!eqB m 0)=true:=by simp[eqB];omega
 simp only[TS,Jo,hr,hz,au]
 rw[<-GE x m]
 by_cases h:YN x m<0
 .rw[show ltB (YN x m) 0=true from lt0_t h,T2 a h]
  simp only[au]
  rw[bL ZK]
 rw[show ltB (YN x m) 0=false from lt0_f ZK,Zx ZK b]
 simp only[au]
theorem xr (x:Int) {m:Int} (h1:1<=m) (h2:m<=1000000000000):Fp x m=some (x%m):=by
 obtain⟨a,b⟩:=KD x (show 0<m by omega)
 have hr:inR m 1 1000000000000=true:=bE.2 ⟨h1,h2⟩
 have hz:(!eqB m 0)=true:=by simp[eqB];omega
 simp only[Fp,Kk,hr,hz,au]
 rw[bL ZK,YV ZK,Zw,GE]
abbrev hM:Int:=2147483647
def zC (v x:Int):Int:=(v*1000003+x%hM+13)%hM
theorem oH (v x:Int):0<=zC v x/\zC v x<hM:=⟨Zl _ (by decide),Zh _ (by decide)⟩
theorem Rz {v x:Int} (h0:0<=v) (h1:v<hM):YN (WR (WR (WR (v*1000003)+x%hM)+13)) hM=zC v x:=by
 have a:=Zl x (show hM≠0 by decide)
 have b:=Zh x (show 0<hM by decide)
 unfold hM at*
 rw[bL (n:=v*1000003) ZK,bL (n:=v*1000003+x%2147483647) ZK,bL (n:=v*1000003+x%2147483647+13) ZK,YV ZK]
 rfl
theorem uo {v x:Int} (h0:0<=v) (h1:v<hM):kA v x=some (zC v x):=by
 rw[kA,TT x ZK ZK]
 simp only[YO]
 rw[Rz h0 h1]
def Dp (v:Int) (xs:List Int):Int:=xs.foldl zC v
theorem Jn {v:Int} (h0:0<=v) (h1:v<hM):∀(xs:List Int),0<=Dp v xs/\Dp v xs<hM
 |[]=>⟨h0,h1⟩
 |x::xs=>Jn (oH v x).1 (oH v x).2 xs
theorem Jg:∀(xs:List Int) (v:Int),0<=v->v<hM->jK (λ(s x:Int)=>some (cf.next (ρ:=Int) (YN (WR (WR (WR (s*1000003)+x%hM)+13)) hM))) some xs v=some (Dp v xs)
 |[],v,_,_=>rfl
 |x::xs,v,h0,h1=>by
  rw[jK,Rz h0 h1]
  exact Jg xs _ (oH v x).1 (oH v x).2
theorem RX {xs:List Int} (hl:xs.length<=1048576):NB xs=some (Dp 11 xs):=by
 have:=fr (step:=wm xs) xs (λk (s:Int)=>(s,(k:Int))) (λs x=>some (cf.next (YN (WR (WR (WR (s*1000003)+x%hM)+13)) hM))) some ZK
  (λk x s hx hk=>by
   simp only[wm,cg hk,be,hx,xr x (m:=2147483647) ZK ZK,bN (show k<9223372036854775807 by omega),au];rfl) (λs=>by simp[wm]) 11
 rw[NB,show iter (wm xs) FU (11,0)=_ from this,Jg xs 11 (by decide) (by decide)]
 rfl
theorem F4:∀(xs:List Int) (v:Int),0<=v->v<hM->jK (λ(s x:Int)=>YL (kA s x) λr=>some (cf.next (ρ:=Int) r)) some xs v=some (Dp v xs)
 |[],v,_,_=>rfl
 |x::xs,v,h0,h1=>by
  rw[jK,uo h0 h1]
  exact F4 xs _ (oH v x).1 (oH v x).2
def ez (k:Int) (xs:List Int):Int:=zC (Dp (zC 11 k) xs) k
theorem oJ (k:Int) (xs:List Int):0<=ez k xs/\ez k xs<hM:=oH _ _
theorem E4 {xs:List Int} (hl:xs.length<=1048576) (k:Int):ui k xs=some (ez k xs):=by
 have:=fr (step:=li xs) xs (λk (s:Int)=>(s,(k:Int))) (λs x=>YL (kA s x) λr=>some (cf.next r)) some ZK
  (λk x s hx hk=>by
   simp only[li,cg hk,be,hx,bN (show k<9223372036854775807 by omega),au]
   cases kA s x<;>rfl) (λs=>by simp[li]) (zC 11 k)
 rw[ui,uo (by decide) (by decide)]
 simp only[YO]
 have h2:=oH 11 k
 rw[show iter (li xs) FU (zC 11 k,0)=_ from this,F4 xs _ h2.1 h2.2]
 have h3:=Jn h2.1 h2.2 xs
 simp only[YO]
 rw[uo h3.1 h3.2]
 rfl
theorem dW {xs:List Int} (hl:xs.length<=100000) (k:Int):eA k xs=some (ez k xs):=by
 have a1:dh 8 ([k]++xs).length=true:=cN ZK (by simp;omega)
 have a2:dh 8 (([k]++xs)++[k]).length=true:=cN ZK (by simp;omega)
 rw[eA,a1,a2]
 simp only[cond_true]
 rw[RX (by simp;omega)]
 simp[Dp,ez]
open Go.Proofs
attribute [local simp] bA bb be
def dk (k x:Int):Int:=if ez k [9,x]=0 then 1 else ez k [9,x]
theorem s6 (k x:Int):n8 k x=some (dk k x):=by
 have:=(oJ k [9,x]).1
 rw[n8,dW (by simp)]
 simp only[YO,dk,D9]
 by_cases h:ez k [9,x]=0
 .rw[h,show ltB 1 0=false from ltB_f.2 ZK];simp
 by_cases h1:ez k [9,x]=1
 .rw[h1];simp
 rw[show ltB 1 (ez k [9,x])=true from ltB_t.2 ZK];simp[h]
def MU (k:Int) (xs:List Int):Int:=xs.foldl dk k
theorem F5:∀(xs:List Int) (v:Int),jK (λ(s x:Int)=>some (cf.next (ρ:=Int) (dk s x))) some xs v=some (MU v xs)
 |[],v=>rfl
 |x::xs,v=>by rw[jK];exact F5 xs _
theorem wr {p:jk} (hl:p.Steps.length<=1048576) (k:Int):oP k p=some (MU k p.Steps):=by
 have:=fr (step:=kr p) p.Steps (λj (s:Int)=>(s,(j:Int))) (λs x=>some (cf.next (dk s x))) some ZK
  (λj x s hx hj=>by simp[kr,cg hj,hx,bN (show j<9223372036854775807 by omega),s6]) (λs=>by simp[kr]) k
 rw[oP,show iter (kr p) FU (k,0)=_ from this,F5]
 rfl
def LB (k e:Int):Int:=MU k [1,3,e]
theorem uE (k e:Int):qg k e=some (LB k e):=by
 rw[qg,s9]
 simp only[YO]
 rw[wr (by simp)];rfl
def okB (xs:List Int):Prop:=∀x∈xs,ux x
theorem PD {x:Int} (h:ux x):WR x=x:=bL (by simp only[ux] at h;omega)
theorem FK:∀(xs acc:List Int),okB xs->acc.length+xs.length<=100000->jK (λ(s:List Int) (x:Int)=>bif dh 8 (s++[WR x]).length then some (cf.next (ρ:=List Int) (s++[WR x])) else none) some xs acc=some (acc++xs)
 |[],acc,_,_=>by simp[jK]
 |x::xs,acc,h,hl=>by
  simp only[W8] at hl
  rw[jK,show dh 8 (acc++[WR x]).length=true from gx (by simp;omega) (by simp;omega),PD (h x (.head _))]
  simp only[cond_true]
  rw[FK xs (acc++[x]) (λy hy=>h y (.tail _ hy)) (by simp;omega)]
  simp
theorem Gr {xs:List Int} (hb:okB xs) (hl:xs.length<=50000):pT xs=some ((xs.length:Int)::xs):=by
 have:=fr (step:=jo xs) xs (λj (s:List Int)=>((j:Int),s)) (λ(s:List Int) (x:Int)=>bif dh 8 (s++[WR x]).length then some (cf.next (ρ:=List Int) (s++[WR x])) else none) some ZK
  (λj x s hx hj=>by
   simp only[jo,cg hj,be,hx,bN (show j<9223372036854775807 by omega),au]
   cases dh 8 (s++[WR x]).length<;>rfl) (λs=>by simp[jo]) [(xs.length:Int)]
 rw[pT,show iter (jo xs) FU (0,[(xs.length:Int)])=_ from this,FK xs _ hb (by simp;omega)]
 rfl
def Im (m:bw):Bool:=inR m.di 0 1&&(inR m.fP 1 100000&&(leB (m.aS.length:Int) 60&&inR m.iZ 0 2147483646))
theorem qK (m:bw):js m=some (Im m):=by
 simp only[js,Kk,YO,Im]
 cases inR m.di 0 1<;>cases inR m.fP 1 100000<;>cases leB (m.aS.length:Int) 60<;>rfl
def mac (k:Int) (m:bw):Int:=ez k ([m.di,m.fP]++((m.aS.length:Int)::m.aS))
theorem yi {m:bw} (hb:okB m.aS) (hl:m.aS.length<=50000) (k:Int):qO k m=some (eqB m.iZ (mac k m)):=by
 rw[qO,Bt,Gr hb hl]
 simp only[YO]
 rw[show dh 8 ([m.di,m.fP]++((m.aS.length:Int)::m.aS)).length=true from gx (by simp;omega) (by simp;omega),dW (by simp;omega)]
 rfl
theorem KF {m:bw} (h:Im m=true):m.aS.length<=60:=by
 simp only[Im,v0] at h
 have:=xN h.2.2.1
 omega
def wX (k:Int) (p:aC):Bool:=Im p.bp&&(eqB p.bp.di 1&&eqB p.bp.iZ (mac (LB k p.a9) p.bp))
theorem vc {p:aC} (hb:okB p.bp.aS) (k:Int):nu k p=some (wX k p):=by
 rw[nu,qK]
 simp only[YO,wX,uE]
 cases hv:Im p.bp
 .rfl
 rw[yi hb (X6 (KF hv) ZK)]
 cases eqB p.bp.di 1<;>rfl
def d1 (k:Int) (i:Nat) (x:Int):Int:=(x-ez k [(i:Int)]%256)%256
def AP (k:Int) (xs:List Int):List Int:=xs.mapIdx (λi x=>d1 k i x)
theorem I7 (k:Int) (xs:List Int):(AP k xs).length=xs.length:=by simp[AP]
theorem TB (k:Int) (xs:List Int):okB (AP k xs):=by
 intro x hx
 obtain⟨i,hi⟩:=Xe hx
 simp only[AP,Y6] at hi
 cases h:xs[i]? with
 |none=>rw[h] at hi;cases hi
 |some y=>
  rw[h] at hi;simp at hi;subst hi
  simp only[ux,d1]
  omega
theorem Ta (n:Int):IntKind.u8.wrap n=n%256:=by rw[IntKind.wrap_u8]
theorem J6 {xs:List Int} (hb:okB xs) (hl:xs.length<=50000) (k:Int):z7 k xs=some (AP k xs):=by
 have goal:Wp (iter (wk k xs) FU (0,[])) (λr=>r=AP k xs):=by
  refine Wp.iterF (λs=>∃i:Nat,i<=xs.length/\s.1=(i:Int)/\s.2=(AP k xs).take i) (λs=>((xs.length:Int)-s.1).toNat) ⟨0,by omega,rfl,rfl⟩ (by simp;omega) ?_
  rintro⟨v2,v3⟩ ⟨i,hi,rfl,rfl⟩
  simp only[wk]
  refine Wp.cond (λhlt=>?_) (λhlt=>?_)
  .have hlt:=mK hlt
   have hil:i<xs.length:=by omega
   refine Wp.ix ZK ZK λx hx hxi=>?_
   simp only[YQ] at hxi
   have hx8:=hb x hx
   have hr:=oJ k [(i:Int)]
   have e1:YN (ez k [(i:Int)]) 256=ez k [(i:Int)]%256:=YV hr.1
   have hb8:0<=ez k [(i:Int)]%256/\ez k [(i:Int)]%256<256:=by omega
   simp only[ux] at hx8
   refine Wp.eq (dW (by simp) _) (Wp.eq (xr _ ZK ZK) ?_)
   have hlen:((AP k xs).take i).length=i:=by rw[Yg,I7];omega
   rw[e1,PD (hb x hx),bL ZK,Ta]
   have e4:(x-ez k [(i:Int)]%256)%256%256=d1 k i x:=by rw[d1];omega
   rw[e4]
   refine Wp.ok (gx (by simp only[Xp,hlen,W8,YS];omega) (by simp only[Xp,hlen,W8,YS];omega)) (Wp.some ?_)
   have e3:WR ((i:Int)+1)=((i+1:Nat):Int):=by rw[bL ZK];rfl
   rw[e3]
   have hxd:(AP k xs)[i]?=some (d1 k i x):=by simp only[AP,Y6,hxi,Y4]
   refine⟨⟨i+1,by omega,rfl,by rw[YY,hxd];rfl⟩,?_⟩
   simp only;omega
  have hlt:=s4 hlt
  refine Wp.some ?_
  rw[Y9 (by rw[I7];omega)]
 obtain⟨r,h1,h2⟩:=goal.ex
 rw[z7,h1,h2];rfl
attribute [local simp] bA bb be
def e1 (k:Int) (i:Nat) (x:Int):Int:=(x+ez k [(i:Int)]%256)%256
def vE (k:Int) (xs:List Int):List Int:=xs.mapIdx (λi x=>e1 k i x)
@[simp] theorem encL_len (k:Int) (xs:List Int):(vE k xs).length=xs.length:=by simp[vE]
theorem Mx (k:Int) (xs:List Int):okB (vE k xs):=by
 intro x hx
 obtain⟨i,hi⟩:=Xe hx
 simp only[vE,Y6] at hi
 cases h:xs[i]? with
 |none=>rw[h] at hi;cases hi
 |some y=>rw[h] at hi;simp at hi;subst hi;simp only[ux,e1];omega
theorem TC {xs:List Int} (h:okB xs) (k:Int):AP k (vE k xs)=xs:=by
 apply Y3
 intro i
 simp only[AP,vE,Y6,Option.map_map]
 cases hx:xs[i]? with
 |none=>rfl
 |some x=>
  have:=h x (W2 hx)
  simp only[ux] at this
  simp only[Y4,Function.comp,d1,e1,Option.some.injEq]
  omega
theorem J7 {xs:List Int} (hb:okB xs) (hl:xs.length<=50000) (k:Int):z8 k xs=some (vE k xs):=by
 have goal:Wp (iter (wl k xs) FU (0,[])) (λr=>r=vE k xs):=by
  refine Wp.iterF (λs=>∃i:Nat,i<=xs.length/\s.1=(i:Int)/\s.2=(vE k xs).take i) (λs=>((xs.length:Int)-s.1).toNat) ⟨0,by omega,rfl,rfl⟩ (by simp;omega) ?_
  rintro⟨v2,v3⟩ ⟨i,hi,rfl,rfl⟩
  simp only[wl]
  refine Wp.cond (λhlt=>?_) (λhlt=>?_)
  .have hlt:=mK hlt
   have hil:i<xs.length:=by omega
   refine Wp.ix ZK ZK λx hx hxi=>?_
   simp only[YQ] at hxi
   have hx8:=hb x hx
   have hr:=oJ k [(i:Int)]
   have t1:YN (ez k [(i:Int)]) 256=ez k [(i:Int)]%256:=YV hr.1
   have hb8:0<=ez k [(i:Int)]%256/\ez k [(i:Int)]%256<256:=by omega
   simp only[ux] at hx8
   refine Wp.eq (dW (by simp) _) ?_
   have hlen:((vE k xs).take i).length=i:=by rw[Yg,encL_len];omega
   rw[t1,PD (hb x hx),bL ZK,YV ZK,Ta]
   have t4:(x+ez k [(i:Int)]%256)%256%256=e1 k i x:=by rw[e1];omega
   rw[t4]
   refine Wp.ok (gx (by simp only[Xp,hlen,W8,YS];omega) (by simp only[Xp,hlen,W8,YS];omega)) (Wp.some ?_)
   have t3:WR ((i:Int)+1)=((i+1:Nat):Int):=by rw[bL ZK];rfl
   rw[t3]
   have hxd:(vE k xs)[i]?=some (e1 k i x):=by simp only[vE,Y6,hxi,Y4]
   refine⟨⟨i+1,by omega,rfl,by rw[YY,hxd];rfl⟩,?_⟩
   simp only;omega
  have hlt:=s4 hlt
  refine Wp.some ?_
  rw[Y9 (by rw[encL_len];omega)]
 obtain⟨r,h1,h2⟩:=goal.ex
 rw[z8,h1,h2];rfl
theorem QZ {m:bw} (hb:okB m.aS) (hl:m.aS.length<=50000) (k:Int):Bt k m=some (mac k m):=by
 rw[Bt,Gr hb hl]
 simp only[YO]
 rw[show dh 8 ([m.di,m.fP]++((m.aS.length:Int)::m.aS)).length=true from gx (by simp;omega) (by simp;omega),dW (by simp;omega)]
 rfl
def Em (k c:Int) (b:List Int):bw:=⟨1,c,vE (dk k (2*c+1)) b,mac k ⟨1,c,vE (dk k (2*c+1)) b,0⟩⟩
def iV (root g e:Int) (x:ae):aC:=⟨g,e,Em (LB root e) x.cV x.aS⟩
theorem LL {x:ae} (h0:0<=x.cV) (h1:x.cV<=1000000) (hb:okB x.aS) (hl:x.aS.length<=50000) (root g e:Int):qL root g e x=some (iV root g e x):=by
 simp only[qL,uE,Ed,YO,bL (n:=2*x.cV) ZK,bL (n:=2*x.cV+1) ZK,s6,J7 hb hl,QZ (m:=⟨1,x.cV,vE _ x.aS,0⟩) (Mx _ _) (by simpa using hl)]
 rfl
theorem hM_le (k:Int) (xs:List Int):inR (ez k xs) 0 2147483646=true:=by have:=oJ k xs;rw[bE];unfold hM at this;omega
theorem UA {c:Int} {b:List Int} (h0:1<=c) (h1:c<=100000) (hl:b.length<=60) (k:Int):Im (Em k c b)=true:=by
 simp only[Im,Em,encL_len,mac];rw[hM_le];simp[inR,leB];omega
theorem Wu {x:ae} (h0:1<=x.cV) (h1:x.cV<=100000) (hl:x.aS.length<=60) (root g e:Int):wX root (iV root g e x)=true:=by
 simp only[wX,iV,UA h0 h1 hl];simp[Em,mac,eqB]
def tC (root g e:Int) (x:aC):ae×Bool:=
 if x.ag=g/\x.a9=e/\wX root x=true then(⟨x.bp.fP,AP (dk (LB root e) (2*x.bp.fP+1)) x.bp.aS⟩,true) else(fa,false)
theorem OQ {p:aC} (hb:okB p.bp.aS) (k g e:Int):True/\uD k g e p=some (tC k g e p):=by
 simp only[uD,vc hb,uE,YO,tC]
 cases hg:eqB p.ag g
 .rw[if_neg (λh=>I9 hg h.1)];exact⟨by first|rfl|trivial,by first|rfl|trivial⟩
 cases he:eqB p.a9 e
 .rw[if_neg (λh=>I9 he h.2.1)];exact⟨by first|rfl|trivial,by first|rfl|trivial⟩
 cases hv:wX k p
 .rw[if_neg (λh=>by cases h.2.2)];exact⟨by first|rfl|trivial,by first|rfl|trivial⟩
 have he:=pH he
 rw[if_pos ⟨pH hg,he,rfl⟩]
 simp only[wX,v0] at hv
 obtain⟨h1,h2,h3⟩:=hv
 have hlen:=KF h1
 have hd:=pH h2
 have hm:=pH h3
 have hcnt:1<=p.bp.fP/\p.bp.fP<=100000:=by
  simp only[Im,v0] at h1
  exact bE.1 h1.2.1
 rw[he] at hm
 have ek:eqB p.bp.iZ (mac (LB k e) p.bp)=true:=by rw[hm];simp
 simp only[yQ,qK,yi hb (show p.bp.aS.length<=50000 by omega),s6,J6 hb (show p.bp.aS.length<=50000 by omega),h1,h2,ek,show leB p.bp.fP 0=false from leB_f.2 ZK,hd,bL (n:=2*p.bp.fP) ZK,bL (n:=2*p.bp.fP+1) ZK,au]
 refine⟨?_,?_⟩<;>first|trivial|rfl|(rw[bb];rfl)
theorem OR {x:ae} (h0:1<=x.cV) (h1:x.cV<=100000) (hb:okB x.aS) (hl:x.aS.length<=60) (root g e:Int):tC root g e (iV root g e x)=(x,true):=by
 rw[tC,if_pos ⟨rfl,rfl,Wu h0 h1 hl _ _ _⟩]
 simp[iV,Em,TC hb]
def Se (root:Int) (m:aH):Int:=ez (MU root [1,2]) [23,m.aV,m.bg,m.ag,m.a9,m.bK]
def wH (root:Int) (m:aH):aH:={m with iZ:=Se root m}
def wY (root:Int) (m:aH):Bool:=eqB m.iZ (Se root m)
theorem Sf (root:Int) (m:aH):qN root m=some (Se root m):=by simp[qN,nn,wr,dW,Se]
theorem Bo (root:Int) (m:aH):i7 root m=some (wH root m):=by simp[i7,Sf,wH]
theorem In (root:Int) (m:aH):gF root m=some (wY root m):=by simp[gF,Sf,wY]
@[simp] theorem vSig_sign (root:Int) (m:aH):wY root (wH root m)=true:=by simp[wY,wH,Se,eqB]
def mM (m:aH):Bool:=inR m.aV 1 8&&(inR m.bg 0 5&&(inR m.ag 0 999999&&(inR m.a9 0 999999&&inR m.bK 0 1000000000000)))
theorem Nk (m:aH):kq m=some (mM m):=by
 simp only[kq,eQ,YO,mM]
 cases inR m.aV 1 8<;>cases inR m.bg 0 5<;>cases inR m.ag 0 999999<;>cases inR m.a9 0 999999<;>rfl
def msk (k r:Int):Int:=ez k [1,r]%1000000
theorem Lh (k r:Int):0<=msk k r/\msk k r<1000000:=by unfold msk;omega
theorem U6 (k r:Int):lr k r=some (msk k r):=by simp[lr,dW,xr,msk]
def unm (k r a:Int):Int:=(a%1000000-msk k r)%1000000
theorem SD (k r a:Int):0<=unm k r a/\unm k r a<=999999:=by unfold unm;omega
theorem Vh (k r a:Int):jv k r a=some (unm k r a):=by
 have:=Lh k r
 simp only[jv,xr _ (show(1:Int)<=1000000 by omega) ZK,U6,YO,unm];rw[bL ZK]
def Lg (x:Int):Int:=if x=0 then 1 else x
def vec (k r q:Int):cX:=bif inR q 0 999999 then⟨r,(q+msk k r)%1000000,ez k [2,r,q],ez k [3,r],Lg (ez k [4,r,q])⟩ else cz
theorem T1 (k:Int) (xs:List Int):1<=Lg (ez k xs)/\Lg (ez k xs)<=2147483646:=by have:=oJ k xs;unfold hM Lg at*;split<;>omega
theorem NW (k r q:Int):gV k r q=some (vec k r q):=by
 simp only[gV,eQ,YO,vec]
 cases hq:inR q 0 999999
 .rfl
 rw[bE] at hq
 have h1:=Lh k r
 have h2:=oJ k [4,r,q]
 simp only[U6,xr _ (show(1:Int)<=1000000 by omega) ZK,dW (show [2,r,q].length<=100000 by simp),dW (show [3,r].length<=100000 by simp),dW (show [4,r,q].length<=100000 by simp),D9,au]
 rw[bL ZK]
 by_cases h:ez k [4,r,q]=0
 .rw[show ltB 1 (ez k [4,r,q])=false from ltB_f.2 ZK];simp[Lg,h]
 by_cases h':ez k [4,r,q]=1
 .rw[h'];simp[ltB,Lg]
 rw[show ltB 1 (ez k [4,r,q])=true from ltB_t.2 ZK];simp[Lg,h]
theorem NO {k r q:Int} (h0:0<=q) (h1:q<=999999):unm k r ((q+msk k r)%1000000)=q:=by have:=Lh k r;unfold unm;omega
def kS (k last:Int) (v:cX):Int:=
 if v.iZ≠ez k [2,v.fj,unm k v.fj v.hO] then 1 else if unm k v.fj v.hO<=last then 2 else if last<unm k v.fj v.hO-1000 then 3 else 0
theorem NU (k last:Int) (v:cX):lx k last v=some (kS k last v):=by
 have hu:=SD k v.fj v.hO
 simp only[lx,Vh,dW (show [2,v.fj,unm k v.fj v.hO].length<=100000 by simp),YO,kS]
 rw[bL ZK]
 by_cases h1:v.iZ=ez k [2,v.fj,unm k v.fj v.hO]
 .rw[show eqB v.iZ (ez k [2,v.fj,unm k v.fj v.hO])=true from eqB_t.2 h1]
  simp only[ne_eq,h1,not_true_eq_false,if_false,au]
  by_cases h2:unm k v.fj v.hO<=last
  .rw[show leB (unm k v.fj v.hO) last=true from leB_t.2 h2,if_pos h2];rfl
  rw[show leB (unm k v.fj v.hO) last=false from leB_f.2 ZK,if_neg h2]
  by_cases h3:last<unm k v.fj v.hO-1000
  .rw[show ltB last (unm k v.fj v.hO-1000)=true from ltB_t.2 h3,if_pos h3];rfl
  rw[show ltB last (unm k v.fj v.hO-1000)=false from ltB_f.2 ZK,if_neg h3];rfl
 rw[show eqB v.iZ (ez k [2,v.fj,unm k v.fj v.hO])=false from eqB_f.2 h1]
 simp[h1]
theorem Po {k r q:Int} (h0:0<=q) (h1:q<=999999) (last:Int):kS k last (vec k r q)=if q<=last then 2 else if last<q-1000 then 3 else 0:=by
 have hq:inR q 0 999999=true:=bE.2 ⟨h0,h1⟩
 simp only[vec,hq,cond_true,kS,NO h0 h1,ne_eq,not_true_eq_false,if_false]
def IP (id:dx) (q:Int):Int:=ez 29 [id.du,id.bK,q]
theorem PW (id:dx) (q:Int):km id q=some (IP id q):=by simp[km,dW,IP]
attribute [local simp] bA bb be
theorem Kv {α:Type} (p:α->Bool):∀(xs:List α) (i:Nat),i<(xs.takeWhile p).length->∃x,xs[i]?=some x/\p x=true
 |[],i,h=>by simp at h
 |x::xs,i,h=>by
  rw[Y1] at h
  cases hp:p x<;>rw[hp] at h
  .simp at h
  cases i with
  |zero=>exact⟨x,rfl,hp⟩
  |succ i=>exact Kv p xs i (by simpa using h)
theorem Kt {α:Type} (p:α->Bool):∀(xs:List α) (x:α),xs[(xs.takeWhile p).length]?=some x->p x=false
 |[],x,h=>by simp at h
 |y::xs,x,h=>by
  rw[Y1] at h
  cases hp:p y<;>rw[hp] at h
  .simp at h;subst h;exact hp
  exact Kt p xs x (by simpa using h)
theorem Ku {α:Type} (p:α->Bool) (xs:List α):(xs.takeWhile p).length<=xs.length:=(List.takeWhile_prefix p).length_le
theorem EK {α:Type} (p:α->Bool):∀xs:List α,xs.take (xs.takeWhile p).length=xs.takeWhile p
 |[]=>rfl
 |x::xs=>by
  rw[Y1]
  cases p x
  .rfl
  simp[EK p xs]
theorem EJ {α:Type} (p:α->Bool):∀xs:List α,xs.drop (xs.takeWhile p).length=xs.dropWhile p
 |[]=>rfl
 |x::xs=>by
  rw[Y1,Zu]
  cases p x
  .rfl
  simp[EJ p xs]
theorem EQ {α:Type} {L:Int->Option (cf Int Int)} (xs:List α) (p:α->Bool) (hl:xs.length<=1048576)
 (h1:∀(k:Nat) (x:α),xs[k]?=some x->L k=bif p x then some (.next (WR ((k:Int)+1))) else some (.done k)) (h0:L xs.length=some (.done xs.length)):iter L FU 0=some (((xs.takeWhile p).length:Nat):Int):=by
 have hle:=Ku p xs
 have:Wp (iter L FU 0) (λr=>r=(((xs.takeWhile p).length:Nat):Int)):=by
  refine Wp.iterF (λs=>∃i:Nat,s=(i:Int)/\i<=(xs.takeWhile p).length) (λs=>((xs.length:Int)-s).toNat) ⟨0,rfl,by omega⟩ ZK ?_
  rintro _ ⟨i,rfl,hi⟩
  by_cases e:i<(xs.takeWhile p).length
  .obtain⟨x,hx,hp⟩:=Kv p xs i e
   rw[h1 i x hx,hp]
   exact⟨⟨i+1,by rw[bL ZK];rfl,by omega⟩,by simp only[bL (show-9223372036854775808<=(i:Int)+1/\(i:Int)+1<=9223372036854775807 by omega)];omega⟩
  have e:i=(xs.takeWhile p).length:=by omega
  by_cases hn:i<xs.length
  .obtain⟨x,hx⟩:∃x,xs[i]?=some x:=⟨_,W0 hn⟩
   rw[h1 i x hx,Kt p xs x (by rw[<-e];exact hx)]
   subst e;rfl
  have:i=xs.length:=by omega
  subst this
  rw[h0]
  show(xs.length:Int)=_
  omega
 obtain⟨r,hr,rfl⟩:=this.ex
 exact hr
def before (q:Int) (x:ae):Bool:=ltB x.cV q
def pN (x:ae) (xs:List ae):List ae:=xs.takeWhile (before x.cV)++[x]++xs.dropWhile (before x.cV)
def qs:List ae->Int->List bm->aK
 |[],n,dl=>⟨n,[],dl⟩
 |x::xs,n,dl=>if x.cV=n/\dl.length<24 then qs xs (n+1) (dl++[⟨x.aS⟩]) else⟨n,x::xs,dl⟩
def B9 (r:aK) (x:ae):Bool:=!pC r||(ltB 60 (x.aS.length:Int)||(!inR x.cV r.bz (r.bz+7)||(r.aF.any (λy=>eqB y.cV x.cV)||leB 24 (r.aQ.length:Int))))
def oV (r:aK) (x:ae):aK:=
 bif B9 r x then r else
  let o:=qs (pN x r.aF) r.bz r.aQ
  bif leB 24 (o.aQ.length:Int) then {o with aF:=[]} else o
theorem FQ:∀(xs:List ae) (n:Int) (dl:List bm),dl.length<=24->(qs xs n dl).aQ.length<=24
 |[],n,dl,h=>h
 |x::xs,n,dl,h=>by
  rw[qs];split
  .exact FQ xs _ _ (by simp;omega)
  exact h
theorem FT {L:aK->Option (cf aK aK)}
 (hL:∀v:aK,v.aF.length<=1000->v.aQ.length<=24->0<=v.bz->v.bz<=2000000->L v=match v.aF with
  |[]=>some (.done v)
  |x::xs=>if x.cV=v.bz/\v.aQ.length<24 then some (.next ⟨v.bz+1,xs,v.aQ++[⟨x.aS⟩]⟩) else some (.done v)):
 ∀(xs:List ae) (n:Int) (dl:List bm) (fu:Nat),xs.length<=1000->dl.length<=24->0<=n->n+xs.length<=2000000->xs.length<fu->iter L fu ⟨n,xs,dl⟩=some (qs xs n dl)
 |[],n,dl,fu,h1,h2,h3,h4,h5=>by
  cases fu with
  |zero=>omega
  |succ fu=>rw[iter,hL _ h1 h2 h3 (by simpa using h4)];rfl
 |x::xs,n,dl,fu,h1,h2,h3,h4,h5=>by
  simp only[W8] at h1 h4 h5
  cases fu with
  |zero=>omega
  |succ fu=>
   rw[iter,hL ⟨n,x::xs,dl⟩ (by simpa using h1) h2 h3 (by simp only;omega),qs]
   simp only
   by_cases e:x.cV=n/\dl.length<24
   .rw[if_pos e,if_pos e]
    exact FT hL xs (n+1) _ fu ZK (by simp;omega) ZK ZK ZK
   rw[if_neg e,if_neg e]
theorem Qw {xs:List ae} (h:xs.length<=1048576) (q:Int):∃r,Eu xs q=some r/\leB 0 r=xs.any (λy=>eqB y.cV q):=by
 refine⟨_,tm (L:=sB xs q) xs (λy=>eqB y.cV q) ZK (λk x hx hk=>?_) ?_,?_⟩
 .simp[sB,cg hk,hx];cases eqB x.cV q<;>simp[bN (show k<9223372036854775807 by omega)]
 .simp[sB]
 rcases A1 (λy:ae=>eqB y.cV q) xs 0 with⟨e,ha⟩|⟨j,e,x,hx,hp,_⟩
 .rw[show((0:Nat):Int)=0 from rfl] at e
  rw[e,show xs.any (λy=>eqB y.cV q)=false from by rw[Yd];intro y hy;simp[ha y hy]];simp[leB]
 rw[show((0:Nat):Int)=0 from rfl] at e
 rw[e,show xs.any (λy=>eqB y.cV q)=true from List.any_eq_true.2 ⟨x,W2 hx,hp⟩,leB_t];omega
theorem xF {r:aK} (h:pC r=true):r.bz=(r.aQ.length:Int)+1/\r.aQ.length<=24/\r.aF.length<=8:=by
 simp only[pC,v0] at h
 obtain⟨h1,h2,h3,h4,h5⟩:=h
 have h2:=xN h2
 have h4:=xN h4
 have h1:=pH h1
 rw[bL ZK] at h1
 omega
theorem tv (x:ae) (xs:List ae):(pN x xs).length=xs.length+1:=by
 have:(xs.takeWhile (before x.cV)).length+(xs.dropWhile (before x.cV)).length=xs.length:=by rw[<-Xp,Zc]
 simp[pN];omega
theorem L2_i:∀v:aK,v.aF.length<=1000->v.aQ.length<=24->0<=v.bz->v.bz<=2000000->mw v=match v.aF with
 |[]=>some (.done v)
 |x::xs=>if x.cV=v.bz/\v.aQ.length<24 then some (.next ⟨v.bz+1,xs,v.aQ++[⟨x.aS⟩]⟩) else some (.done v):=by
 rintro⟨n,p,dl⟩ h1 h2 h3 h4
 cases p with
 |nil=>simp[mw]
 |cons x xs=>
  simp only[W8] at h1 h2
  have i0:ix (x::xs) 0=some x:=by simp[ix,leB]
  have hlt:ltB 0 (((x::xs).length:Nat):Int)=true:=ltB_t.2 (by simp only[W8];omega)
  simp only[mw,i0,hlt,au]
  by_cases e:x.cV=n
  .by_cases e2:dl.length<24
   .rw[if_pos ⟨e,e2⟩,eqB_t.2 e,show ltB (dl.length:Int) 24=true from ltB_t.2 ZK]
    have a1:dh 24 (dl++[(⟨x.aS⟩:bm)]).length=true:=cN ZK (by simp;omega)
    have a2:gK (x::xs) 1 (((x::xs).length:Nat):Int)=true:=by simp[gK];omega
    simp only[a1,a2,bL (n:=n+1) (by simp only at h3 h4;omega),au]
    rfl
   rw[if_neg (λh=>e2 h.2),eqB_t.2 e,show ltB (dl.length:Int) 24=false from ltB_f.2 ZK];rfl
  rw[if_neg (λh=>e h.1),eqB_f.2 e];rfl
theorem L2_s:∀v:aK,v.aF.length<=1000->v.aQ.length<=24->0<=v.bz->v.bz<=2000000->sb v=match v.aF with
 |[]=>some (.done v)
 |x::xs=>if x.cV=v.bz/\v.aQ.length<24 then some (.next ⟨v.bz+1,xs,v.aQ++[⟨x.aS⟩]⟩) else some (.done v):=L2_i
theorem FL {α:Type} (b:Bool) (x y:α):(bif b then some x else some y)=some (bif b then x else y):=by cases b<;>rfl
theorem TW (a b c d e:Bool):(bif !a then some true else bif b then some true else bif !c then some true else bif d then some true else some e)=some (!a||(b||(!c||(d||e)))):=by cases a<;>cases b<;>cases c<;>cases d<;>rfl
theorem WE {r:aK} (h:eG r) {x:ae}:ni r x=some (oV r x):=by
 obtain⟨q,hq,hq2⟩:=Qw h.1.1 x.cV
 have hw:pC r=true->inR x.cV r.bz (WR (WR (r.bz+8)-1))=inR x.cV r.bz (r.bz+7):=λhv=>by
  have:=xF hv
  rw[bL (n:=r.bz+8) ZK,bL ZK,show r.bz+8-1=r.bz+7 by omega]
 have hl:(bif !pC r then some true else(bif ltB 60 (x.aS.length:Int) then some true else(bif !(inR x.cV r.bz (WR (WR (r.bz+8)-1))) then some true else(bif leB 0 q then some true else some (leB 24 (r.aQ.length:Int))))))=some (B9 r x):=by
  rw[hq2,TW]
  cases hv:pC r
  .simp[B9,hv]
  rw[hw hv];simp[B9,hv]
 simp only[ni,RG h,RH h.2.1 h.1.1,eQ,hq,YO,hl]
 rw[oV]
 cases hlt:B9 r x
 .simp only[B9,Xi,YX] at hlt
  obtain⟨l1,l2,l3,l4,l5⟩:=hlt
  have hv:=xF l1
  have l2:=s4 l2
  have l5:=zK l5
  have hw2:=Ku (before x.cV) r.aF
  have hrun:=EQ (L:=jW x r) r.aF (before x.cV) ZK (λk y hy=>by
   have hk:=(W1.1 hy).1
   simp[jW,cg hk,hy,before]) (by simp[jW])
  have hxs:([]:List ae)++r.aF.take ((((r.aF.takeWhile (before x.cV)).length:Nat):Int)).toNat++[(⟨x.cV,[]++x.aS⟩:ae)]++r.aF.drop ((((r.aF.takeWhile (before x.cV)).length:Nat):Int)).toNat=pN x r.aF:=by
   simp[EK,EJ,pN]
  have a1:gK r.aF 0 (((r.aF.takeWhile (before x.cV)).length:Nat):Int)=true:=by simp[gK];omega
  have a2:gK r.aF (((r.aF.takeWhile (before x.cV)).length:Nat):Int) (r.aF.length:Int)=true:=by simp[gK];omega
  have a3:dh 1 (([]:List Int)++x.aS).length=true:=cN ZK (by simp;omega)
  have a4:dh 32 (([]:List ae)++r.aF.take ((((r.aF.takeWhile (before x.cV)).length:Nat):Int)).toNat).length=true:=cN ZK (by simp;omega)
  have a5:dh 32 (([]:List ae)++r.aF.take ((((r.aF.takeWhile (before x.cV)).length:Nat):Int)).toNat++[(⟨x.cV,[]++x.aS⟩:ae)]).length=true:=cN ZK (by simp;omega)
  simp only[hrun,a1,a2,a3,a4,a5,au]
  rw[hxs,cN ZK (show(pN x r.aF).length<=1048577 by rw[tv];omega),FT L2_s (pN x r.aF) r.bz r.aQ FU (by rw[tv];omega) ZK ZK (by rw[tv];omega) (by have:=i9;rw[tv];omega)]
  have hd:=FQ (pN x r.aF) r.bz r.aQ ZK
  simp only[FL,au]
  rw[show eqB (((qs (pN x r.aF) r.bz r.aQ).aQ.length:Nat):Int) 24=leB 24 (((qs (pN x r.aF) r.bz r.aQ).aQ.length:Nat):Int) from by rw[YR];simp[eqB,leB];omega]
  cases leB 24 (((qs (pN x r.aF) r.bz r.aQ).aQ.length:Nat):Int)<;>rfl
 rfl
attribute [local simp] bA bb be
def zm (d:aD):aH:=wH d.aO ⟨5,d.bg,d.ag,d.a9,0,cz,0⟩
def xc (d:aD):aH:={d6 with aV:=1,bg:=d.bg}
def tk (d:aD):bh:=
 bif ltB 0 d.f5 then⟨{d with f5:=d.f5-1},[]⟩ else bif eqB d.bu 1 then⟨{d with f5:=3},[xc d]⟩ else bif eqB d.bu 2&&!d.de then⟨{d with f5:=3},[zm d]⟩ else⟨d,[]⟩
def dOn (d:aD):bh:=bif eqB d.bu 0 then⟨{d with bu:=1,f5:=3},[xc d]⟩ else⟨d,[]⟩
def yu (d:aD):bh:=⟨{d with de:=false,f5:=3},[zm d]⟩
def uV (d:aD) (c:Int):bh:=
 bif eqB c d.bg||!inR c 0 5 then⟨d,[]⟩ else bif eqB d.bu 2&&ltB d.a9 999999 then yu {d with bg:=c,a9:=d.a9+1} else⟨{d with bg:=c},[]⟩
def IW (d:aD) (m:aH):bh:=
 bif eqB (kS d.c9.eP d.c9.dM m.bP) 0 then
  ⟨{d with c9:={d.c9 with dM:=unm d.c9.eP m.bP.fj m.bP.hO},ag:=m.ag,aO:=(vec d.c9.eP m.bP.fj (unm d.c9.eP m.bP.fj m.bP.hO)).eP},
   [⟨3,d.bg,m.ag,0,ez d.c9.eP [3,m.bP.fj],cz,0⟩]⟩
 else⟨d,[]⟩
def Da (d:aD) (m:aH):bh:=
 bif !mM m||(!eqB m.bg d.bg||eqB d.bu 0) then⟨d,[]⟩ else
 bif eqB m.aV 2&&eqB d.bu 1 then IW d m else
 bif eqB m.aV 4&&(eqB d.bu 1&&(mc d.aO&&(eqB m.ag d.ag&&wY d.aO m))) then⟨{d with bu:=2,a9:=m.a9,de:=true},[]⟩ else
 bif eqB m.aV 6&&(eqB d.bu 2&&(eqB m.ag d.ag&&(eqB m.a9 d.a9&&wY d.aO m))) then⟨{d with de:=true},[]⟩ else
 bif eqB m.aV 7&&(eqB d.bu 3&&ltB d.a9 999999) then yu {d with bu:=2,a9:=d.a9+1} else
 bif eqB m.aV 7&&eqB d.bu 2 then yu d else⟨d,[]⟩
def dAck (d:aD) (r:aK):aH:=wH d.aO ⟨8,d.bg,d.ag,d.a9,r.bz,cz,0⟩
def C9 (d:aD) (x:aC):bh:=
 let o:=tC d.aO d.ag d.a9 x
 bif eqB d.bu 2&&o.2 then⟨{d with bI:=oV d.bI o.1},[dAck d (oV d.bI o.1)]⟩ else⟨d,[]⟩
def vB (d:aD):aD:=bif eqB d.bu 2 then {d with bu:=3} else d
theorem HF {d:aD} (h:ge d):qR d=some ⟨d,[]⟩:=by simp[qR,zr h]
theorem Lv (d:aD):tU d=some (zm d):=by simp[tU,Bo,zm]
theorem WG {d:aD} (h:ge d) (hw:d.f5<=3):sm d=some (tk d):=by
 simp only[sm,zr h,YO,qQ,lB,Lv,tk]
 cases hb:ltB 0 d.f5
 .cases eqB d.bu 1<;>cases eqB d.bu 2<;>cases hp:d.de<;>rfl
 have:=mK hb
 rw[bL ZK];rfl
theorem on_s {d:aD} (h:ge d):wv d=some (dOn d):=by
 simp only[wv,HF h,zr h,YO,qQ,lB,dOn]
 cases eqB d.bu 0<;>rfl
theorem Rf {d:aD} (he:0<=d.a9/\d.a9<=999999):wN d=some (yu {d with a9:=d.a9+1}):=by
 simp only[wN,Lv,YO,lB]
 rw[bL ZK];rfl
theorem V1 {d:aD} (h:ge d) (he:0<=d.a9/\d.a9<=999999) (c:Int):rX d c=some (uV d c):=by
 simp only[rX,HF h,zr h,YO,eQ,Rf (d:={d with bg:=c}) he,uV]
 cases eqB c d.bg<;>cases inR c 0 5<;>cases eqB d.bu 2<;>cases ltB d.a9 999999<;>rfl
theorem tok_s (k r last:Int):∃t,pZ k r last=some t:=by
 simp only[pZ,eQ,YO,dW (show [5,r,last].length<=100000 by simp),xr _ (show(1:Int)<=1000 by omega) ZK]
 cases inR last 0 999999<;>exact⟨_,rfl⟩
theorem ask_s {d:aD} (h:ge d) (hc:vg d.c9=true) (m:aH):xv d m=some (IW d m):=by
 obtain⟨t,ht⟩:=tok_s d.c9.eP m.bP.fj d.c9.dM
 simp only[xv,kZ,SH,hc,NU,Vh,NW,dW (show [3,m.bP.fj].length<=100000 by simp),ht,zr h,IW,au]
 cases h0:eqB (kS d.c9.eP d.c9.dM m.bP) 0
 .cases h2:eqB (kS d.c9.eP d.c9.dM m.bP) 2<;>cases h3:eqB (kS d.c9.eP d.c9.dM m.bP) 3<;>simp[h0]
 simp[iY]
theorem sig_s {d:aD} (h:ge d) (hc:vg d.c9=true) (he:0<=d.a9/\d.a9<=999999) (m:aH):nj d m=some (Da d m):=by
 simp only[nj,Nk,HF h,zr h,ask_s h hc,Ju,In,Rf (d:={d with bu:=2}) he,Lv,lB,YO,Da]
 cases mM m<;>cases eqB m.bg d.bg<;>cases eqB d.bu 0<;>try rfl
 simp only[YZ,au]
 cases eqB m.aV 2<;>cases eqB d.bu 1<;>try rfl
 all_goals cases eqB m.aV 4<;>cases mc d.aO<;>cases eqB m.ag d.ag<;>cases wY d.aO m<;>cases eqB m.aV 6<;>cases eqB d.bu 2<;>cases eqB m.a9 d.a9<;>cases eqB m.aV 7<;>cases eqB d.bu 3<;>cases ltB d.a9 999999<;>rfl
def U8 (x:aC):Prop:=okB x.bp.aS
theorem rad_s {d:aD} (h:ge d) {x:aC} (hx:U8 x):oA d x=some (C9 d x):=by
 simp only[oA,(OQ hx _ _ _).2,HF h,zr h,WE h,Bo,YO,C9]
 cases eqB d.bu 2<;>cases(tC d.aO d.ag d.a9 x).2<;>rfl
theorem Ss {r:aK} (h:eG r) (x:ae):eG (oV r x):=by
 rw[oV]
 cases hlt:B9 r x
 .simp only[B9,Xi,YX] at hlt
  obtain⟨l1,l2,l3,l4,l5⟩:=hlt
  have hv:=xF l1
  have l2:=s4 l2
  have hi:okL fx (pN x r.aF):=by
   refine⟨by rw[tv];omega,λy hy=>?_⟩
   simp only[pN,W3,X7] at hy
   rcases hy with(hy|hy)|hy
   .exact h.1.2 y (Zt _ hy)
   .subst hy;exact⟨by omega,λ_ _=>trivial⟩
   exact h.1.2 y (Zd _ hy)
  have hd:∀(xs:List ae) (n:Int) (dl:List bm),okL fx xs->(∀p∈dl,nX p)->dl.length<=24->eG (qs xs n dl):=by
   intro xs
   induction xs with
   |nil=>exact λn dl h1 h2 h3=>⟨h1,by show dl.length<=1048576;omega,h2⟩
   |cons y ys ih=>
    intro n dl h1 h2 h3
    rw[qs];split
    .exact ih _ _ ⟨by have:=h1.1;simp at this;omega,λz hz=>h1.2 z (by simp[hz])⟩ (λp hp=>by
      rcases W3.1 hp with hp|hp
      .exact h2 p hp
      simp at hp;subst hp;exact h1.2 y (by simp)) (by simp;omega)
    exact⟨h1,by show dl.length<=1048576;omega,h2⟩
  have:=hd _ r.bz r.aQ hi h.2.2 ZK
  simp only[cond_false]
  cases leB 24 (((qs (pN x r.aF) r.bz r.aQ).aQ.length:Nat):Int)
  .exact this
  exact⟨⟨by simp,by simp⟩,this.2⟩
 exact h
theorem VH {d:aD} (h:ge d):uB d=some (vB d):=by
 simp only[uB,zr h,YO,vB];cases eqB d.bu 2<;>rfl
attribute [local simp] bA bb be
theorem ML {α:Type} (p:α->Bool) (x:α) (d:List α) (hx:p x=true):∀(t:List α) (i:Nat),(∀y∈t,p y=false)->nK p (i:Int) (t++x::d)=((i+t.length:Nat):Int)
 |[],i,_=>by simp[nK,hx]
 |y::t,i,h=>by
  rw[Xw,nK,h y (by simp),cond_false]
  have:=ML p x d hx t (i+1) (λz hz=>h z (by simp[hz]))
  rw[show((i+1:Nat):Int)=(i:Int)+1 by omega] at this
  rw[this];simp;omega
theorem MM {α:Type} (p:α->Bool):∀(t:List α) (i:Int),(∀y∈t,p y=false)->nK p i t= -1
 |[],i,_=>rfl
 |y::t,i,h=>by rw[nK,h y (by simp),cond_false];exact MM p t _ λz hz=>h z (by simp[hz])
def GU:List aE->Int->Int->List aE
 |[],i,n=>[⟨i,n⟩]
 |x::xs,i,n=>if x.ax<i then x::GU xs i n else if x.ax=i then⟨i,x.dV+n⟩::xs else⟨i,n⟩::x::xs
def Od:List aE->Int->Int->List aE
 |[],i,n=>[]
 |x::xs,i,n=>if x.ax=i then(if n<x.dV then⟨i,x.dV-n⟩::xs else xs) else x::Od xs i n
def uQ (h:List aE):Int:=(h.map aE.dV).sum
structure qi (a:am):Prop where
 t:0<=a.eJ/\a.eJ<=100000
 v:0<=a.bQ/\a.bQ<=a.eJ
 s:0<=a.er/\a.er<=a.eJ
 l:a.aq.length<=8
 r:∀x∈a.aq,0<=x.ax/\1<=x.dV/\x.dV<=100000
 o:a.aq.Pairwise λx y=>x.ax<y.ax
 e:a.bQ+a.er+uQ a.aq=a.eJ
theorem Gc {α:Type} {key:α->Int}:∀{xs:List α},(∀(k:Nat) (x y:α),xs[k]?=some x->xs[k+1]?=some y->key x<key y)->xs.Pairwise λx y=>key x<key y
 |[],_=>.nil
 |[x],_=>by simp
 |x::y::xs,h=>by
  have ih:=Gc (xs:=y::xs) (key:=key) λk a b h1 h2=>h (k+1) a b (by simpa using h1) (by simpa using h2)
  have hxy:=h 0 x y rfl rfl
  refine List.Pairwise.cons (λz hz=>?_) ih
  rcases W5.1 hz with e|hz
  .subst e;exact hxy
  exact Int.lt_trans hxy (Zs ih hz)
theorem FF {α:Type} {key:α->Int} {xs:List α} (h:∀(k:Nat) (x:α),xs[k]?=some x->iQ key xs k x=true):xs.Pairwise λx y=>key x<key y:=by
 refine Gc λk x y h1 h2=>?_
 have:=h (k+1) y h2
 simp only[iQ,h1,Xo] at this
 exact leB_f.1 this
theorem CA {α:Type} {key:α->Int} {xs:List α} (h:xs.Pairwise λx y=>key x<key y) {k:Nat} {x:α} (hx:xs[k]?=some x):iQ key xs k x=true:=by
 cases k with
 |zero=>rfl
 |succ k=>
  have hl:=(W1.1 hx).1
  simp only[iQ,W0 (show k<xs.length by omega),Xo]
  rw[leB_f]
  have:=List.pairwise_iff_getElem.1 h k (k+1) ZK hl ZK
  rwa [(W1.1 hx).2] at this
theorem U2:∀(h:List aE) (s:Int),(∀x∈h,0<=x.dV/\x.dV<=100000)->0<=s->s+100000*h.length<=9000000000000->h.foldl (λs x=>WR (s+x.dV)) s=s+uQ h
 |[],s,_,_,_=>by simp[uQ]
 |x::h,s,hx,h0,h1=>by
  have hh:=hx x (by simp)
  simp only[W8] at h1
  rw[Y8,bL ZK,U2 h _ (λy hy=>hx y (by simp[hy])) ZK ZK]
  simp[uQ];omega
theorem NN {a:am} (l:a.aq.length<=8) (r:∀x∈a.aq,0<=x.ax/\1<=x.dV/\x.dV<=100000):Pn a=uQ a.aq:=by
 rw[Pn,U2 _ _ (λx hx=>by have:=r x hx;omega) ZK ZK];omega
theorem sP:∀{h:List aE},(∀x∈h,0<=x.ax/\1<=x.dV/\x.dV<=100000)->0<=uQ h/\uQ h<=100000*h.length/\∀x∈h,x.dV<=uQ h
 |[],_=>by simp[uQ]
 |x::h,r=>by
  have ih:=sP (h:=h) λy hy=>r y (by simp[hy])
  have hx:=r x (by simp)
  have e:uQ (x::h)=x.dV+uQ h:=by simp[uQ]
  rw[e]
  refine⟨by omega,by simp only[W8];omega,λy hy=>?_⟩
  rcases W5.1 hy with e|hy
  .subst e;omega
  have:=ih.2.2 y hy;omega
theorem Co {a:am}:gX a=true↔qi a:=by
 constructor
 .intro h
  simp only[gX,v0,bE,ee] at h
  obtain⟨h1,h2,h3,h4,h5,h6⟩:=h
  have h4:=xN h4
  have r:∀x∈a.aq,0<=x.ax/\1<=x.dV/\x.dV<=100000:=λx hx=>by
   obtain⟨k,hk⟩:=Xe hx
   have:=h5 k x hk
   simp only[Cd,v0,Xo,bE] at this
   have h0:=s4 this.1
   omega
  have hs:=sP r
  refine⟨h1,h2,h3,by omega,r,FF λk x hk=>?_,?_⟩
  .have:=h5 k x hk
   simp only[Cd,v0] at this
   exact this.2.2
  have h6:=pH h6
  rw[NN ZK r,bL (n:=a.bQ+a.er) ZK,bL ZK] at h6
  exact h6
 rintro⟨h1,h2,h3,h4,r,h5,h6⟩
 have hs:=sP r
 simp only[gX,v0,bE,ee]
 refine⟨h1,h2,h3,leB_t.2 ZK,λk x hk=>?_,eqB_t.2 ?_⟩
 .have hx:=r x (W2 hk)
  simp only[Cd,v0,Xo,bE]
  exact⟨ltB_f.2 ZK,by omega,CA h5 hk⟩
 rw[NN ZK r,bL (n:=a.bQ+a.er) ZK,bL ZK]
 exact h6
theorem qi.ok {a:am} (h:qi a):fE a:=⟨by have:=h.l;omega,λ_ _=>trivial⟩
theorem Oe {h:List aE} (o:h.Pairwise λx y=>x.ax<y.ax) (i:Int):
 (∃t m d,h=t++⟨i,m⟩::d/\(∀x∈t,x.ax<i)/\∀x∈d,i<x.ax)\/(∃t d,h=t++d/\(∀x∈t,x.ax<i)/\∀x∈d,i<x.ax):=by
 induction h with
 |nil=>exact .inr ⟨[],[],rfl,by simp,by simp⟩
 |cons x h ih=>
  have hx:=λy hy=>Zs o (a':=y) hy
  by_cases h1:x.ax<i
  .rcases ih (YT.1 o).2 with⟨t,m,d,e,h2,h3⟩|⟨t,d,e,h2,h3⟩
   .exact .inl ⟨x::t,m,d,by rw[e];rfl,λy hy=>by rcases W5.1 hy with e|hy;(subst e;exact h1);exact h2 y hy,h3⟩
   exact .inr ⟨x::t,d,by rw[e];rfl,λy hy=>by rcases W5.1 hy with e|hy;(subst e;exact h1);exact h2 y hy,h3⟩
  by_cases h2:x.ax=i
  .exact .inl ⟨[],x.dV,h,by rw[<-h2];rfl,by simp,λy hy=>by have:=hx y hy;omega⟩
  refine .inr ⟨[],x::h,rfl,by simp,λy hy=>?_⟩
  rcases W5.1 hy with e|hy
  .subst e;omega
  have:=hx y hy;omega
theorem Mi {t d:List aE} {i m n:Int} (h:∀x∈t,x.ax<i):GU (t++⟨i,m⟩::d) i n=t++⟨i,m+n⟩::d:=by
 induction t with
 |nil=>simp[GU]
 |cons x t ih=>rw[Xw,GU,if_pos (h x (by simp)),ih λy hy=>h y (by simp[hy])];rfl
theorem Mj {t d:List aE} {i n:Int} (h:∀x∈t,x.ax<i) (h2:∀x∈d,i<x.ax):GU (t++d) i n=t++⟨i,n⟩::d:=by
 induction t with
 |nil=>cases d with
  |nil=>rfl
  |cons y d=>have:=h2 y (by simp);rw[X2,GU,if_neg ZK,if_neg ZK];rfl
 |cons x t ih=>rw[Xw,GU,if_pos (h x (by simp)),ih λy hy=>h y (by simp[hy])];rfl
theorem Mo {t d:List aE} {i m n:Int} (h:∀x∈t,x.ax<i):Od (t++⟨i,m⟩::d) i n=t++(if n<m then⟨i,m-n⟩::d else d):=by
 induction t with
 |nil=>simp[Od]
 |cons x t ih=>rw[Xw,Od,if_neg (by have:=h x (by simp);omega),ih λy hy=>h y (by simp[hy])];rfl
theorem n0 {a:am} {t d:List aE} {i m:Int} (e:a.aq=t++⟨i,m⟩::d) (h:∀x∈t,x.ax<i):iR a i=m:=by
 rw[iR,e,List.find?_append,show t.find? (λx=>eqB x.ax i)=none from by rw[Zg];intro x hx;have:=h x hx;simp[eqB];omega]
 simp[eqB]
theorem tG {a:am} {i:Int} (h:∀x∈a.aq,x.ax≠i):iR a i=0:=by
 rw[iR,show a.aq.find? (λx=>eqB x.ax i)=none from by rw[Zg];intro x hx;have:=h x hx;simp[eqB];omega]
theorem Vf {t d:List aE} {i:Int} (h:∀x∈t,x.ax<i) (h2:∀x∈d,i<=x.ax):((t++d).takeWhile λx=>ltB x.ax i)=t:=by
 rw[List.takeWhile_append_of_pos (λx hx=>ltB_t.2 (h x hx))]
 cases d with
 |nil=>simp
 |cons y d=>rw[Y1,show ltB y.ax i=false from ltB_f.2 (h2 y (by simp))];simp
theorem MA {L:Int->Option (cf Int Int)} {a:am} {i:Int} (ok:qi a) (hL:∀v1,L v1=bif ltB v1 (a.aq.length:Int) then(YL (ix a.aq v1) λx2=>bif eqB x2.ax i then(dn (some v1)) else(some (.next (WR (v1+1))))) else(dn (some (-1)))):
 iter L FU 0=some (nK (λx=>eqB x.ax i) 0 a.aq):=by
 have:=ok.l
 exact tm (L:=L) a.aq (λx=>eqB x.ax i) ZK (λk x hx hk=>by
  simp only[hL,cg hk,be,hx,bN (show k<9223372036854775807 by omega),au]
  cases eqB x.ax i<;>rfl) (by simp[hL,dn])
theorem LT {a:am} (ok:qi a) {i n:Int} (h0:0<=n/\n<=100000):CC a.aq i n=some (GU a.aq i n):=by
 have hl:=ok.l
 have hrun:=EQ (L:=uH a.aq i) a.aq (λx=>ltB x.ax i) ZK (λk x hx=>by
  have hk:=(W1.1 hx).1
  simp[uH,cg hk,hx]) (by simp[uH])
 rw[CC,hrun]
 rcases Oe ok.o i with⟨t,m,d,e,h1,h2⟩|⟨t,d,e,h1,h2⟩
 .have hm:m<=100000/\1<=m:=by have:=ok.r ⟨i,m⟩ (by rw[e];simp);simp only at this;omega
  have htl:t.length+1<=8:=by have:=congrArg Zb e;simp at this;omega
  rw[e,Vf h1 (λx hx=>by rcases W5.1 hx with e|hx;(subst e;simp);have:=h2 x hx;omega),Mi h1]
  have hx:(t++(⟨i,m⟩:aE)::d)[t.length]?=some ⟨i,m⟩:=by simp
  have a1:dh 16 (t++(⟨i,m⟩:aE)::d).length=true:=cN ZK (by rw[<-e];omega)
  simp only[cg (show t.length<(t++(⟨i,m⟩:aE)::d).length by simp),be,hx,X2,a1,bb,YQ,bL (n:=m+n) ZK,au]
  simp
 have htl:t.length<=8/\d.length<=8:=by have:=congrArg Zb e;simp at this;omega
 rw[e,Vf h1 (λx hx=>by have:=h2 x hx;omega),Mj h1 h2]
 have hc:(bif ltB (t.length:Int) (((t++d).length:Nat):Int) then(YL (ix (t++d) (t.length:Int)) λx8=>some (eqB x8.ax i)) else some false)=some false:=by
  cases d with
  |nil=>simp
  |cons y d=>
   have:=h2 y (by simp)
   rw[cg (show t.length<(t++y::d).length by simp),be,show(t++y::d)[t.length]?=some y by simp,YO,eqB_f.2 (show y.ax≠i by omega)];rfl
 have a1:gK (t++d) 0 (t.length:Int)=true:=by simp[gK];omega
 have a2:gK (t++d) (t.length:Int) (((t++d).length:Nat):Int)=true:=by simp[gK];omega
 have a3:dh 16 t.length=true:=cN ZK ZK
 have a4:dh 16 (t++[(⟨i,n⟩:aE)]).length=true:=cN ZK (by simp;omega)
 have a5:dh 16 (t++[(⟨i,n⟩:aE)]++d).length=true:=cN ZK (by simp;omega)
 simp only[hc,a1,a2,X2,YQ,Zq,Zy,a3,a4,a5,au]
 simp
theorem QL {t d:List aE} {i m:Int} (h1:∀x∈t,x.ax<i):nK (λx=>eqB x.ax i) 0 (t++(⟨i,m⟩:aE)::d)=(t.length:Int):=by
 have:=ML (λx:aE=>eqB x.ax i) ⟨i,m⟩ d (by simp) t 0 (λy hy=>eqB_f.2 (by have:=h1 y hy;omega))
 simpa using this
theorem VI {t d:List aE} {i:Int} (h1:∀x∈t,x.ax<i) (h2:∀x∈d,i<x.ax):nK (λx=>eqB x.ax i) 0 (t++d)= -1:=
 MM _ _ _ λy hy=>eqB_f.2 (by rcases W3.1 hy with hy|hy;(have:=h1 y hy;omega);have:=h2 y hy;omega)
theorem LU {a:am} (ok:qi a) {t d:List aE} {i m n:Int} (e:a.aq=t++⟨i,m⟩::d) (h1:∀x∈t,x.ax<i) (hn:0<=n/\n<=m):CD a.aq (t.length:Int) n=some (Od a.aq i n):=by
 have hl:=ok.l
 have hm:m<=100000/\1<=m:=by have:=ok.r ⟨i,m⟩ (by rw[e];simp);simp only at this;omega
 have htl:t.length+1+d.length<=8:=by have:=congrArg Zb e;simp at this;omega
 rw[e,Mo h1]
 have hx:(t++(⟨i,m⟩:aE)::d)[t.length]?=some ⟨i,m⟩:=by simp
 have a1:dh 16 (t++(⟨i,m⟩:aE)::d).length=true:=cN ZK (by rw[<-e];omega)
 simp only[CD,X2,a1,be,hx,YQ,au]
 by_cases hb:n<m
 .rw[ltB_t.2 hb,if_pos hb]
  simp only[cond_true,bL (n:=m-n) ZK]
  simp
 rw[ltB_f.2 ZK,if_neg hb]
 have a2:gK (t++(⟨i,m⟩:aE)::d) 0 (t.length:Int)=true:=by simp[gK];omega
 have a3:gK (t++(⟨i,m⟩:aE)::d) ((t.length+1:Nat):Int) (((t++(⟨i,m⟩:aE)::d).length:Nat):Int)=true:=by simp[gK];omega
 have e2:(t++(⟨i,m⟩:aE)::d).drop (t.length+1)=d:=by rw[<-List.drop_drop,Zy];rfl
 have a4:dh 16 (t++d).length=true:=cN ZK (by simp;omega)
 simp only[a2,bN (show t.length<9223372036854775807 by omega),a3,YQ,e2,Zq,a4,au]
def full (a:am) (i:Int):Bool:=leB 8 (a.aq.length:Int)&&!a.aq.any λx=>eqB x.ax i
def qD (x y:Int):Int:=if y<x then y else x
def jS (a:am) (i n:Int):am×Int:=
 bif ltB i 0||(!inR n 1 100000||(eqB a.bQ 0||full a i)) then(a,0) else({a with bQ:=a.bQ-qD n a.bQ,aq:=GU a.aq i (qD n a.bQ)},qD n a.bQ)
def zo (a:am) (i n:Int):am:=bif ltB 0 n then {a with er:=a.er+n,aq:=Od a.aq i n} else a
theorem M7 (x y:Int):yK x y=some (qD x y):=by
 rw[yK,qD];by_cases h:y<x
 .rw[ltB_t.2 h,if_pos h];rfl
 rw[ltB_f.2 ZK,if_neg h];rfl
def Fc (x y:Int):Int:=if x<y then y else x
theorem M5 (x y:Int):D9 x y=some (Fc x y):=by
 rw[D9,Fc];by_cases h:x<y
 .rw[ltB_t.2 h,if_pos h];rfl
 rw[ltB_f.2 ZK,if_neg h];rfl
theorem any_A {t d:List aE} {i m:Int}:((t++(⟨i,m⟩:aE)::d).any λx=>eqB x.ax i)=true:=by simp
theorem UW {t d:List aE} {i:Int} (h1:∀x∈t,x.ax<i) (h2:∀x∈d,i<x.ax):((t++d).any λx=>eqB x.ax i)=false:=by
 rw[Yd];intro y hy
 rcases W3.1 hy with hy|hy
 .have:=h1 y hy;simp[eqB];omega
 have:=h2 y hy;simp[eqB];omega
theorem O0 {a:am} (ok:qi a) (i n:Int):Ac a i n=some (jS a i n):=by
 have hv:=Co.2 ok
 have hd:=ok.v
 have ht:=ok.t
 have hfind:oT a i=some (nK (λx=>eqB x.ax i) 0 a.aq):=MA ok λv=>rfl
 have hf:(bif leB 8 (a.aq.length:Int) then(YL (oT a i) λr5=>some (ltB r5 0)) else some false)=some (full a i):=by
  rw[hfind,full]
  cases leB 8 (a.aq.length:Int)
  .rfl
  rcases Oe ok.o i with⟨t,m,d,e,h1,h2⟩|⟨t,d,e,h1,h2⟩
  .rw[e,QL h1,any_A];simp[ltB]
  rw[e,VI h1 h2,UW h1 h2];simp[ltB]
 simp only[Ac,CM ok.ok,w8 ok.ok,hv,hf,eQ,M7,jS,au]
 cases h1:ltB i 0<;>cases h2:inR n 1 100000<;>cases h3:eqB a.bQ 0<;>cases h4:full a i<;>try rfl
 rw[bE] at h2
 have h3:=I9 h3
 have hmin:1<=qD n a.bQ/\qD n a.bQ<=100000/\qD n a.bQ<=a.bQ:=by unfold qD;split<;>omega
 simp only[LT ok (show 0<=qD n a.bQ/\qD n a.bQ<=100000 by omega),bL (n:=a.bQ-qD n a.bQ) ZK,YZ,au]
theorem Gn {a:am} (ok:qi a) (i:Int):0<=iR a i/\iR a i<=100000:=by
 rcases Oe ok.o i with⟨t,m,d,e,h1,h2⟩|⟨t,d,e,h1,h2⟩
 .rw[n0 e h1];have:=ok.r ⟨i,m⟩ (by rw[e];simp);simp only at this;omega
 rw[tG (λx hx=>by rw[e] at hx;rcases W3.1 hx with hx|hx;(have:=h1 x hx;omega);have:=h2 x hx;omega)];omega
theorem TA {a:am} (ok:qi a) {i n:Int} (hn:0<=n/\n<=iR a i):HT a i n=some (zo a i n,true):=by
 have hv:=Co.2 ok
 have ht:=ok.t
 have hs:=ok.s
 have hr:=Gn ok i
 have hfind:oT a i=some (nK (λx=>eqB x.ax i) 0 a.aq):=MA ok λv=>rfl
 have hin:inR n 0 (iR a i)=true:=bE.2 hn
 simp only[HT,CM ok.ok,w8 ok.ok,hv,hfind,J1 ok.ok,eQ,hin,zo,au]
 cases h0:ltB 0 n
 .rfl
 have h0:=mK h0
 rcases Oe ok.o i with⟨t,m,d,e,h1,h2⟩|⟨t,d,e,h1,h2⟩
 .rw[n0 e h1] at hn hr
  have hc:=LU ok e h1 hn
  rw[show nK (λx=>eqB x.ax i) 0 a.aq=(t.length:Int) by rw[e];exact QL h1]
  simp only[hc,bL (n:=a.er+n) ZK,au]
 rw[tG (λx hx=>by rw[e] at hx;rcases W3.1 hx with hx|hx;(have:=h1 x hx;omega);have:=h2 x hx;omega)] at hn
 omega
attribute [local simp] bA bb be
structure WOK (w:aX):Prop where
 n:1<=w.bz/\w.bz<=100000
 l:w.az.length<=8
 f:1<=w.bz-w.az.length
 u:∀(k:Nat) (x:ae),w.az[k]?=some x->x.cV=w.bz-w.az.length+k/\x.aS.length<=60
theorem WOK.ok {w:aX} (h:WOK w):iy w:=⟨by have:=h.l;omega,λx hx=>by
 obtain⟨k,hk⟩:=Xe hx
 exact⟨by have:=(h.u k x hk).2;omega,λ_ _=>trivial⟩⟩
theorem rv {n:Nat}:tp n=true↔n<=60:=by simp[tp,ltB];omega
theorem Iq {w:aX}:iH w=true↔WOK w:=by
 constructor
 .intro h
  simp only[iH,v0,bE,ee,unB,rv] at h
  obtain⟨h1,h2,h3,h4⟩:=h
  have h2:=xN h2
  have h3:=xN h3
  rw[bL ZK] at h3
  refine⟨h1,by omega,h3,λk x hx=>?_⟩
  have hk:=(W1.1 hx).1
  have:=h4 k x hx
  have e:=pH this.1
  rw[bL (n:=w.bz-(w.az.length:Int)) ZK,bL ZK] at e
  exact⟨e,this.2⟩
 rintro⟨h1,h2,h3,h4⟩
 simp only[iH,v0,bE,ee,unB,rv]
 refine⟨h1,leB_t.2 ZK,leB_t.2 (by rw[bL ZK];omega),λk x hx=>?_⟩
 have hk:=(W1.1 hx).1
 have:=h4 k x hx
 exact⟨eqB_t.2 (by rw[bL (n:=w.bz-(w.az.length:Int)) ZK,bL ZK];exact this.1),this.2⟩
def f8 (xs:List ae):Int:=(xs.map λx=>(x.aS.length:Int)).sum
theorem xE:∀{xs:List ae},(∀x∈xs,x.aS.length<=60)->0<=f8 xs/\f8 xs<=60*xs.length
 |[],_=>by simp[f8]
 |x::xs,h=>by
  have ih:=xE (xs:=xs) λy hy=>h y (by simp[hy])
  have:=h x (by simp)
  have e:f8 (x::xs)=x.aS.length+f8 xs:=by simp[f8]
  rw[e];simp only[W8];omega
theorem JF {xs:List ae} (h:∀x∈xs,x.aS.length<=60) (hl:xs.length<=1000):vZ xs=f8 xs:=by
 have key:∀(xs:List ae) (s:Int),(∀x∈xs,x.aS.length<=60)->0<=s->s+60*xs.length<=9000000000->xs.foldl (λa x=>WR (a+(x.aS.length:Int))) s=s+f8 xs:=by
  intro xs
  induction xs with
  |nil=>intro s _ _ _;simp[f8]
  |cons x xs ih=>
   intro s h h0 h1
   have hx:=h x (by simp)
   simp only[W8] at h1
   rw[Y8,bL ZK,ih _ (λy hy=>h y (by simp[hy])) ZK ZK]
   simp[f8];omega
 have:=key xs 0 h ZK ZK
 rw[vZ,this];omega
theorem WOK.d {w:aX} (h:WOK w):∀x∈w.az,x.aS.length<=60:=λx hx=>by
 obtain⟨k,hk⟩:=Xe hx;exact(h.u k x hk).2
structure QOK (q:cT):Prop where
 i:0<=q.ax
 u:0<=q.ed
 g:q.ed<=q.cH
 m:q.cH<=100000
theorem Gf {q:cT}:iB q=true↔QOK q:=by
 simp only[iB,v0,leB_t]
 exact⟨λ⟨a,b,c,d⟩=>⟨a,b,c,d⟩,λ⟨a,b,c,d⟩=>⟨a,b,c,d⟩⟩
theorem HL {q:cT} (h:QOK q):JZ q=q.cH-q.ed:=by
 rw[JZ,Gf.2 h];obtain⟨a,b,c,d⟩:=h
 simp only[cond_true];rw[bL ZK]
structure SP (s:ah):Prop where
 ok:ec s
 rcd:ro s.bC=true
 plan:oX s.g7=true
 page:jj s.gZ=true
 win:WOK s.aw
 q:QOK s.bM
 st:0<=s.bu/\s.bu<=1
 k1:s.bu=1->mc s.aO=true
 k2:0<s.bF->mc s.aF.eP=true
 ps:0<=s.bF/\s.bF<=999999
 gn:0<=s.ag/\s.ag<=999999
 ep:0<=s.a9/\s.a9<=999999
 rk:0<=s.aO/\s.aO<=2147483646
 ce:0<=s.bg/\s.bg<=5
 qu:0<=s.d9/\s.d9<=5
 rt:0<=s.d7/\s.d7<=3
 sl:s.aA.length<=24
 sd:∀p∈s.aA,p.aS.length<=60
 nx:s.aw.bz<=s.aA.length+1
 un:∀x∈s.aw.az,y4 s x=true
 pd:f8 s.aw.az<=s.bM.cH-s.bM.ed
theorem Al {s:ah} (ok:ec s):it s=true↔SP s:=by
 constructor
 .intro h
  simp only[it,v0,bE,Iq,Gf,W6,y5,rv,rO,DA] at h
  obtain⟨h1,h2,h3,h4,h5,h6,⟨h7,h8⟩,h9,h10,h11,h12,h13,h14,h15,h16,h17,h18,h19,h20⟩:=h
  have h16:=xN h16
  have h18:=xN h18
  have h20:=xN h20
  rw[bL ZK] at h18
  rw[HL h5,JF h4.d (by have:=h4.l;omega)] at h20
  refine⟨ok,h1,h2,h3,h4,h5,h6,λe=>?_,λe=>?_,h9,h10,h11,h12,h13,h14,h15,by omega,h17,h18,h19,h20⟩
  .rw[eqB_t.2 e] at h7;simpa using h7
  rw[ltB_t.2 e] at h8;simpa using h8
 rintro⟨_,h1,h2,h3,h4,h5,h6,h7,h8,h9,h10,h11,h12,h13,h14,h15,h16,h17,h18,h19,h20⟩
 simp only[it,v0,bE,Iq,Gf,W6,y5,rv,rO,DA]
 refine⟨h1,h2,h3,h4,h5,h6,⟨?_,?_⟩,h9,h10,h11,h12,h13,h14,h15,leB_t.2 ZK,h17,leB_t.2 (by rw[bL ZK];omega),h19,leB_t.2 (by rw[HL h5,JF h4.d (by have:=h4.l;omega)];omega)⟩
 .cases e:eqB s.bu 1
  .rfl
  exact h7 (pH e)
 cases e:ltB 0 s.bF
 .rfl
 exact h8 (mK e)
def rm (s:ah) (b:List Int):ah×Bool:=bif leB 24 (s.aA.length:Int)||ltB 60 (b.length:Int) then(s,false) else({s with aA:=s.aA++[⟨b⟩]},true)
theorem Ve {s:ah} (h:ec s) {b:List Int}:lv s b=some (rm s b):=by
 simp only[lv,pt h,YO,rm,Ew,X2]
 cases h1:leB 24 (s.aA.length:Int)<;>cases h2:ltB 60 (b.length:Int)<;>try rfl
 have h1:=zK h1
 have h2:=s4 h2
 simp only[YZ,cN (by_:=1) (n:=b.length) ZK ZK,cN (by_:=24) (n:=(s.aA++[(⟨b⟩:bm)]).length) ZK (by simp;omega),au]
def J5 (s:ah) (m:aH):bR:=
 let q:=s.bC.cV+1
 let v:=vec s.bC.eP (IP s.bC.ID q) q
 bif eqB s.bC.cV 999999 then⟨s,[]⟩ else⟨{s with bC:={s.bC with cV:=q},aF:=v,bF:=q},[⟨2,m.bg,q,0,0,v,0⟩]⟩
def xt (s:ah) (k:Int):aH:=wH s.aO ⟨k,s.bg,s.ag,s.a9,0,cz,0⟩
def xQ (s:ah) (c:Int):ah:=⟨s.bC,s.g7,1,cz,0,s.bF,s.aF.eP,s.a9+1,c,0,fk,s.aA,s.aw,s.d7,s.bM⟩
def BM (s:ah) (m:aH):bR:=
 bif leB s.bF 0||(!eqB m.ag s.bF||(!eqB m.bK s.aF.vp||leB 999999 s.a9)) then⟨s,[]⟩ else⟨xQ s m.bg,[xt (xQ s m.bg) 4]⟩
def tx (s:ah) (m:aH):Bool:=eqB s.bu 1&&(eqB m.ag s.ag&&wY s.aO m)
def yM (s:ah) (m:aH):ah:={s with a9:=m.a9,bg:=m.bg,d9:=0,gZ:=fk,d7:=0}
def BL (s:ah) (m:aH):bR:=
 bif !tx s m||(ltB m.a9 s.a9||(eqB m.a9 s.a9&&!eqB m.bg s.bg)) then⟨s,[]⟩ else⟨yM s m,[xt (yM s m) 6]⟩
def kU (w:aX) (k:Int):aX:=bif ltB w.bz k then w else⟨w.bz,w.az.filter λx=>leB k x.cV⟩
def xb (q:cT) (n:Int):cT:=bif inR n 0 (q.cH-q.ed) then {q with ed:=q.ed+n} else q
def mP (s:ah) (k:Int):ah:={s with d9:=0,aw:=kU s.aw k,bM:=xb s.bM (f8 s.aw.az-f8 (kU s.aw k).az)}
def J4 (s:ah) (m:aH):bR:=bif !tx s m||ltB s.aw.bz m.bK then⟨s,[]⟩ else⟨mP s m.bK,[]⟩
def sUp (s:ah) (m:aH):bR:=
 bif !mM m then⟨s,[]⟩ else bif eqB m.aV 1 then J5 s m else bif eqB m.aV 3 then BM s m else bif eqB m.aV 5 then BL s m else bif eqB m.aV 8 then J4 s m else⟨s,[]⟩
def g9 (s:ah):ah:={s with aF:=cz,bF:=0,d9:=0,gZ:=fk,d7:=0}
theorem zS {s:ah} (h:ec s):ny s=some ⟨s,[]⟩:=by simp[ny,pt h]
theorem VB {s:ah} (h:ec s):xq s=some (g9 s):=by simp[xq,pt h,g9]
theorem Qu {s:ah} (h:ec s):p9 s=some (g9 s):=by simp[p9,NG h,g9]
theorem Ny {r:aG} (h:ro r=true):0<=r.cV/\r.cV<=999999:=by
 simp only[ro,v0,bE] at h;omega
theorem att_s {s:ah} (h:SP s) (m:aH):nh s m=some (J5 s m):=by
 have hr:=Ny h.rcd
 simp only[nh,PW,pj,RD,h.rcd,NW,zS h.ok,pt h.ok,bL (n:=s.bC.cV+1) ZK,J5,au]
 cases he:eqB s.bC.cV 999999
 .simp only[bb,eqB_f.2 (show s.bC.cV+1≠s.bC.cV by omega),Y0,Y5,au]
 simp only[bb,Y0,au]
theorem Wo {s:ah} (h:SP s) (m:aH):kK s m=some (BM s m):=by
 have he:=h.ep
 simp only[kK,oc,zS h.ok,pt h.ok,qT,Bo,YO,bL (n:=s.a9+1) ZK,BM]
 cases leB s.bF 0<;>cases eqB m.ag s.bF<;>cases eqB m.bK s.aF.vp<;>cases leB 999999 s.a9<;>rfl
theorem MT (s:ah) (m:aH):tV s m=some (tx s m):=by
 simp only[tV,In,YO,tx];cases eqB s.bu 1<;>cases eqB m.ag s.ag<;>rfl
theorem Uj {s:ah} (h:SP s) (m:aH):jg s m=some (BL s m):=by
 simp only[jg,MT,zS h.ok,pt h.ok,qT,Bo,YO,BL]
 cases tx s m<;>cases ltB m.a9 s.a9<;>cases eqB m.a9 s.a9<;>cases eqB m.bg s.bg<;>rfl
attribute [local simp] bA bb be
theorem Vo {w:aX} (h:WOK w) (k:Int):jT w k=some (kU w k):=by
 have hl:=h.l
 simp only[jT,Ep h.ok,YO,kU]
 cases ltB w.bz k
 .have:=fr (step:=fU w k) w.az (λi s=>((i:Int),s)) (vH 32 (λx=>leB k x.cV) (λx=>x)) some ZK
   (λi x s hx hi=>by
    have hd:=h.d x (W2 hx)
    simp only[fU,cg hi,be,hx,X2,cN (by_:=1) (n:=x.aS.length) ZK ZK,bN (show i<9223372036854775807 by omega),vH,au]
    cases leB k x.cV<;>simp
    cases dh 32 (s.length+1)<;>rfl) (λs=>by simp[fU]) ([]:List ae)
  rw[xg ZK _ _ _ _ (by simp;omega)] at this
  simp only[show iter (fU w k) FU (0,[])=_ from this,X2,List.map_id',au]
 rfl
theorem Oc {q:cT} (h:QOK q) (n:Int):∃b,ox q n=some (xb q n,b):=by
 obtain⟨a,b,c,d⟩:=h
 simp only[ox,zY,Gf.2 ⟨a,b,c,d⟩,eQ,bL (n:=q.cH-q.ed) ZK,xb,au]
 cases hn:inR n 0 (q.cH-q.ed)
 .exact⟨false,rfl⟩
 rw[bE] at hn
 simp only[bL (n:=q.ed+n) ZK,au];exact⟨true,rfl⟩
theorem GA (p:ae->Bool):∀xs:List ae,f8 xs=f8 (xs.filter p)+f8 (xs.filter λx=>!p x)
 |[]=>rfl
 |x::xs=>by
  have ih:=GA p xs
  have e:∀ys,f8 (x::ys)=x.aS.length+f8 ys:=λys=>by simp[f8]
  rw[Zk,Zk,e]
  cases p x<;>simp[e]<;>omega
theorem Th {w:aX} (h:WOK w) {k:Int} (hk:ltB w.bz k=false):f8 w.az-f8 (kU w k).az=f8 (w.az.filter λx=>ltB x.cV k):=by
 rw[kU,hk,GA (λx=>leB k x.cV) w.az]
 simp only[cond_false]
 have:(λx:ae=>ltB x.cV k)=λx=>!leB k x.cV:=by funext x;rw[u5]
 rw[this];omega
theorem ack_s {s:ah} (h:SP s) (m:aH):lI s m=some (J4 s m):=by
 obtain⟨b,hb⟩:=Oc h.q (f8 s.aw.az-f8 (kU s.aw m.bK).az)
 have hu:=h.win.d
 have hl:=h.win.l
 have hu2:∀x∈(kU s.aw m.bK).az,x.aS.length<=60:=λx hx=>by
  rw[kU] at hx;revert hx
  cases ltB s.aw.bz m.bK
  .exact λhx=>hu x (Yc.1 hx).1
  exact hu x
 have hl2:(kU s.aw m.bK).az.length<=8:=by
  rw[kU];cases ltB s.aw.bz m.bK
  .have:=Zn (λx:ae=>leB m.bK x.cV) s.aw.az
   simp only[cond_false];omega
  exact hl
 have s1:=xE hu
 have s2:=xE hu2
 have e1:WR (vZ s.aw.az-vZ (kU s.aw m.bK).az)=f8 s.aw.az-f8 (kU s.aw m.bK).az:=by
  rw[JF hu ZK,JF hu2 ZK,bL ZK]
 simp only[lI,MT,zS h.ok,pt h.ok,Vo h.win,Ua (show s.aw.az.length<=1048576 by omega),Ua (show(kU s.aw m.bK).az.length<=1048576 by omega),YO,e1,hb,J4]
 cases tx s m<;>cases ltB s.aw.bz m.bK<;>rfl
theorem up_s {s:ah} (h:SP s) (m:aH):nk s m=some (sUp s m):=by
 simp only[nk,Nk,zS h.ok,att_s h,Wo h,Uj h,ack_s h,YO,sUp]
 cases mM m<;>cases eqB m.aV 1<;>cases eqB m.aV 3<;>cases eqB m.aV 5<;>cases eqB m.aV 8<;>rfl
attribute [local simp] bA bb be
theorem qZ (t d:List aE):uQ (t++d)=uQ t+uQ d:=by simp[uQ,List.sum_append]
@[simp] theorem sumR_cons (x:aE) (d:List aE):uQ (x::d)=x.dV+uQ d:=by simp[uQ]
theorem Rx {t d:List aE} {i m m':Int} (h:(t++⟨i,m⟩::d).Pairwise λx y=>x.ax<y.ax):(t++⟨i,m'⟩::d).Pairwise λx y=>x.ax<y.ax:=by
 rw[YU,YT] at h ⊢
 obtain⟨h1,⟨h2,h3⟩,h4⟩:=h
 exact⟨h1,⟨λy hy=>h2 y hy,h3⟩,λx hx y hy=>by
  rcases W5.1 hy with e|hy
  .subst e;exact h4 x hx ⟨i,m⟩ (by simp)
  exact h4 x hx y (by simp[hy])⟩
theorem Wk {t d:List aE} {i m:Int} (h:(t++d).Pairwise λx y=>x.ax<y.ax) (h1:∀x∈t,x.ax<i) (h2:∀x∈d,i<x.ax):(t++(⟨i,m⟩:aE)::d).Pairwise λx y=>x.ax<y.ax:=by
 rw[YU] at h ⊢
 obtain⟨a,b,c⟩:=h
 exact⟨a,YT.2 ⟨λy hy=>h2 y hy,b⟩,λx hx y hy=>by
  rcases W5.1 hy with e|hy
  .subst e;exact h1 x hx
  exact c x hx y hy⟩
theorem HE {t d:List aE} {i:Int} (h1:∀x∈t,x.ax<i) (h2:∀x∈d,i<x.ax):∀x∈t++d,x.ax≠i:=λx hx=>by
 rcases W3.1 hx with hx|hx
 .have:=h1 x hx;omega
 have:=h2 x hx;omega
theorem DY {a:am} (ok:qi a) (i n:Int):
 qi (jS a i n).1/\iR (jS a i n).1 i=iR a i+(jS a i n).2/\0<=(jS a i n).2/\(jS a i n).2<=a.bQ/\(jS a i n).1.bQ=a.bQ-(jS a i n).2/\(jS a i n).1.er=a.er/\(jS a i n).1.eJ=a.eJ:=by
 have hv:=ok.v
 have ht:=ok.t
 have hs:=ok.s
 have hl:=ok.l
 have he:=ok.e
 rw[jS]
 cases h1:ltB i 0<;>cases h2:inR n 1 100000<;>cases h3:eqB a.bQ 0<;>cases h4:full a i<;>simp only[Bool.or_false,Bool.or_true,Zr,Bool.false_or,au]<;>try exact⟨ok,by omega,by omega,by omega,by omega,by simp,by simp⟩
 rw[bE] at h2
 have h1:=s4 h1
 have h3:=I9 h3
 have hmin:1<=qD n a.bQ/\qD n a.bQ<=100000/\qD n a.bQ<=a.bQ:=by unfold qD;split<;>omega
 generalize qD n a.bQ=g at*
 rcases Oe ok.o i with⟨t,m,d,e,k1,k2⟩|⟨t,d,e,k1,k2⟩
 .have hm:=ok.r ⟨i,m⟩ (by rw[e];simp)
  have hsum:=(sP ok.r).2.2 ⟨i,m⟩ (by rw[e];simp)
  simp only at hm hsum
  rw[e,qZ,sumR_cons] at he
  simp only at he
  have hs1:=sP (h:=t) λx hx=>ok.r x (by rw[e];simp[hx])
  have hs2:=sP (h:=d) λx hx=>ok.r x (by rw[e];simp[hx])
  have ho:=ok.o
  rw[e] at ho
  rw[n0 e k1]
  simp only[e,Mi k1]
  have hll:(t++(⟨i,m+g⟩:aE)::d).length=a.aq.length:=by rw[e];simp
  refine⟨⟨ht,by simp only;omega,hs,by simp only;omega,λx hx=>?_,Rx ho,by simp only[qZ,sumR_cons];omega⟩,n0 (t:=t) (d:=d) rfl k1,by omega,by omega,trivial,trivial,trivial⟩
  rcases W3.1 hx with hx|hx
  .exact ok.r x (by rw[e];simp[hx])
  rcases W5.1 hx with e'|hx
  .subst e';simp only;omega
  exact ok.r x (by rw[e];simp[hx])
 rw[tG (a:=a) (λx hx=>by rw[e] at hx;exact HE k1 k2 x hx)]
 have hb:a.aq.length<8:=by
  rw[full,e,UW k1 k2] at h4
  simp only[Bool.not_false,Y5] at h4
  have:=zK h4
  rw[e];omega
 rw[e,qZ] at he
 have ho:=ok.o
 rw[e] at ho
 simp only[e,Mj k1 k2]
 refine⟨⟨ht,by simp only;omega,hs,by simp only;rw[e] at hb;simp at hb ⊢;omega,λx hx=>?_,Wk ho k1 k2,by simp only[qZ,sumR_cons];omega⟩,Eq.trans (n0 (t:=t) (d:=d) rfl k1) ZK,by omega,by omega,trivial,trivial,trivial⟩
 rcases W3.1 hx with hx|hx
 .exact ok.r x (by rw[e];simp[hx])
 rcases W5.1 hx with e'|hx
 .subst e';simp only;omega
 exact ok.r x (by rw[e];simp[hx])
theorem Qb {a:am} (ok:qi a) {i n:Int} (hn:0<=n/\n<=iR a i):
 qi (zo a i n)/\iR (zo a i n) i=iR a i-n/\(zo a i n).er=a.er+n/\(zo a i n).bQ=a.bQ/\(zo a i n).eJ=a.eJ:=by
 have hv:=ok.v
 have ht:=ok.t
 have hs:=ok.s
 have hl:=ok.l
 have he:=ok.e
 rw[zo]
 cases h0:ltB 0 n
 .have h0:=s4 h0
  have:n=0:=by omega
  subst this
  simp only[cond_false]
  exact⟨ok,by omega,by omega,by simp,by simp⟩
 have h0:=mK h0
 simp only[cond_true]
 rcases Oe ok.o i with⟨t,m,d,e,k1,k2⟩|⟨t,d,e,k1,k2⟩
 .rw[n0 e k1] at hn ⊢
  have hm:=ok.r ⟨i,m⟩ (by rw[e];simp)
  simp only at hm
  rw[e,qZ,sumR_cons] at he
  have hs1:=sP (h:=t) λx hx=>ok.r x (by rw[e];simp[hx])
  have hs2:=sP (h:=d) λx hx=>ok.r x (by rw[e];simp[hx])
  have ho:=ok.o
  rw[e] at ho
  have hll:t.length+1+d.length=a.aq.length:=by rw[e];simp;omega
  simp only at he
  simp only[e,Mo k1]
  by_cases hb:n<m
  .simp only[if_pos hb]
   refine⟨⟨ht,by simp only;omega,by simp only;omega,by simp;omega,λx hx=>?_,Rx ho,by simp only[qZ,sumR_cons];omega⟩,n0 (t:=t) (d:=d) rfl k1,trivial,trivial,trivial⟩
   rcases W3.1 hx with hx|hx
   .exact ok.r x (by rw[e];simp[hx])
   rcases W5.1 hx with e'|hx
   .subst e';simp only;omega
   exact ok.r x (by rw[e];simp[hx])
  simp only[if_neg hb]
  have ho2:(t++d).Pairwise λx y=>x.ax<y.ax:=ho.sublist (by simp)
  refine⟨⟨ht,by simp only;omega,by simp only;omega,by simp;omega,λx hx=>ok.r x (by rw[e];rcases W3.1 hx with hx|hx<;>simp[hx]),ho2,by simp only[qZ];omega⟩,?_,trivial,trivial,trivial⟩
  rw[tG (a:={a with er:=a.er+n,aq:=t++d}) (HE k1 k2)];omega
 rw[tG (λx hx=>by rw[e] at hx;exact HE k1 k2 x hx)] at hn
 omega
structure MOK (a:am) (q:cT):Prop where
 acc:qi a
 quo:QOK q
 res:iR a q.ax=q.cH
theorem xo {a:am} {q:cT}:uR a q=true↔MOK a q:=by
 simp only[uR,v0,Co,Gf,eqB_t]
 exact⟨λ⟨x,y,z⟩=>⟨x,y,z⟩,λ⟨x,y,z⟩=>⟨x,y,z⟩⟩
def kF (a:am) (q:cT) (n:Int):am×cT:=
 let r:=jS a q.ax n
 (r.1,{q with cH:=q.cH+r.2})
theorem DX {a:am} {q:cT} (h:MOK a q) (n:Int):MOK (kF a q n).1 (kF a q n).2/\q.cH<=(kF a q n).2.cH:=by
 obtain⟨h1,h2,h3,h4,h5,h6,h7⟩:=DY h.acc q.ax n
 have:=Gn h1 q.ax
 have hr:=h.res
 obtain⟨a1,a2,a3,a4⟩:=h.quo
 exact⟨⟨h1,⟨a1,a2,by simp only[kF];omega,by simp only[kF];omega⟩,by simp only[kF];omega⟩,by simp only[kF];omega⟩
theorem OY {a:am} {q:cT} (h:MOK a q) (n:Int):oB a q n=some (kF a q n):=by
 have h0:=(DX h n).1.quo
 have hq:=h.quo
 simp only[kF] at h0
 have hg:=h0.m
 have hg2:=h0.g
 simp only at hg hg2
 simp only[oB,O0 h.acc,Ht h.acc.ok,xo.2 h,zY,bL (n:=q.cH+(jS a q.ax n).2) (by have:=hq.u;omega),Gf.2 h0,kF,au]
def lS (a:am) (q:cT):am×cT:=(zo a q.ax q.ed,⟨q.ax,q.cH-q.ed,0⟩)
theorem OX {a:am} {q:cT} (h:MOK a q):MOK (lS a q).1 (lS a q).2/\(lS a q).1.er=a.er+q.ed/\(lS a q).1.eJ=a.eJ/\(lS a q).1.bQ=a.bQ:=by
 obtain⟨a1,a2,a3,a4⟩:=h.quo
 have hr:=h.res
 obtain⟨h1,h2,h3,h4,h5⟩:=Qb h.acc (i:=q.ax) (n:=q.ed) ZK
 exact⟨⟨h1,⟨a1,by simp[lS],by simp only[lS];omega,by simp only[lS];omega⟩,by simp only[lS];omega⟩,h3,h5,h4⟩
theorem RL {a:am} {q:cT} (h:MOK a q):pY a q=some (lS a q):=by
 obtain⟨a1,a2,a3,a4⟩:=h.quo
 have hr:=h.res
 simp only[pY,Ht h.acc.ok,xo.2 h,TA h.acc (i:=q.ax) (n:=q.ed) ZK,bL (n:=q.cH-q.ed) ZK,lS,au]
def lY (s:ah) (n:Int):Int:=Fc 0 (f8 s.aw.az+n-(s.bM.cH-s.bM.ed))
theorem Re {s:ah} (hw:WOK s.aw) (hq:QOK s.bM) {n:Int} (hn:0<=n/\n<=1000):nf s n=some (lY s n):=by
 have hs:=xE hw.d
 have hl:=hw.l
 obtain⟨a1,a2,a3,a4⟩:=hq
 simp only[nf,na,Ua (show s.aw.az.length<=1048576 by omega),JF hw.d (show s.aw.az.length<=1000 by omega),U9,HL ⟨a1,a2,a3,a4⟩,M5,YO,lY,bL (n:=f8 s.aw.az+n) ZK,bL (n:=f8 s.aw.az+n-(s.bM.cH-s.bM.ed)) ZK]
def df (s:ah) (a:am) (n:Int):ah×am:=
 bif leB (lY s n) 0 then(s,a) else
  let r:=kF a s.bM (Fc (lY s n) s.g7.eg)
  ({s with bM:=r.2},r.1)
theorem Qp {s:ah} (h:SP s) {a:am} (hm:MOK a s.bM) {n:Int} (hn:0<=n/\n<=1000):pW s a n=some (df s a n):=by
 simp only[pW,pt h.ok,Re h.win h.q hn,CM hm.acc.ok,M5,OY hm,YO,df]
 cases leB (lY s n) 0<;>rfl
def pp (w:aX) (b:List Int):aX:=⟨w.bz+1,w.az++[⟨w.bz,b⟩]⟩
theorem H2 {w:aX} (h:WOK w) {b:List Int} (hn:w.bz<100000) (hl:w.az.length<8) (hb:b.length<=60):WOK (pp w b):=by
 have h1:=h.n
 have h3:=h.f
 refine⟨by simp only[pp];omega,by simp[pp];omega,by simp[pp];omega,λk x hx=>?_⟩
 simp only[pp] at hx ⊢
 rw[Xp,Ze]
 by_cases hk:k<w.az.length
 .rw[W9 hk] at hx
  have:=h.u k x hx
  omega
 have hk2:=(W1.1 hx).1
 simp at hk2
 have:k=w.az.length:=by omega
 subst this
 simp at hx
 subst hx
 simp only
 omega
theorem Wv {w:aX} (h:WOK w) {b:List Int} (hn:w.bz<100000) (hl:w.az.length<8) (hb:b.length<=60):oQ w b=some (pp w b,⟨w.bz,b⟩,true):=by
 have h1:=h.n
 have hs:=H2 h hn hl hb
 have e:(⟨WR (w.bz+1),w.az++[(⟨w.bz,b⟩:ae)]⟩:aX)=pp w b:=by rw[bL ZK];rfl
 simp only[oQ,Ep h.ok,X2,cN (by_:=1) (n:=b.length) ZK ZK,cN (by_:=32) (n:=(w.az++[(⟨w.bz,b⟩:ae)]).length) ZK (by simp;omega),e,Kf hs.ok,Iq.2 hs,au]
attribute [local simp] bA bb be
structure SG (s:ah) (a:am):Prop where
 sp:SP s
 b1:∀p∈s.aA,okB p.aS
 b2:∀x∈s.aw.az,okB x.aS
 mo:MOK a s.bM
def rK (s:ah):Option bm:=bif leB s.aw.bz (s.aA.length:Int)&&ltB (s.aw.az.length:Int) 8 then s.aA[(s.aw.bz-1).toNat]? else none
def iW:Nat->ah->am->List aC->ah×am×List aC
 |0,s,a,r=>(s,a,r)
 |k+1,s,a,r=>match rK s with
  |none=>(s,a,r)
  |some x=>
   let e:=df s a (x.aS.length:Int)
   bif ltB 0 (lY e.1 (x.aS.length:Int)) then(e.1,e.2,r)
   else iW k {e.1 with aw:=pp e.1.aw x.aS} e.2 (r++[iV e.1.aO e.1.ag e.1.a9 ⟨e.1.aw.bz,x.aS⟩])
theorem nU {s:ah} (h:SP s) {x:bm} (e:rK s=some x):x∈s.aA/\ix s.aA (WR (s.aw.bz-1))=some x/\s.aA[(s.aw.bz-1).toNat]?=some x/\s.aw.bz<=s.aA.length/\s.aw.az.length<8/\x.aS.length<=60:=by
 have hn:=h.win.n
 rw[rK] at e
 cases h1:leB s.aw.bz (s.aA.length:Int)<;>cases h2:ltB (s.aw.az.length:Int) 8<;>rw[h1,h2] at e<;>try cases e
 have h1:=xN h1
 have h2:=mK h2
 have e:s.aA[(s.aw.bz-1).toNat]?=some x:=e
 have hm:=W2 e
 refine⟨hm,?_,e,h1,by omega,h.sd x hm⟩
 rw[bL ZK,ix,leB_t.2 (show 0<=s.aw.bz-1 by omega)]
 exact e
theorem Lq {s:ah} (h:SP s) (e:rK s=none):(leB s.aw.bz (s.aA.length:Int)&&ltB (s.aw.az.length:Int) 8)=false:=by
 have hn:=h.win.n
 cases h1:leB s.aw.bz (s.aA.length:Int)&&ltB (s.aw.az.length:Int) 8
 .rfl
 rw[rK,h1] at e
 rw[v0] at h1
 have h1:=xN h1.1
 have e:s.aA[(s.aw.bz-1).toNat]?=none:=e
 rw[List.getElem?_eq_none_iff] at e
 omega
theorem xe {s:ah} {a:am} (h:SG s a) {n:Int} (hn:0<=n/\n<=60):SG (df s a n).1 (df s a n).2:=by
 rw[df]
 cases leB (lY s n) 0
 .obtain⟨h1,h2⟩:=DX h.mo (Fc (lY s n) s.g7.eg)
  have hp:=h.sp.pd
  have hu:(kF a s.bM (Fc (lY s n) s.g7.eg)).2.ed=s.bM.ed:=rfl
  exact⟨{h.sp with q:=h1.quo,pd:=by simp only[cond_false] at hp ⊢;rw[hu];omega},h.b1,h.b2,h1⟩
 exact h
theorem Ph (x:ByteArray):strB x x=true:=by simp[strB]
theorem CB {s:ah} {a:am} (h:SG s a) {x:bm} (e:rK s=some x) (hq:ltB 0 (lY s (x.aS.length:Int))=false):SG {s with aw:=pp s.aw x.aS} a:=by
 obtain⟨hm,_,hx,hn,hl,hb⟩:=nU h.sp e
 have hs:=h.sp.sl
 have hq:=s4 hq
 have hnn:=h.sp.win.n
 have hpd:f8 (s.aw.az++[⟨s.aw.bz,x.aS⟩])<=s.bM.cH-s.bM.ed:=by
  have e1:f8 (s.aw.az++[⟨s.aw.bz,x.aS⟩])=f8 s.aw.az+x.aS.length:=by simp[f8]
  rw[lY,Fc] at hq
  rw[e1]
  split at hq<;>omega
 refine⟨{h.sp with ok:=⟨h.sp.ok.1,h.sp.ok.2.1,(H2 h.sp.win ZK hl hb).ok⟩,win:=H2 h.sp.win ZK hl hb,nx:=by simp only[pp];omega,un:=λy hy=>?_,pd:=hpd},h.b1,λy hy=>?_,h.mo⟩
 .simp only[pp,W3,X7] at hy
  rcases hy with hy|rfl
  .exact h.sp.un y hy
  simp only[y4,hx,BN];exact Ph _
 simp only[pp,W3,X7] at hy
 rcases hy with hy|rfl
 .exact h.b2 y hy
 exact h.b1 x hm
theorem oG (s:ah) (a:am) (n:Int):∃q,(df s a n).1={s with bM:=q}:=by
 rw[df];cases leB (lY s n) 0
 .exact⟨_,rfl⟩
 exact⟨s.bM,rfl⟩
theorem Eo (s0:ah):∀(k fu:Nat) (s:ah) (a:am) (g:List aH) (r:List aC),SG s a->s.aA=s0.aA->s.aO=s0.aO->s.ag=s0.ag->s.a9=s0.a9->k<=2->k<fu->r.length+k<=1000->
 iter (sj s0) fu ((2:Int)-(k:Nat),⟨s,a,g,r⟩)=some ⟨(iW k s a r).1,(iW k s a r).2.1,g,(iW k s a r).2.2⟩
 |0,fu,s,a,g,r,h,c1,c2,c3,c4,h1,h2,h3=>by
  cases fu with
  |zero=>omega
  |succ fu=>rw[iter];simp[sj,iW]
 |k+1,fu,s,a,g,r,h,c1,c2,c3,c4,h1,h2,h3=>by
  cases fu with
  |zero=>omega
  |succ fu=>
   have hlt:ltB ((2:Int)-((k+1:Nat):Int)) 2=true:=ltB_t.2 ZK
   have hc:(bif leB s.aw.bz (s0.aA.length:Int) then some (ltB (s.aw.az.length:Int) 8) else some false)=some (leB s.aw.bz (s.aA.length:Int)&&ltB (s.aw.az.length:Int) 8):=by
    rw[<-c1]
    cases leB s.aw.bz (s.aA.length:Int)<;>rfl
   rw[iter]
   simp only[sj,hlt,hc,iW,au]
   cases e:rK s with
   |none=>rw[Lq h.sp e];rfl
   |some x=>
    obtain⟨hm,hx,_,hn,hl,hb⟩:=nU h.sp e
    have hcc:(leB s.aw.bz (s.aA.length:Int)&&ltB (s.aw.az.length:Int) 8)=true:=by rw[leB_t.2 hn,ltB_t.2 ZK];rfl
    have he:=xe h (n:=(x.aS.length:Int)) ZK
    have hsl:=h.sp.sl
    have hnn:=h.sp.win.n
    rw[c1] at hx
    simp only[hcc,hx,Qp h.sp h.mo (n:=(x.aS.length:Int)) ZK,Re he.sp.win he.sp.q (n:=(x.aS.length:Int)) ZK,au]
    cases hq:ltB 0 (lY (df s a (x.aS.length:Int)).1 (x.aS.length:Int))
    .obtain⟨q,hk⟩:=oG s a (x.aS.length:Int)
     have e2:rK (df s a (x.aS.length:Int)).1=some x:=by rw[hk];exact e
     have hg:=CB he e2 hq
     have hw:(df s a (x.aS.length:Int)).1.aw=s.aw:=by rw[hk]
     have hww:=he.sp.win
     have d1:(df s a (x.aS.length:Int)).1.aO=s0.aO:=by rw[hk];exact c2
     have d2:(df s a (x.aS.length:Int)).1.ag=s0.ag:=by rw[hk];exact c3
     have d3:(df s a (x.aS.length:Int)).1.a9=s0.a9:=by rw[hk];exact c4
     simp only[Wv hww (b:=x.aS) (by rw[hw];omega) (by rw[hw];omega) hb,wQ,LL (x:=⟨(df s a (x.aS.length:Int)).1.aw.bz,x.aS⟩) (by rw[hw];simp only;omega) (by rw[hw];simp only;omega) (h.b1 x hm) (by simp only;omega),<-d1,<-d2,<-d3,cN (by_:=64) (n:=(r++[iV (df s a (x.aS.length:Int)).1.aO (df s a (x.aS.length:Int)).1.ag (df s a (x.aS.length:Int)).1.a9 ⟨(df s a (x.aS.length:Int)).1.aw.bz,x.aS⟩]).length) ZK (by simp;omega),bL (n:=(2:Int)-((k+1:Nat):Int)+1) ZK,au]
     rw[show(2:Int)-((k+1:Nat):Int)+1=2-(k:Nat) by omega]
     exact Eo s0 k fu _ _ _ _ hg (by simp only;rw[hk];exact c1) d1 d2 d3 ZK ZK (by simp;omega)
    rfl
theorem O5 {s:ah} {a:am} (h:SG s a) (hs:s.bu=1):wC s a=some ⟨(iW 2 s a []).1,(iW 2 s a []).2.1,[],(iW 2 s a []).2.2⟩:=by
 have:=Eo s 2 FU s a [] [] h rfl rfl rfl rfl ZK (by have:=i9;omega) (by simp)
 rw[show(2:Int)-((2:Nat):Int)=0 by omega] at this
 have hz:({dr with aP:=s,eo:=a}:bY)=⟨s,a,[],[]⟩:=rfl
 simp only[wC,qU,wO,pt h.sp.ok,CM h.mo.acc.ok,Bn h.sp.ok,(Al h.sp.ok).2 h.sp,eqB_t.2 hs,hz,this,au]
theorem Ke:∀(k:Nat) (s:ah) (a:am) (r:List aC),SG s a->SG (iW k s a r).1 (iW k s a r).2.1
 |0,s,a,r,h=>h
 |k+1,s,a,r,h=>by
  rw[iW]
  cases e:rK s with
  |none=>exact h
  |some x=>
   obtain⟨hm,hx,_,hn,hl,hb⟩:=nU h.sp e
   have he:=xe h (n:=(x.aS.length:Int)) ZK
   simp only
   cases hq:ltB 0 (lY (df s a (x.aS.length:Int)).1 (x.aS.length:Int))
   .obtain⟨q,hk⟩:=oG s a (x.aS.length:Int)
    exact Ke k _ _ _ (CB he (by rw[hk];exact e) hq)
   exact he
attribute [local simp] bA bb be
theorem Jd {α:Type} (xs:List α):(xs.filter λ_=>true)=xs:=List.filter_eq_self.2 (by simp)
def zf (s:ah):List aC:=bif eqB s.bu 1 then(s.aw.az.take 2).map λx=>iV s.aO s.ag s.a9 x else []
theorem SC {s:ah} (h:WOK s.aw) {x:ae} (hx:x∈s.aw.az):1<=x.cV/\x.cV<s.aw.bz/\x.cV<=100000/\x.aS.length<=60:=by
 obtain⟨k,hk⟩:=Xe hx
 have hl:=(W1.1 hk).1
 have:=h.u k x hk
 have h1:=h.f
 have h2:=h.n
 omega
theorem Tj {s:ah} {a:am} (h:SG s a):ma s=some (zf s):=by
 have key:∀(n:Nat) (fu k:Nat) (r:List aC),n=(s.aw.az.take 2).length-k->k<=(s.aw.az.take 2).length->n<fu->r.length+n<=100->eqB s.bu 1=true->
  iter (iU s) fu ((k:Int),r)=some (r++((s.aw.az.take 2).drop k).map λx=>iV s.aO s.ag s.a9 x):=by
  intro n
  have hle:(s.aw.az.take 2).length=min 2 s.aw.az.length:=by simp
  induction n with
  |zero=>
   intro fu k r hn hk hf hr hs
   cases fu with
   |zero=>omega
   |succ fu=>
    have hk':k=(s.aw.az.take 2).length:=by omega
    have hc:(bif ltB (k:Int) (s.aw.az.length:Int) then(bif ltB (k:Int) 2 then some (eqB s.bu 1) else some false) else some false)=some false:=by
     by_cases h2:k<s.aw.az.length
     .rw[cg h2,ltB_f.2 (show(2:Int)<=k by omega)];rfl
     rw[ltB_f.2 (show(s.aw.az.length:Int)<=k by omega)];rfl
    rw[iter]
    simp only[iU,hc,au]
    rw[hk',Zj];simp
  |succ n ih=>
   intro fu k r hn hk hf hr hs
   cases fu with
   |zero=>omega
   |succ fu=>
    have hlt:k<(s.aw.az.take 2).length:=by omega
    have hc:(bif ltB (k:Int) (s.aw.az.length:Int) then(bif ltB (k:Int) 2 then some (eqB s.bu 1) else some false) else some false)=some true:=by
     rw[cg (show k<s.aw.az.length by omega),ltB_t.2 (show(k:Int)<2 by omega),hs];rfl
    obtain⟨x,hx⟩:∃x,s.aw.az[k]?=some x:=⟨_,W0 (show k<s.aw.az.length by omega)⟩
    have hxm:=W2 hx
    have hu:=SC h.sp.win hxm
    have hd:(s.aw.az.take 2).drop k=x::(s.aw.az.take 2).drop (k+1):=by
     rw[XR hlt];congr 1
     have:=(W1.1 hx).2
     simpa using this
    rw[iter]
    simp only[iU,hc,be,hx,wQ,LL (x:=x) ZK ZK (h.b2 x hxm) ZK,cN (by_:=64) (n:=(r++[iV s.aO s.ag s.a9 x]).length) ZK (by simp;omega),bN (show k<9223372036854775807 by omega),au]
    rw[ih fu (k+1) _ ZK ZK ZK (by simp;omega) hs,hd]
    simp
 rw[ma,zf]
 cases hs:eqB s.bu 1
 .have h0:iter (iU s) FU (0,[])=some []:=by
   have:FU=(FU-1)+1:=by have:=i9;omega
   rw[this,iter]
   have hc:(bif ltB 0 (s.aw.az.length:Int) then(bif ltB 0 2 then some (eqB s.bu 1) else some false) else some false)=some false:=by
    rw[hs];cases ltB 0 (s.aw.az.length:Int)<;>cases ltB 0 2<;>rfl
   simp only[iU,hc,au]
  rw[h0];rfl
 have:=key _ FU 0 [] rfl ZK (by have:=i9;simp;omega) (by simp;omega) hs
 rw[show((0:Nat):Int)=0 from rfl] at this
 rw[this];simp
def pE (m:aM) (a:Int):List Int:=(m.aR.zipIdx.filter λy=>eqB y.1.fB a).map λy=>(y.2:Int)
def Tk (m:aM):List Int:=(hV m.aR.length).map λ(k:Nat)=>(k:Int)
def Gb (m:aM) (a t:Int):List Int:=bif eqB t 1&&ltB 0 (((pE m a).length:Nat):Int) then pE m a else bif inR t 1 4 then Tk m else []
theorem N0 {α:Type} {xs:List α} {k:Nat} {y:α×Nat} (h:xs.zipIdx[k]?=some y):xs[k]?=some y.1/\y.2=k:=by
 rw[Zo] at h
 cases hx:xs[k]? with
 |none=>rw[hx] at h;cases h
 |some x=>rw[hx] at h;simp at h;subst h;exact⟨rfl,rfl⟩
theorem Vp {m:aM} (h:m.aR.length<=1000) (a:Int):pU m a=some (pE m a):=by
 have hrun:=fr (step:=jp m a) m.aR.zipIdx (λi r=>((i:Int),r)) (vH 8 (λy=>eqB y.1.fB a) (λy=>(y.2:Int))) some (by simp;omega)
  (λi y r hy hi=>by
   obtain⟨hx,e⟩:=N0 hy
   have hi:i<m.aR.length:=by simpa using hi
   simp only[jp,cg hi,be,hx,bN (show i<9223372036854775807 by omega),vH,e,au]
   cases eqB y.1.fB a
   .rfl
   cases dh 8 (r++[(i:Int)]).length<;>rfl) (λr=>by simp[jp]) ([]:List Int)
 rw[xg ZK _ _ _ _ (by simp;omega)] at hrun
 rw[pU,show iter (jp m a) FU (0,[])=_ from hrun]
 rfl
theorem QN (n:Nat):∀(v:List Int),v.length=n->(∀k:Nat,k<n->v[k]?=some (k:Int))->v=(hV n).map λ(k:Nat)=>(k:Int):=by
 intro v hv h
 apply Y3
 intro k
 by_cases hk:k<n
 .rw[h k hk];simp[hk]
 rw[Za ZK,Za (by simp;omega)]
theorem Ui {m:aM} (h:m.aR.length<=1000) (a t:Int):pX m a t=some (Gb m a t):=by
 simp only[pX,Vp h,YO,Gb,Tk]
 cases hb:inR t 1 4
 .have h0:iter (gu m t) FU (0,[])=some []:=by
   have:FU=(FU-1)+1:=by have:=i9;omega
   rw[this,iter]
   simp only[gu,eQ,hb,YO]
   cases ltB 0 (m.aR.length:Int)<;>rfl
  rw[h0]
  have h1:eqB t 1=false:=eqB_f.2 λe=>by subst e;simp[inR,leB] at hb
  rw[h1];rfl
 have hrun:=fr (step:=gu m t) m.aR.zipIdx (λi r=>((i:Int),r)) (vH 8 (λ_=>true) (λy=>(y.2:Int))) some (by simp;omega)
  (λi y r hy hi=>by
   obtain⟨hx,e⟩:=N0 hy
   have hi:i<m.aR.length:=by simpa using hi
   simp only[gu,cg hi,eQ,hb,bN (show i<9223372036854775807 by omega),vH,e,au]
   cases dh 8 (r++[(i:Int)]).length<;>rfl) (λr=>by simp[gu]) ([]:List Int)
 rw[xg ZK _ _ _ _ (by simp;omega)] at hrun
 have hall:(m.aR.zipIdx.filter λ_=>true).map (λy:eH×Nat=>(y.2:Int))=(hV m.aR.length).map λ(k:Nat)=>(k:Int):=by
  rw[Jd]
  refine QN _ _ (by simp) λk hk=>?_
  simp[Zo,W0 hk]
 rw[show iter (gu m t) FU (0,[])=_ from hrun,hall]
 cases eqB t 1
 .rfl
 cases ltB 0 (((pE m a).length:Nat):Int)<;>rfl
def AF (p:cP) (m:aM):cP×List Int:=
 bif ltB 0 p.f5 then({p with f5:=p.f5-1},[]) else
  let t:=bif ltB p.eM 4 then p.eM+1 else 1
  (⟨p.fB,t,3⟩,Gb m p.fB t)
structure POK (p:cP):Prop where
 a:0<=p.eM/\p.eM<=4
 w:0<=p.f5/\p.f5<=3
theorem UJ {p:cP} (hp:POK p) {m:aM} (h:m.aR.length<=1000):sq p m=some (AF p m):=by
 have h1:=hp.a
 have h2:=hp.w
 simp only[sq,Ui h,YO,AF,bL (n:=p.f5-1) ZK,bL (n:=p.eM+1) ZK,FL]
def qp (m:aM) (c:Int):Int:=bif ef m c then(match m.aR[c.toNat]? with|some x=>x.fB|none=>0) else 0
def JN (c:Int):aH:={d6 with aV:=7,bg:=c}
def J9 (s:ah) (a:am) (m:aM):bY:=
 let r:=AF {s.gZ with fB:=qp m s.bg} m
 ⟨{s with gZ:=r.1},a,r.2.map JN,[]⟩
theorem OS {L:Int×List aH->Option (cf (Int×List aH) (List aH))} (xs:List Int) (hl:xs.length<=10000)
 (hL:∀(v:Int) (r:List aH),L (v,r)=bif ltB v (xs.length:Int) then(YL (ix xs v) λx10=>bif dh 88 (r++[{d6 with aV:=7,bg:=x10}]).length then(some (.next (WR (v+1),(r++[{d6 with aV:=7,bg:=x10}])))) else none) else(some (.done r))):
 iter L FU (0,[])=some (xs.map JN):=by
 have hrun:=fr (step:=L) xs (λi r=>((i:Int),r)) (vH 88 (λ_=>true) JN) some ZK
  (λi x r hx hi=>by
   simp only[hL,cg hi,be,hx,bN (show i<9223372036854775807 by omega),vH,JN,au]
   cases dh 88 (r++[{d6 with aV:=7,bg:=x}]).length<;>rfl) (λr=>by simp[hL]) ([]:List aH)
 rw[xg ZK _ _ _ _ (by simp;omega)] at hrun
 refine Eq.trans (show iter L FU (0,[])=_ from hrun) (by rw[Jd,X2])
theorem GC {p:cP} {m:aM} (h:m.aR.length<=1000):(AF p m).2.length<=1000:=by
 have hc:(pE m p.fB).length<=1000:=by
  simp only[pE,Xb]
  have:=Zn (λy:eH×Nat=>eqB y.1.fB p.fB) m.aR.zipIdx
  simp at this;omega
 rw[AF];cases ltB 0 p.f5
 .simp only[cond_false,Gb]
  cases eqB (bif ltB p.eM 4 then p.eM+1 else 1) 1&&ltB 0 (((pE m p.fB).length:Nat):Int)
  .cases inR (bif ltB p.eM 4 then p.eM+1 else 1) 1 4<;>simp[Tk];omega
  exact hc
 simp
theorem Wh {s:ah} {a:am} (h:SP s) (ha:qi a) (hp:POK s.gZ) {m:aM} (hm:1<=m.aR.length/\m.aR.length<=1000):wP s a m=some (J9 s a m):=by
 have hz:({dr with aP:=s,eo:=a}:bY)=⟨s,a,[],[]⟩:=rfl
 have hin:(bif ef m s.bg then(YL (ix m.aR s.bg) λx4=>some x4.fB) else some 0)=some (qp m s.bg):=by
  rw[qp]
  cases hc:ef m s.bg
  .rfl
  obtain⟨d,_,h1,h2⟩:=Cs hc
  rw[h1,h2];rfl
 have hpp:POK {s.gZ with fB:=qp m s.bg}:=⟨hp.a,hp.w⟩
 have hr:=OS (L:=B0 (AF {s.gZ with fB:=qp m s.bg} m)) _ (by have:=GC (p:={s.gZ with fB:=qp m s.bg}) hm.2;omega) (λv r=>rfl)
 simp only[wP,qU,pt h.ok,CM ha.ok,eQ,YO,bL (n:=(m.aR.length:Int)-1) ZK,hz]
 rw[show inR s.bg 0 ((m.aR.length:Int)-1)=ef m s.bg from rfl,hin]
 simp only[YO,UJ hpp hm.2,hr,J9]
attribute [local simp] bA bb be
def g8 (s:ah) (a:am):am×cT:=bif leB s.g7.eg s.bM.ed then lS a s.bM else(a,s.bM)
def EV (s:ah):Bool:=ltB 0 (s.aw.az.length:Int)
def lp (s:ah):Int:=bif EV s then qD 5 (s.d9+1) else 0
def oN (s:ah):List aC×Int:=bif EV s&&ltB 0 s.d7 then([],s.d7-1) else bif EV s then(zf s,3) else([],s.d7)
def NC (s:ah) (a:am) (m:aM):bY:=
 let g:=g8 s a
 let t:=iW 2 {s with d9:=lp s,d7:=(oN s).2,bM:=g.2} g.1 []
 ⟨t.1,t.2.1,[],(oN s).1++t.2.2⟩
def oR (s:ah) (a:am) (m:aM):bY:=
 bif !eqB s.bu 1 then⟨s,a,[],[]⟩ else bif ltB 4 (lp s) then J9 {s with d9:=lp s,bM:=(g8 s a).2} (g8 s a).1 m else NC s a m
theorem Do {s:ah} {a:am} (h:SG s a):MOK (g8 s a).1 (g8 s a).2/\(g8 s a).2.cH-(g8 s a).2.ed=s.bM.cH-s.bM.ed/\(g8 s a).2.ax=s.bM.ax/\(g8 s a).1.er+(g8 s a).2.ed=a.er+s.bM.ed/\(g8 s a).1.eJ=a.eJ/\(g8 s a).1.bQ=a.bQ:=by
 rw[g8]
 cases leB s.g7.eg s.bM.ed
 .exact⟨h.mo,rfl,rfl,rfl,rfl,rfl⟩
 obtain⟨h1,h2,h3,h4⟩:=OX h.mo
 simp only[cond_true]
 exact⟨h1,by simp[lS],rfl,by rw[h2];simp[lS],h3,h4⟩
theorem zX {s:ah} (h:SP s):0<=lp s/\lp s<=5:=by
 have:=h.qu
 rw[lp];cases EV s
 .simp
 simp only[cond_true,qD];split<;>omega
theorem z2 {s:ah} (h:SP s):0<=(oN s).2/\(oN s).2<=3:=by
 have:=h.rt
 rw[oN];cases EV s
 .exact this
 cases hb:ltB 0 s.d7
 .simp
 have:=mK hb
 simp;omega
theorem SG.upd {s:ah} {a:am} (h:SG s a) {q r:Int} (hq:0<=q/\q<=5) (hr:0<=r/\r<=3):SG {s with d9:=q,d7:=r,bM:=(g8 s a).2} (g8 s a).1:=by
 obtain⟨h1,h2,_⟩:=Do h
 have hp:=h.sp.pd
 exact⟨{h.sp with q:=h1.quo,qu:=hq,rt:=hr,pd:=by simp only;omega},h.b1,h.b2,h1⟩
theorem N3 (s:ah):(zf s).length<=2:=by
 rw[zf];cases eqB s.bu 1<;>simp;omega
theorem Gp (s:ah):(oN s).1.length<=2:=by
 have:=N3 s
 rw[oN];cases EV s<;>cases ltB 0 s.d7<;>simp<;>omega
theorem Bm:∀(k:Nat) (s:ah) (a:am) (r:List aC),(iW k s a r).2.2.length<=r.length+k
 |0,s,a,r=>by simp[iW]
 |k+1,s,a,r=>by
  rw[iW]
  cases rK s with
  |none=>simp
  |some x=>
   simp only
   cases ltB 0 (lY (df s a (x.aS.length:Int)).1 (x.aS.length:Int))
   .have:=Bm k {(df s a (x.aS.length:Int)).1 with aw:=pp (df s a (x.aS.length:Int)).1.aw x.aS} (df s a (x.aS.length:Int)).2 (r++[iV (df s a (x.aS.length:Int)).1.aO (df s a (x.aS.length:Int)).1.ag (df s a (x.aS.length:Int)).1.a9 ⟨(df s a (x.aS.length:Int)).1.aw.bz,x.aS⟩])
    simp only[Xp,Ze] at this
    simp only[cond_false];omega
   simp only[cond_true];omega
theorem UK {s:ah} {a:am} (h:SG s a) {m:aM} (hm:1<=m.aR.length/\m.aR.length<=1000) (hp:POK s.gZ):p4 s a m=some (oR s a m):=by
 have hz:({dr with aP:=s,eo:=a}:bY)=⟨s,a,[],[]⟩:=rfl
 have hqu:=h.sp.qu
 have hrt:=h.sp.rt
 simp only[p4,wO,qU,pt h.sp.ok,CM h.mo.acc.ok,Bn h.sp.ok,(Al h.sp.ok).2 h.sp,YO,hz,oR]
 cases hs:eqB s.bu 1
 .rfl
 have hst:=pH hs
 have hq:=zX h.sp
 have hr:=z2 h.sp
 have hqq:∀(k:Int->Option bY),(YL (bif ltB 0 (s.aw.az.length:Int) then(YL (yK 5 (WR (s.d9+1))) λr9=>some r9) else some 0) k)=k (lp s):=λk=>by
  rw[lp,EV,bL (n:=s.d9+1) ZK,M7]
  cases ltB 0 (s.aw.az.length:Int)<;>rfl
 have hrr:∀(u:cT) (k:List aC×Int->Option bY),SG {s with d9:=lp s,d7:=3,bM:=u} (g8 s a).1->
  (YL (bif ltB 0 (s.aw.az.length:Int) then some (ltB 0 s.d7) else some false) λ(v11:Bool)=>YL (bif v11 then(some (([]:List aC),WR (s.d7-1))) else(YL (bif ltB 0 (s.aw.az.length:Int) then(YL (ma {s with d9:=lp s,d7:=3,bM:=u}) λr16=>some (r16,3)) else(some (([]:List aC),s.d7))) λx=>some (x.1,x.2))) k)=k ((oN s).1,(oN s).2):=λu k hu=>by
  rw[oN,EV,bL (n:=s.d7-1) ZK,Tj hu]
  cases ltB 0 (s.aw.az.length:Int)<;>cases ltB 0 s.d7<;>rfl
 have hl:dh 64 ((oN s).1++(iW 2 {s with d9:=lp s,d7:=(oN s).2,bM:=(g8 s a).2} (g8 s a).1 []).2.2).length=true:=by
  have h1:=Gp s
  have h2:=Bm 2 {s with d9:=lp s,d7:=(oN s).2,bM:=(g8 s a).2} (g8 s a).1 []
  simp only[YS] at h2
  exact cN ZK (by simp;omega)
 have hu:=h.upd hq (show(0:Int)<=3/\(3:Int)<=3 by omega)
 have hv:=h.upd hq hr
 have hw:=h.upd hq h.sp.rt
 have hpp:POK ({s with d9:=lp s,bM:=(g8 s a).2}:ah).gZ:=hp
 have e1:=Wh (s:={s with d9:=lp s,bM:=(g8 s a).2}) hw.sp hw.mo.acc hpp hm
 have e2:=O5 hv hst
 rw[g8] at hu e1 e2 hl
 simp only[au]
 rw[NC,g8]
 cases hg:leB s.g7.eg s.bM.ed
 .rw[hg] at hu e1 e2 hl
  simp only[cond_false] at hu e1 e2 hl ⊢
  have hu':=hrr s.bM
  rw[g8,hg] at hu'
  rw[hqq]
  cases ltB 4 (lp s)
  .simp only[cond_false]
   rw[hu' _ hu]
   simp only[e2,hl,au]
  simp only[e1,au]
 rw[hg] at hu e1 e2 hl
 simp only[cond_true] at hu e1 e2 hl ⊢
 have hu':=hrr (lS a s.bM).2
 rw[g8,hg] at hu'
 simp only[RL h.mo,YO]
 rw[hqq]
 cases ltB 4 (lp s)
 .simp only[cond_false]
  rw[hu' _ hu]
  simp only[e2,hl,au]
 simp only[e1,au]
attribute [local simp] bA bb be
structure RP (r:aK):Prop where
 ok:eG r
 v:pC r=true
 b1:∀x∈r.aF,okB x.aS
 b2:∀p∈r.aQ,okB p.aS
structure DP (d:aD):Prop where
 card:vg d.c9=true
 st:0<=d.bu/\d.bu<=3
 ce:0<=d.bg/\d.bg<=5
 gn:0<=d.ag/\d.ag<=999999
 ep:0<=d.a9/\d.a9<=999999
 rk:0<=d.aO/\d.aO<=2147483646
 k:2<=d.bu->mc d.aO=true
 wt:0<=d.f5/\d.f5<=3
 rc:RP d.bI
theorem DP.ok {d:aD} (h:DP d):ge d:=h.rc.ok
theorem DP.v {d:aD} (h:DP d):jX d=true:=by
 have:=h.st
 simp only[jX,v0,bE]
 refine⟨h.card,h.st,h.ce,h.gn,h.ep,h.rk,?_,h.wt,h.rc.v⟩
 cases e:inR d.bu 2 3
 .rfl
 rw[bE] at e;rw[h.k e.1];rfl
theorem DP.of {d:aD} (h:jX d=true) (ok:ge d) (b1:∀x∈d.bI.aF,okB x.aS) (b2:∀p∈d.bI.aQ,okB p.aS):DP d:=by
 simp only[jX,v0,bE] at h
 obtain⟨h1,h2,h3,h4,h5,h6,h7,h8,h9⟩:=h
 refine⟨h1,h2,h3,h4,h5,h6,λe=>?_,h8,⟨ok,h9,b1,b2⟩⟩
 rw[bE.2 ⟨e,h2.2⟩] at h7;simpa using h7
theorem zn {d:aD} (h:DP d):DP (tk d).bv:=by
 have hw:=h.wt
 rw[tk]
 cases hb:ltB 0 d.f5
 .cases eqB d.bu 1
  .cases eqB d.bu 2&&!d.de
   .exact h
   exact {h with wt:=⟨by simp,by simp⟩}
  exact {h with wt:=⟨by simp,by simp⟩}
 have:=mK hb
 exact {h with wt:=⟨by simp only[cond_true];omega,by simp only[cond_true];omega⟩}
theorem Vv {d:aD} (h:DP d):DP (dOn d).bv:=by
 rw[dOn]
 cases eqB d.bu 0
 .exact h
 exact {h with st:=⟨by simp,by simp⟩,wt:=⟨by simp,by simp⟩,k:=λe=>by simp at e}
theorem G7 {d:aD} (h:DP d):DP (yu d).bv:={h with wt:=⟨by simp[yu],by simp[yu]⟩}
theorem IZ {d:aD} (h:DP d) (c:Int):DP (uV d c).bv:=by
 have he:=h.ep
 rw[uV]
 cases h1:eqB c d.bg||!inR c 0 5
 .simp only[Xi,YX] at h1
  have hc:=bE.1 h1.2
  cases h2:eqB d.bu 2&&ltB d.a9 999999
  .exact {h with ce:=hc}
  rw[v0] at h2
  have:=mK h2.2
  exact G7 {h with ce:=hc,ep:=⟨by simp only;omega,by simp only;omega⟩}
 exact h
theorem P8 {d:aD} (h:DP d):DP (vB d):=by
 rw[vB]
 cases e:eqB d.bu 2
 .exact h
 have e:=pH e
 exact {h with st:=⟨by simp,by simp⟩,k:=λ_=>h.k (by omega)}
theorem NV {k r q:Int} (h0:0<=q) (h1:q<=999999):1<=(vec k r q).eP/\(vec k r q).eP<=2147483646:=by
 rw[vec,bE.2 ⟨h0,h1⟩];exact T1 _ _
theorem xp {m:aH} (h:mM m=true):(1<=m.aV/\m.aV<=8)/\(0<=m.bg/\m.bg<=5)/\(0<=m.ag/\m.ag<=999999)/\(0<=m.a9/\m.a9<=999999)/\0<=m.bK/\m.bK<=1000000000000:=by
 simp only[mM,v0,bE] at h;exact h
theorem Tx {d:aD} (h:DP d) {m:aH} (hm:mM m=true) (h1:d.bu=1):DP (IW d m).bv:=by
 obtain⟨_,_,hg,_⟩:=xp hm
 have hu:=SD d.c9.eP m.bP.fj m.bP.hO
 have hk:=NV (k:=d.c9.eP) (r:=m.bP.fj) hu.1 hu.2
 rw[IW]
 cases eqB (kS d.c9.eP d.c9.dM m.bP) 0
 .exact h
 refine {h with card:=?_,gn:=hg,rk:=⟨by simp only[cond_true];omega,by simp only[cond_true];omega⟩,k:=λe=>by simp only[cond_true] at e;omega}
 have hc:=h.card
 simp only[vg,v0] at hc ⊢
 exact⟨hc.1,hc.2.1,bE.2 hu⟩
theorem Tz {d:aD} (h:DP d) (m:aH):DP (Da d m).bv:=by
 have he:=h.ep
 rw[Da]
 cases h1:!mM m||(!eqB m.bg d.bg||eqB d.bu 0)
 .have hm:mM m=true:=by revert h1;cases mM m<;>simp
  obtain⟨_,_,hg,hep,_⟩:=xp hm
  simp only[cond_false]
  cases h2:eqB m.aV 2&&eqB d.bu 1
  .simp only[cond_false]
   cases h4:eqB m.aV 4&&(eqB d.bu 1&&(mc d.aO&&(eqB m.ag d.ag&&wY d.aO m)))
   .simp only[cond_false]
    cases h6:eqB m.aV 6&&(eqB d.bu 2&&(eqB m.ag d.ag&&(eqB m.a9 d.a9&&wY d.aO m)))
    .simp only[cond_false]
     cases h7:eqB m.aV 7&&(eqB d.bu 3&&ltB d.a9 999999)
     .simp only[cond_false]
      cases h8:eqB m.aV 7&&eqB d.bu 2
      .exact h
      exact G7 h
     simp only[v0] at h7
     have h3:=pH h7.2.1
     have:=mK h7.2.2
     exact G7 {h with st:=⟨by simp,by simp⟩,ep:=⟨by simp only;omega,by simp only;omega⟩,k:=λ_=>h.k (by omega)}
    exact {h with}
   simp only[v0] at h4
   exact {h with st:=⟨by simp,by simp⟩,ep:=hep,k:=λ_=>h4.2.2.1}
  rw[v0] at h2
  exact Tx h hm (pH h2.2)
 exact h
theorem Db:∀(xs:List ae) (n:Int) (dl:List bm),∃t d,xs=t++d/\qs xs n dl=⟨n+t.length,d,dl++t.map λx=>⟨x.aS⟩⟩/\(∀(k:Nat) (x:ae),t[k]?=some x->x.cV=n+k)/\((∃y ys,d=y::ys/\(y.cV≠n+t.length\/24<=dl.length+t.length))\/d=[])/\(t≠[]->dl.length+t.length<=24)
 |[],n,dl=>⟨[],[],rfl,by simp[qs],by simp,.inr rfl,by simp⟩
 |x::xs,n,dl=>by
  rw[qs]
  by_cases h:x.cV=n/\dl.length<24
  .rw[if_pos h]
   obtain⟨t,d,e1,e2,e3,e4,e5⟩:=Db xs (n+1) (dl++[⟨x.aS⟩])
   refine⟨x::t,d,by rw[e1];rfl,?_,λk y hy=>?_,?_,λ_=>?_⟩
   .rw[e2];simp;omega
   .cases k with
    |zero=>simp at hy;subst hy;simp;exact h.1
    |succ k=>have:=e3 k y (by simpa using hy);rw[this];omega
   .rcases e4 with⟨y,ys,e,h4⟩|e
    .left;refine⟨y,ys,e,?_⟩
     simp only[Xp,Ze,W8,YS] at h4 ⊢
     rcases h4 with h4|h4
     .left;omega
     right;omega
    exact .inr e
   simp only[W8]
   by_cases ht:t=[]
   .subst ht;simp;omega
   have:=e5 ht;simp at this;omega
  rw[if_neg h]
  refine⟨[],x::xs,rfl,by simp,by simp,.inl ⟨x,xs,rfl,?_⟩,by simp⟩
  simp only[YS]
  by_cases hx:x.cV=n
  .right;have:¬dl.length<24:=λhl=>h ⟨hx,hl⟩;omega
  left;omega
structure RcV (r:aK):Prop where
 n:r.bz=(r.aQ.length:Int)+1
 l:r.aQ.length<=24
 d:∀p∈r.aQ,p.aS.length<=60
 pl:r.aF.length<=8
 pr:∀x∈r.aF,r.bz+1<=x.cV/\x.cV<=r.bz+7/\x.aS.length<=60
 po:r.aF.Pairwise λx y=>x.cV<y.cV
theorem D3 {r:aK}:pC r=true↔RcV r:=by
 constructor
 .intro h
  have hl:=xF h
  simp only[pC,v0,y5,W6,rv,ee] at h
  obtain⟨h1,h2,h3,h4,h5⟩:=h
  have hp:∀(k:Nat) (x:ae),r.aF[k]?=some x->(r.bz+1<=x.cV/\x.cV<=r.bz+7)/\iQ ae.cV r.aF k x=true/\x.aS.length<=60:=λk x hx=>by
   have:=h5 k x hx
   simp only[wd,v0,bE,rv] at this
   rw[bL (n:=r.bz+1) ZK,bL (n:=r.bz+8) ZK,bL (n:=r.bz+8-1) ZK] at this
   exact⟨by omega,this.2⟩
  refine⟨hl.1,hl.2.1,h3,hl.2.2,λx hx=>?_,FF λk x hx=>(hp k x hx).2.1⟩
  obtain⟨k,hk⟩:=Xe hx
  have:=hp k x hk
  exact⟨this.1.1,this.1.2,this.2.2⟩
 rintro⟨h1,h2,h3,h4,h5,h6⟩
 simp only[pC,v0,y5,W6,rv,ee]
 refine⟨eqB_t.2 (by rw[bL ZK];exact h1),leB_t.2 ZK,h3,leB_t.2 ZK,λk x hx=>?_⟩
 have:=h5 x (W2 hx)
 simp only[wd,v0,bE,rv]
 rw[bL (n:=r.bz+1) ZK,bL (n:=r.bz+8) ZK,bL (n:=r.bz+8-1) ZK]
 exact⟨by omega,CA h6 hx,this.2.2⟩
attribute [local simp] bA bb be
theorem Mk {α:Type} {key:α->Int}:∀{xs:List α} {a b:Int},(xs.Pairwise λx y=>key x<key y)->(∀x∈xs,a<=key x/\key x<=b)->(xs.length:Int)<=max 0 (b-a+1)
 |[],a,b,_,_=>by simp;omega
 |x::xs,a,b,h,hr=>by
  have hx:=hr x (by simp)
  have ih:=Mk (xs:=xs) (a:=key x+1) (b:=b) (YT.1 h).2 λy hy=>⟨by have:=(YT.1 h).1 y hy;omega,(hr y (by simp[hy])).2⟩
  simp only[W8];omega
theorem UZ {x:ae}:∀{xs:List ae},(xs.Pairwise λa b=>a.cV<b.cV)->∀y∈xs.dropWhile (before x.cV),x.cV<=y.cV
 |[],_,y,hy=>by simp at hy
 |z::xs,h,y,hy=>by
  rw[Zu] at hy
  cases hb:before x.cV z<;>rw[hb] at hy
  .have hz:=s4 hb
   rcases W5.1 hy with e|hy
   .subst e;exact hz
   have:=(YT.1 h).1 y hy;omega
  exact UZ (YT.1 h).2 y hy
theorem SA {α:Type} (p:α->Bool):∀(xs:List α) (y:α),y∈xs.takeWhile p->p y=true
 |[],y,h=>by simp at h
 |x::xs,y,h=>by
  rw[Y1] at h
  cases hp:p x<;>rw[hp] at h
  .simp at h
  rcases W5.1 h with e|h
  .subst e;exact hp
  exact SA p xs y h
theorem tw_lt {q:Int} {xs:List ae}:∀y∈xs.takeWhile (before q),y.cV<q:=λy hy=>mK (show ltB y.cV q=true from SA (before q) xs y hy)
theorem QP {x:ae} {xs:List ae} (h:xs.Pairwise λa b=>a.cV<b.cV) (hn:∀y∈xs,y.cV≠x.cV):(pN x xs).Pairwise λa b=>a.cV<b.cV:=by
 have e:=Zc (p:=before x.cV) (l:=xs)
 rw[<-e,YU] at h
 obtain⟨h1,h2,h3⟩:=h
 rw[pN,List.append_assoc,YU]
 refine⟨h1,YT.2 ⟨λy hy=>?_,h2⟩,λa ha b hb=>?_⟩
 .have hm:y∈xs:=Zd _ hy
  have:=hn y hm
  have hge:x.cV<=y.cV:=by
   have hs:xs.Pairwise λa b=>a.cV<b.cV:=by rw[<-e,YU];exact⟨h1,h2,h3⟩
   exact UZ hs y hy
  omega
 rcases W3.1 hb with hb|hb
 .simp at hb;subst hb;exact tw_lt a ha
 exact h3 a ha b hb
theorem zH {x y:ae} {xs:List ae}:y∈pN x xs↔y=x\/y∈xs:=by
 rw[pN]
 constructor
 .intro h
  simp only[W3,X7] at h
  rcases h with(h|h)|h
  .exact .inr (Zt _ h)
  .exact .inl h
  exact .inr (Zd _ h)
 rintro(h|h)
 .simp[h]
 rw[<-Zc (p:=before x.cV) (l:=xs)] at h
 simp only[W3,X7] at h ⊢
 rcases h with h|h
 .exact .inl (.inl h)
 exact .inr h
theorem EI {r:aK} (h:RcV r) {x:ae} (hl:B9 r x=false):
 ∃t d,pN x r.aF=t++d/\(∀(k:Nat) (y:ae),t[k]?=some y->y.cV=r.bz+k)/\(oV r x).bz=r.bz+t.length/\(oV r x).aQ=r.aQ++t.map (λy=>⟨y.aS⟩)/\RcV (oV r x)/\
  ((oV r x).aF=d\/(oV r x).aF=[])/\r.aQ.length+t.length<=24/\(x.cV=r.bz->t≠[]):=by
 obtain⟨t,d,e1,e2,e3,e4,e5⟩:=Db (pN x r.aF) r.bz r.aQ
 have hl2:=hl
 simp only[B9,Xi,YX] at hl
 obtain⟨l1,l2,l3,l4,l5⟩:=hl
 have l2:=s4 l2
 rw[bE] at l3
 have l5:=zK l5
 have hn:∀y∈r.aF,y.cV≠x.cV:=λy hy=>by
  rw[Yd] at l4
  have:=l4 y hy
  simpa [eqB] using this
 have hasc:=QP h.po hn
 have hrng:∀y∈pN x r.aF,r.bz<=y.cV/\y.cV<=r.bz+7/\y.aS.length<=60:=λy hy=>by
  rcases zH.1 hy with rfl|hy
  .exact⟨l3.1,l3.2,by omega⟩
  have:=h.pr y hy;exact⟨by omega,by omega,this.2.2⟩
 have hlen:=Mk (key:=ae.cV) hasc (a:=r.bz) (b:=r.bz+7) λy hy=>⟨(hrng y hy).1,(hrng y hy).2.1⟩
 have htl:r.aQ.length+t.length<=24:=by
  by_cases ht:t=[]
  .subst ht;have:=h.l;simp;omega
  exact e5 ht
 have hd:∀y∈d,r.bz+t.length<=y.cV:=λy hy=>by
  by_cases ht:t=[]
  .subst ht
   have:=(hrng y (by rw[e1];simp[hy])).1
   simp;omega
  obtain⟨k,hk⟩:∃k,t.length=k+1:=⟨t.length-1,by have:=Zv.2 ht;omega⟩
  obtain⟨z,hz⟩:∃z,t[k]?=some z:=⟨_,W0 (show k<t.length by omega)⟩
  have:=e3 k z hz
  rw[e1,YU] at hasc
  have:=hasc.2.2 z (W2 hz) y hy
  omega
 have hdl:(r.aQ++t.map λy=>(⟨y.aS⟩:bm)).length=r.aQ.length+t.length:=by simp
 have hdata:∀p∈r.aQ++t.map λy=>(⟨y.aS⟩:bm),p.aS.length<=60:=λp hp=>by
  rcases W3.1 hp with hp|hp
  .exact h.d p hp
  obtain⟨y,hy,rfl⟩:=X1.1 hp
  exact(hrng y (by rw[e1];simp[hy])).2.2
 have hnx:=h.n
 have hsome:x.cV=r.bz->t≠[]:=λe ht=>by
  subst ht
  simp only[X2] at e1
  rcases e4 with⟨y,ys,e,h4⟩|e
  .simp only[YS] at h4
   have hy:y.cV<=x.cV:=by
    have hx:x∈d:=by rw[<-e1];exact zH.2 (.inl rfl)
    rw[e] at hx
    rcases W5.1 hx with e'|hx
    .rw[e'];omega
    rw[e1,e] at hasc
    have:=(YT.1 hasc).1 x hx
    omega
   have:=(hrng y (by rw[e1,e];simp)).1
   rcases h4 with h4|h4<;>omega
  have:(pN x r.aF).length=0:=by rw[e1,e];rfl
  rw[tv] at this;omega
 refine⟨t,d,e1,e3,?_⟩
 rw[oV,hl2]
 simp only[cond_false,e2,hdl]
 cases h24:leB 24 ((r.aQ.length+t.length:Nat):Int)
 .have h24:=zK h24
  simp only[cond_false]
  refine⟨trivial,trivial,⟨by simp only[hdl];omega,by simp only[hdl];omega,hdata,?_,λy hy=>?_,?_⟩,.inl trivial,htl,hsome⟩
  .have:t.length+d.length=(pN x r.aF).length:=by rw[e1];simp
   simp only;omega
  .have h1:=hrng y (by rw[e1];simp[hy])
   have h2:=hd y hy
   refine⟨?_,by simp only;omega,h1.2.2⟩
   simp only
   rcases e4 with⟨z,zs,e,h4⟩|e
   .have hz:=hd z (by rw[e];simp)
    have hzn:z.cV≠r.bz+t.length:=by rcases h4 with h4|h4;exact h4;omega
    rw[e] at hy
    rcases W5.1 hy with e'|hy'
    .rw[e'];omega
    rw[e1,e,YU] at hasc
    have:=(YT.1 hasc.2.1).1 y hy'
    omega
   rw[e] at hy;simp at hy
  rw[e1,YU] at hasc
  exact hasc.2.1
 have h24:=xN h24
 simp only[cond_true]
 exact⟨trivial,trivial,⟨by simp only[hdl];omega,by simp only[hdl];omega,hdata,by simp,by simp,.nil⟩,.inr trivial,htl,hsome⟩
theorem Sr {r:aK} (h:RP r) {x:ae} (hx:okB x.aS):RP (oV r x):=by
 cases hl:B9 r x
 .have hv:=D3.1 h.v
  obtain⟨t,d,e1,e3,e4,e5,e6,e7,e8,e9⟩:=EI hv hl
  have hb:∀y∈t++d,okB y.aS:=λy hy=>by
   rw[<-e1] at hy
   rcases zH.1 hy with rfl|hy
   .exact hx
   exact h.b1 y hy
  refine⟨Ss h.ok x,D3.2 e6,λy hy=>?_,λp hp=>?_⟩
  .rcases e7 with e|e<;>rw[e] at hy
   .exact hb y (by simp[hy])
   simp at hy
  rw[e5] at hp
  rcases W3.1 hp with hp|hp
  .exact h.b2 p hp
  obtain⟨y,hy,rfl⟩:=X1.1 hp
  exact hb y (by simp[hy])
 rw[oV,hl];exact h
theorem Rn (root g e:Int) (x:aC):okB (tC root g e x).1.aS:=by
 rw[tC];split
 .exact TB _ _
 intro y hy;simp[fa] at hy
theorem Ty {d:aD} (h:DP d) (x:aC):DP (C9 d x).bv:=by
 simp only[C9]
 cases eqB d.bu 2&&(tC d.aO d.ag d.a9 x).2
 .exact h
 exact {h with rc:=Sr h.rc (Rn _ _ _ _)}
attribute [local simp] bA bb be
theorem Tb:jj fk=true:=by decide+kernel
theorem FZ {k:Int}:∀{xs:List ae} {f:Int},(∀(i:Nat) (x:ae),xs[i]?=some x->x.cV=f+i)->(xs.filter λx=>leB k x.cV)=xs.drop (k-f).toNat
 |[],f,_=>by simp
 |x::xs,f,h=>by
  have hx:x.cV=f:=by have:=h 0 x rfl;simpa using this
  have ih:=FZ (k:=k) (xs:=xs) (f:=f+1) λi y hy=>by have:=h (i+1) y (by simpa using hy);rw[this];omega
  rw[Zk,hx]
  by_cases hk:k<=f
  .rw[leB_t.2 hk,if_pos rfl,ih,show(k-f).toNat=0 by omega,show(k-(f+1)).toNat=0 by omega];rfl
  rw[leB_f.2 ZK,if_neg (by simp),ih,show(k-f).toNat=(k-(f+1)).toNat+1 by omega];rfl
theorem FE {w:aX} (h:WOK w) {k:Int} (hk:ltB w.bz k=false):kU w k=⟨w.bz,w.az.drop (k-(w.bz-w.az.length)).toNat⟩:=by
 rw[kU,hk,FZ (f:=w.bz-w.az.length) λi x hx=>(h.u i x hx).1];rfl
theorem IA {w:aX} (h:WOK w) (k:Int):WOK (kU w k):=by
 cases hk:ltB w.bz k
 .have hl:=h.l
  have hf:=h.f
  have hn:=h.n
  rw[FE h hk]
  generalize (k-(w.bz-w.az.length)).toNat=m
  refine⟨hn,by simp;omega,by simp;omega,λi x hx=>?_⟩
  simp only at hx ⊢
  rw[List.getElem?_drop] at hx
  have hi:=(W1.1 hx).1
  have:=h.u _ x hx
  rw[List.length_drop]
  omega
 rw[kU,hk];exact h
theorem y9 (w:aX) (k:Int):∀x∈(kU w k).az,x∈w.az:=λx hx=>by
 rw[kU] at hx;revert hx
 cases ltB w.bz k
 .exact λhx=>(Yc.1 hx).1
 exact id
theorem PG {w:aX} (h:WOK w) (k:Int):0<=f8 (kU w k).az/\f8 (kU w k).az<=f8 w.az:=by
 have h1:=xE λx hx=>h.d x (y9 w k x hx)
 refine⟨h1.1,?_⟩
 cases hk:ltB w.bz k
 .have:=Th h hk
  have h2:=xE (xs:=w.az.filter λx=>ltB x.cV k) λx hx=>h.d x (Yc.1 hx).1
  omega
 rw[kU,hk];exact YP _
theorem KX {q:cT} {n:Int} (h:0<=n/\n<=q.cH-q.ed):xb q n={q with ed:=q.ed+n}:=by rw[xb,bE.2 h];rfl
theorem Gq {s:ah} {a:am} (h:SG s a) (k:Int):SG (mP s k) a/\(mP s k).bM={s.bM with ed:=s.bM.ed+(f8 s.aw.az-f8 (kU s.aw k).az)}:=by
 have hs:=PG h.sp.win k
 have hp:=h.sp.pd
 have hq:=h.sp.q
 have e:(mP s k).bM={s.bM with ed:=s.bM.ed+(f8 s.aw.az-f8 (kU s.aw k).az)}:=KX ⟨by omega,by omega⟩
 have hu:=hq.u
 have hg:=hq.g
 have hq':QOK (mP s k).bM:=by rw[e];exact⟨hq.i,by simp only;omega,by simp only;omega,hq.m⟩
 refine⟨⟨{h.sp with ok:=⟨h.sp.ok.1,h.sp.ok.2.1,(IA h.sp.win k).ok⟩,win:=IA h.sp.win k,q:=hq',qu:=⟨by simp[mP],by simp[mP]⟩,nx:=?_,un:=λx hx=>h.sp.un x (y9 _ _ x hx),pd:=?_},h.b1,λx hx=>h.b2 x (y9 _ _ x hx),⟨h.mo.acc,hq',?_⟩⟩,e⟩
 .have:(mP s k).aw.bz=s.aw.bz:=by simp only[mP,kU];cases ltB s.aw.bz k<;>rfl
  rw[this];exact h.sp.nx
 .rw[e];simp only[mP];omega
 rw[e];exact h.mo.res
theorem Uw {s:ah} {a:am} (h:SG s a) (m:aH):SG (J5 s m).aP a:=by
 have hr:=Ny h.sp.rcd
 simp only[J5]
 cases he:eqB s.bC.cV 999999
 .have he:=I9 he
  have hk:=NV (k:=s.bC.eP) (r:=IP s.bC.ID (s.bC.cV+1)) (q:=s.bC.cV+1) ZK ZK
  refine⟨{h.sp with rcd:=?_,k2:=λ_=>?_,ps:=⟨by simp only[cond_false];omega,by simp only[cond_false];omega⟩},h.b1,h.b2,h.mo⟩
  .have hc:=h.sp.rcd
   simp only[ro,v0] at hc
   simp only[cond_false,ro,v0]
   exact⟨hc.1,hc.2.1,bE.2 ZK⟩
  exact bE.2 hk
 exact h
theorem Uv {s:ah} {a:am} (h:SG s a) {c:Int} (hc:0<=c/\c<=5) (hp:0<s.bF) (he:s.a9<999999):SG (xQ s c) a:=by
 have hk:=h.sp.k2 hp
 have hkr:=bE.1 hk
 have hep:=h.sp.ep
 exact⟨{h.sp with page:=Tb,st:=⟨by simp[xQ],by simp[xQ]⟩,k1:=λ_=>hk,k2:=λe=>by simp[xQ] at e,ps:=⟨by simp[xQ],by simp[xQ]⟩,gn:=h.sp.ps,ep:=⟨by simp only[xQ];omega,by simp only[xQ];omega⟩,rk:=⟨by simp only[xQ];omega,by simp only[xQ];omega⟩,ce:=hc,qu:=⟨by simp[xQ],by simp[xQ]⟩},h.b1,h.b2,h.mo⟩
theorem R3 {s:ah} {a:am} (h:SG s a) {m:aH} (hm:mM m=true):SG (BM s m).aP a:=by
 obtain⟨_,hc,_⟩:=xp hm
 rw[BM]
 cases hb:leB s.bF 0||(!eqB m.ag s.bF||(!eqB m.bK s.aF.vp||leB 999999 s.a9))
 .simp only[Xi] at hb
  exact Uv h hc (zK hb.1) (zK hb.2.2.2)
 exact h
theorem RY {s:ah} {a:am} (h:SG s a) {m:aH} (hm:mM m=true):SG (BL s m).aP a:=by
 obtain⟨_,hc,_,he,_⟩:=xp hm
 rw[BL]
 cases !tx s m||(ltB m.a9 s.a9||(eqB m.a9 s.a9&&!eqB m.bg s.bg))
 .exact⟨{h.sp with page:=Tb,ep:=he,ce:=hc,qu:=⟨by simp[yM],by simp[yM]⟩,rt:=⟨by simp[yM],by simp[yM]⟩},h.b1,h.b2,h.mo⟩
 exact h
theorem Uu {s:ah} {a:am} (h:SG s a) (m:aH):SG (J4 s m).aP a:=by
 rw[J4]
 cases !tx s m||ltB s.aw.bz m.bK
 .exact(Gq h m.bK).1
 exact h
theorem Ws {s:ah} {a:am} (h:SG s a) (m:aH):SG (sUp s m).aP a:=by
 rw[sUp]
 cases hm:mM m
 .exact h
 cases eqB m.aV 1
 .cases eqB m.aV 3
  .cases eqB m.aV 5
   .cases eqB m.aV 8
    .exact h
    exact Uu h m
   exact RY h hm
  exact R3 h hm
 exact Uw h m
theorem RU {s:ah} {a:am} (h:SG s a):SG (g9 s) a:=
 ⟨{h.sp with page:=Tb,k2:=λe=>by simp[g9] at e,ps:=⟨by simp[g9],by simp[g9]⟩,qu:=⟨by simp[g9],by simp[g9]⟩,rt:=⟨by simp[g9],by simp[g9]⟩},h.b1,h.b2,h.mo⟩
theorem Uy {s:ah} {a:am} (h:SG s a) {b:List Int} (hb:okB b):SG (rm s b).1 a:=by
 rw[rm]
 cases h1:leB 24 (s.aA.length:Int)||ltB 60 (b.length:Int)
 .simp only[Xi] at h1
  have h2:=zK h1.1
  have h3:=s4 h1.2
  have hnx:=h.sp.nx
  refine⟨{h.sp with ok:=⟨h.sp.ok.1,⟨by simp;omega,λp hp=>?_⟩,h.sp.ok.2.2⟩,sl:=by simp;omega,sd:=λp hp=>?_,nx:=by simp;omega,un:=λx hx=>?_},λp hp=>?_,h.b2,h.mo⟩
  .rcases W3.1 hp with hp|hp
   .exact h.sp.ok.2.1.2 p hp
   simp at hp;subst hp;exact⟨by simp only;omega,λ_ _=>trivial⟩
  .rcases W3.1 hp with hp|hp
   .exact h.sp.sd p hp
   simp at hp;subst hp;simp only;omega
  .have hu:=h.sp.un x hx
   have hs:=SC h.sp.win hx
   simp only[y4,cond_false] at hu ⊢
   rw[W9 ZK]
   exact hu
  rcases W3.1 hp with hp|hp
  .exact h.b1 p hp
  simp at hp;subst hp;exact hb
 exact h
theorem Sw {p:cP} (ha:0<=p.fB/\p.fB<=2) (hp:POK p) (m:aM):jj (AF p m).1=true:=by
 have h1:=hp.a
 have h2:=hp.w
 rw[AF]
 simp only[jj,v0,bE]
 cases hb:ltB 0 p.f5
 .simp only[cond_false]
  refine⟨ha,?_,by omega⟩
  cases hc:ltB p.eM 4
  .simp
  have:=mK hc
  simp only[cond_true];omega
 have:=mK hb
 simp only[cond_true];omega
theorem JO {p:cP} (h:jj p=true):POK p:=by
 simp only[jj,v0,bE] at h;exact⟨h.2.1,h.2.2⟩
theorem N4 {m:aM} (h:ol m=true) (c:Int):0<=qp m c/\qp m c<=2:=by
 rw[qp]
 cases hc:ef m c
 .simp
 obtain⟨d,_,_,h2⟩:=Cs hc
 simp only[ol,v0,ee] at h
 have:=h.2 _ d h2
 simp only[wW,v0,bE] at this
 rw[h2];exact this.1
theorem El {s:ah} {a:am} (h:SG s a) {m:aM} (hm:ol m=true):SG (oR s a m).aP (oR s a m).eo:=by
 rw[oR]
 cases eqB s.bu 1
 .exact h
 simp only[au]
 have hq:=zX h.sp
 cases ltB 4 (lp s)
 .exact Ke 2 _ _ _ (h.upd hq (z2 h.sp))
 have h1:=h.upd hq h.sp.rt
 have hp:=JO h.sp.page
 exact⟨{h1.sp with page:=Sw (p:={s.gZ with fB:=qp m s.bg}) (N4 hm _) ⟨hp.a,hp.w⟩ m},h1.b1,h1.b2,h1.mo⟩
attribute [local simp] bA bb be
structure FP (nd nc:Nat) (f:bD):Prop where
 d:0<=f.bv/\f.bv<nd
 c:0<=f.bg/\f.bg<nc
 b:okB f.cr.bp.aS
 ok:jF f
structure MP (nc:Nat) (i:Nat) (d:aD) (s:ah) (a:am):Prop where
 dp:DP d
 dc:d.bg<nc
 sg:SG s a
 sc:s.bg<nc
 si:s.bM.ax=i
 ids:Dw d s=true
structure NP (B:Int) (n:ab):Prop where
 map:ol n.d8=true
 mok:fw n.d8
 core:f4 n.cq=true
 up:n.cq.dm≠0
 ld:n.an.length<=4
 ls:n.aj.length=n.an.length
 la:n.bi.length=n.an.length
 m:∀(i:Nat) d s a,n.an[i]?=some d->n.aj[i]?=some s->n.bi[i]?=some a->MP n.d8.aR.length i d s a
 fl:n.aN.length<=200
 fs:∀f∈n.aN,FP n.an.length n.d8.aR.length f
 dn:inR n.cZ 0 (WR ((jY .i64 1 (n.d8.aR.length:Int))-1))=true
 nw:0<=n.oZ/\n.oZ<=100000
 lo:0<=n.kT/\n.kT<=B
theorem mL {m:aM} (h:ol m=true):1<=m.aR.length/\m.aR.length<=6:=by
 simp only[ol,v0,bE] at h;omega
theorem NP.at_ {B:Int} {n:ab} (h:NP B n) {i:Nat} (hi:i<n.an.length):∃d s a,n.an[i]?=some d/\n.aj[i]?=some s/\n.bi[i]?=some a/\MP n.d8.aR.length i d s a:=by
 have h1:=h.ls
 have h2:=h.la
 obtain⟨d,hd⟩:∃d,n.an[i]?=some d:=⟨_,W0 hi⟩
 obtain⟨s,hs⟩:∃s,n.aj[i]?=some s:=⟨_,W0 (show i<n.aj.length by omega)⟩
 obtain⟨a,ha⟩:∃a,n.bi[i]?=some a:=⟨_,W0 (show i<n.bi.length by omega)⟩
 exact⟨d,s,a,hd,hs,ha,h.m i d s a hd hs ha⟩
theorem NP.mono {B B':Int} {n:ab} (h:NP B n) (hb:B<=B'):NP B' n:={h with lo:=⟨h.lo.1,by have:=h.lo.2;omega⟩}
def fg (n:ab) (f:bD):ab:=bif leB 200 (n.aN.length:Int) then {n with kT:=WR (n.kT+1)} else {n with aN:=n.aN++[f]}
theorem zT {n:ab} {f:bD} (hf:jF f):fC n f=some (fg n f):=by
 simp only[fC,Jf hf,YO,fg]
 cases hb:leB 200 (n.aN.length:Int)
 .have:=zK hb
  rw[cN ZK (by simp;omega)];rfl
 rfl
theorem yF {B:Int} {n:ab} (h:NP B n) {f:bD} (hf:FP n.an.length n.d8.aR.length f) (hB:B<4611686018427387904):NP (B+1) (fg n f):=by
 have hl:=h.lo
 rw[fg]
 cases hb:leB 200 (n.aN.length:Int)
 .have hb:=zK hb
  refine {h.mono (show B<=B+1 by omega) with fl:=by simp;omega,fs:=λg hg=>?_}
  rcases W3.1 hg with hg|hg
  .exact h.fs g hg
  simp at hg;subst hg;exact hf
 exact {h.mono (show B<=B+1 by omega) with lo:=by simp only[cond_true];rw[bL ZK];omega}
theorem kD (n:ab) (f:bD):(fg n f).an=n.an/\(fg n f).aj=n.aj/\(fg n f).bi=n.bi/\(fg n f).d8=n.d8/\(fg n f).cZ=n.cZ/\(fg n f).cq=n.cq/\(fg n f).oZ=n.oZ:=by
 rw[fg];cases leB 200 (n.aN.length:Int)<;>exact⟨rfl,rfl,rfl,rfl,rfl,rfl,rfl⟩
def sends (n:ab) (l:List bD):ab:=l.foldl fg n
theorem fG:∀(l:List bD) (n:ab),(sends n l).an=n.an/\(sends n l).aj=n.aj/\(sends n l).bi=n.bi/\(sends n l).d8=n.d8/\(sends n l).cZ=n.cZ/\(sends n l).cq=n.cq/\(sends n l).oZ=n.oZ
 |[],n=>⟨rfl,rfl,rfl,rfl,rfl,rfl,rfl⟩
 |f::l,n=>by
  have h1:=kD n f
  have h2:=fG l (fg n f)
  have e:sends n (f::l)=sends (fg n f) l:=rfl
  rw[e,h2.1,h2.2.1,h2.2.2.1,h2.2.2.2.1,h2.2.2.2.2.1,h2.2.2.2.2.2.1,h2.2.2.2.2.2.2];exact h1
theorem wF:∀(l:List bD) {B:Int} {n:ab},NP B n->(∀f∈l,FP n.an.length n.d8.aR.length f)->B+l.length<4611686018427387904->NP (B+l.length) (sends n l)
 |[],B,n,h,_,_=>by simpa [sends] using h
 |f::l,B,n,h,hf,hB=>by
  simp only[W8] at hB ⊢
  have h1:=yF h (hf f (by simp)) ZK
  have hk:=kD n f
  have:=wF l h1 (λg hg=>by rw[hk.1,hk.2.2.2.1];exact hf g (by simp[hg])) ZK
  rw[show B+((l.length+1:Nat):Int)=B+1+(l.length:Int) by omega]
  exact this
theorem AU (g:ab->bD->Option ab) {α:Type} (mk:α->bD) (hg:∀n x,g n (mk x)=some (fg n (mk x))):∀(l:List α) (n:ab),jK (λ(n:ab) x=>YL (g n (mk x)) λr=>some (cf.next (ρ:=ab) r)) some l n=some (sends n (l.map mk))
 |[],n=>rfl
 |x::l,n=>by rw[jK,hg];exact AU g mk hg l _
def jx (i:Int) (up:Bool) (m:aH):bD:=⟨i,up,false,m.bg,m,eC⟩
def wh (i c:Int) (x:aC):bD:=⟨i,false,true,c,d6,x⟩
theorem Iv:mN eC:=⟨by decide,λ_ _=>trivial⟩
theorem H8 (i:Int) (up:Bool) (m:aH):jF (jx i up m):=Iv
theorem LO (n:ab) (i:Int) (up:Bool) {l:List aH} (hl:l.length<=1048576):kt n i up l=some (sends n (l.map (jx i up))):=by
 have:=fr (step:=ku i up l) l (λk n=>((k:Int),n)) (λn x=>YL (fC n (jx i up x)) λr=>some (.next r)) some ZK
  (λk x n hx hk=>by
   simp only[ku,cg hk,be,hx,bN (show k<9223372036854775807 by omega),jx,au]
   cases fC n ⟨i,up,false,x.bg,x,eC⟩<;>rfl) (λn=>by simp[ku]) n
 rw[AU fC (jx i up) (λn x=>zT (H8 i up x))] at this
 rw[kt,show iter (ku i up l) FU (0,n)=_ from this];rfl
def gq (n:ab) (i:Nat) (r:bh):ab:=sends {n with an:=n.an.set i r.bv} (r.dX.map (jx i true))
theorem wg {n:ab} {i:Nat} (hi:i<n.an.length) {r:bh} (hr:r.dX.length<=1048576):iA n (i:Int) r=some (gq n i r):=by
 simp only[iA,be,W0 hi,YO,YQ,LO _ _ _ hr,gq]
theorem H6 {nd nc:Nat} {i:Nat} (hi:i<nd) {up:Bool} {m:aH} (hm:0<=m.bg/\m.bg<nc):FP nd nc (jx i up m):=
 ⟨by simp only[jx];omega,hm,λx hx=>by simp[jx,eC,kQ] at hx,H8 _ _ _⟩
theorem mg {α:Type} {xs:List α} {i j:Nat} {x y:α} (h:(xs.set i x)[j]?=some y):(i=j/\x=y)\/(i≠j/\xs[j]?=some y):=by
 rw[YB] at h
 by_cases e:i=j
 .rw[if_pos e] at h
  split at h
  .cases h;exact .inl ⟨e,rfl⟩
  cases h
 rw[if_neg e] at h;exact .inr ⟨e,h⟩
theorem NP.setM {B:Int} {n:ab} (h:NP B n) {i:Nat} {d:aD} {s:ah} {a:am} (hm:MP n.d8.aR.length i d s a):
 NP B {n with an:=n.an.set i d,aj:=n.aj.set i s,bi:=n.bi.set i a}:=by
 have h1:=h.ls
 have h2:=h.la
 refine {h with ld:=by simpa using h.ld,ls:=by simpa using h1,la:=by simpa using h2,m:=λj d' s' a' hd hs ha=>?_,fs:=λf hf=>by rw[List.length_set];exact h.fs f hf}
 rcases mg hd with⟨e1,e2⟩|⟨e1,e2⟩<;>rcases mg hs with⟨e3,e4⟩|⟨e3,e4⟩<;>rcases mg ha with⟨e5,e6⟩|⟨e5,e6⟩<;>first|omega|skip
 .subst e1;subst e2;subst e4;subst e6;exact hm
 exact h.m j d' s' a' e2 e4 e6
theorem ea {α:Type} {xs:List α} {i:Nat} {x:α} (h:xs[i]?=some x):xs.set i x=xs:=by
 apply Y3
 intro j
 rw[YB]
 by_cases e:i=j
 .subst e;rw[if_pos rfl,if_pos (W1.1 h).1,h]
 rw[if_neg e]
theorem NP.setD {B:Int} {n:ab} (h:NP B n) {i:Nat} {d:aD} {s:ah} {a:am} (hs:n.aj[i]?=some s) (ha:n.bi[i]?=some a) (hm:MP n.d8.aR.length i d s a):NP B {n with an:=n.an.set i d}:=by
 have:=h.setM hm
 rwa [ea hs,ea ha] at this
theorem NP.setS {B:Int} {n:ab} (h:NP B n) {i:Nat} {d:aD} {s:ah} {a:am} (hd:n.an[i]?=some d) (ha:n.bi[i]?=some a) (hm:MP n.d8.aR.length i d s a):NP B {n with aj:=n.aj.set i s}:=by
 have:=h.setM hm
 rwa [ea hd,ea ha] at this
attribute [local simp] bA bb be
structure DK (c:Int) (d:aD) (r:bh):Prop where
 id:r.bv.c9.ID=d.c9.ID
 key:r.bv.c9.eP=d.c9.eP
 cell:r.bv.bg=c
 sg:∀m∈r.dX,m.bg=c
 len:r.dX.length<=1
theorem DK.none (d:aD):DK d.bg d ⟨d,[]⟩:=⟨rfl,rfl,rfl,by simp,by simp⟩
theorem Tv (d:aD):DK d.bg d (yu d):=⟨rfl,rfl,rfl,by simp[yu,zm,wH],by simp[yu]⟩
theorem IV {d d':aD} (h:d'.c9=d.c9):DK d'.bg d (yu d'):=⟨by rw[<-h];rfl,by rw[<-h];rfl,rfl,by simp[yu,zm,wH],by simp[yu]⟩
theorem vC (d:aD):DK d.bg d (tk d):=by
 rw[tk]
 cases ltB 0 d.f5<;>cases eqB d.bu 1<;>cases eqB d.bu 2&&!d.de<;>exact⟨rfl,rfl,rfl,by simp[xc,zm,wH],by simp⟩
theorem KZ (d:aD):DK d.bg d (dOn d):=by
 rw[dOn];cases eqB d.bu 0<;>exact⟨rfl,rfl,rfl,by simp[xc],by simp⟩
theorem Ms (d:aD) (m:aH):DK d.bg d (Da d m):=by
 rw[Da]
 cases !mM m||(!eqB m.bg d.bg||eqB d.bu 0)
 .simp only[cond_false]
  cases eqB m.aV 2&&eqB d.bu 1
  .simp only[cond_false]
   cases eqB m.aV 4&&(eqB d.bu 1&&(mc d.aO&&(eqB m.ag d.ag&&wY d.aO m)))
   .simp only[cond_false]
    cases eqB m.aV 6&&(eqB d.bu 2&&(eqB m.ag d.ag&&(eqB m.a9 d.a9&&wY d.aO m)))
    .simp only[cond_false]
     cases eqB m.aV 7&&(eqB d.bu 3&&ltB d.a9 999999)
     .simp only[cond_false]
      cases eqB m.aV 7&&eqB d.bu 2
      .exact .none d
      exact Tv d
     exact IV (d:=d) (d':={d with bu:=2,a9:=d.a9+1}) rfl
    exact⟨rfl,rfl,rfl,by simp,by simp⟩
   exact⟨rfl,rfl,rfl,by simp,by simp⟩
  simp only[cond_true,IW]
  cases eqB (kS d.c9.eP d.c9.dM m.bP) 0<;>exact⟨rfl,rfl,rfl,by simp,by simp⟩
 exact .none d
theorem Mq (d:aD) (x:aC):DK d.bg d (C9 d x):=by
 simp only[C9]
 cases eqB d.bu 2&&(tC d.aO d.ag d.a9 x).2
 .exact .none d
 exact⟨rfl,rfl,rfl,by simp[dAck,wH],by simp⟩
theorem IX (d:aD) (c:Int):DK d.bg d (uV d c)\/(0<=c/\c<=5)/\DK c d (uV d c):=by
 rw[uV]
 cases h:eqB c d.bg||!inR c 0 5
 .simp only[Xi,YX] at h
  right;refine⟨bE.1 h.2,?_⟩
  simp only[cond_false]
  cases eqB d.bu 2&&ltB d.a9 999999
  .exact⟨rfl,rfl,rfl,by simp,by simp⟩
  exact IV (d:=d) (d':={d with bg:=c,a9:=d.a9+1}) rfl
 exact .inl (.none d)
structure SK (c:Int) (s:ah) (r:bR):Prop where
 id:r.aP.bC.ID=s.bC.ID
 key:r.aP.bC.eP=s.bC.eP
 si:r.aP.bM.ax=s.bM.ax
 cell:r.aP.bg=s.bg\/r.aP.bg=c
 sg:∀m∈r.dX,m.bg=c
 len:r.dX.length<=1
 sub:r.aP.aA=s.aA
theorem SK.none (c:Int) (s:ah):SK c s ⟨s,[]⟩:=⟨rfl,rfl,rfl,.inl rfl,by simp,by simp,rfl⟩
theorem R4 (s:ah) (m:aH):SK m.bg s (sUp s m):=by
 rw[sUp]
 cases mM m
 .exact .none _ s
 simp only[au]
 cases eqB m.aV 1
 .simp only[cond_false]
  cases eqB m.aV 3
  .simp only[cond_false]
   cases eqB m.aV 5
   .simp only[cond_false]
    cases eqB m.aV 8
    .exact .none _ s
    simp only[cond_true,J4]
    cases !tx s m||ltB s.aw.bz m.bK
    .refine⟨rfl,rfl,?_,.inl rfl,by simp,by simp,rfl⟩
     simp only[cond_false,mP,xb]
     cases inR (f8 s.aw.az-f8 (kU s.aw m.bK).az) 0 (s.bM.cH-s.bM.ed)<;>rfl
    exact .none _ s
   simp only[cond_true,BL]
   cases !tx s m||(ltB m.a9 s.a9||(eqB m.a9 s.a9&&!eqB m.bg s.bg))
   .exact⟨rfl,rfl,rfl,.inr rfl,by simp[xt,wH,yM],by simp,rfl⟩
   exact .none _ s
  simp only[cond_true,BM]
  cases leB s.bF 0||(!eqB m.ag s.bF||(!eqB m.bK s.aF.vp||leB 999999 s.a9))
  .exact⟨rfl,rfl,rfl,.inr rfl,by simp[xt,wH,xQ],by simp,rfl⟩
  exact .none _ s
 simp only[cond_true,J5]
 cases eqB s.bC.cV 999999
 .exact⟨rfl,rfl,rfl,.inl rfl,by simp,by simp,rfl⟩
 exact .none _ s
theorem MP.dev {nc i:Nat} {d:aD} {s:ah} {a:am} (h:MP nc i d s a) {c:Int} {r:bh} (hk:DK c d r) (hd:DP r.bv) (hc:c<nc):MP nc i r.bv s a:=by
 refine⟨hd,by rw[hk.cell];exact hc,h.sg,h.sc,h.si,?_⟩
 have:=h.ids
 simp only[Dw,hk.id,hk.key] at this ⊢;exact this
theorem MP.ses {nc i:Nat} {d:aD} {s:ah} {a:am} (h:MP nc i d s a) {c:Int} {r:bR} (hk:SK c s r) (hs:SG r.aP a) (hc:c<nc):MP nc i d r.aP a:=by
 refine⟨h.dp,h.dc,hs,?_,by rw[hk.si];exact h.si,?_⟩
 .rcases hk.cell with e|e<;>rw[e]
  .exact h.sc
  exact hc
 have:=h.ids
 simp only[Dw,hk.id,hk.key] at this ⊢;exact this
theorem kE {B:Int} {n:ab} (h:NP B n) {i:Nat} {d:aD} (hd:n.an[i]?=some d) {c:Int} {r:bh} (hk:DK c d r) (hr:DP r.bv) (hc:c<n.d8.aR.length) (hB:B+1<4611686018427387904):NP (B+1) (gq n i r):=by
 have hi:=(W1.1 hd).1
 obtain⟨d',s,a,h1,h2,h3,hm⟩:=h.at_ hi
 rw[hd] at h1;cases h1
 have hn:=h.setD h2 h3 (hm.dev hk hr hc)
 have hl:=hk.len
 have:=wF (r.dX.map (jx i true)) hn (λf hf=>by
  obtain⟨m,hm',rfl⟩:=X1.1 hf
  rw[show({n with an:=n.an.set i r.bv}:ab).an.length=n.an.length by simp]
  refine H6 hi ?_
  rw[hk.sg m hm',<-hk.cell];exact⟨hr.ce.1,by rw[hk.cell];exact hc⟩) (by simp;omega)
 exact this.mono (by simp;omega)
def yG (n:ab) (i:Nat) (r:bR):ab:=sends {n with aj:=n.aj.set i r.aP} (r.dX.map (jx i false))
theorem OT {B:Int} {n:ab} (h:NP B n) {i:Nat} {s:ah} (hs:n.aj[i]?=some s) {c:Int} {r:bR} (hk:SK c s r) (hr:∀a,SG s a->SG r.aP a) (hc:0<=c/\c<n.d8.aR.length) (hB:B+1<4611686018427387904):NP (B+1) (yG n i r):=by
 have hi:=(W1.1 hs).1
 have hls:=h.ls
 obtain⟨d,s',a,h1,h2,h3,hm⟩:=h.at_ (show i<n.an.length by omega)
 rw[hs] at h2;cases h2
 have hn:=h.setS h1 h3 (hm.ses hk (hr a hm.sg) hc.2)
 have hl:=hk.len
 have:=wF (r.dX.map (jx i false)) hn (λf hf=>by
  obtain⟨m,hm',rfl⟩:=X1.1 hf
  refine H6 (show i<n.an.length by omega) ?_
  rw[hk.sg m hm'];exact hc) (by simp;omega)
 exact this.mono (by simp;omega)
def jJ (n:ab) (k:Nat):ab:={n with aN:=n.aN.take k++n.aN.drop (k+1)}
theorem Ct {B:Int} {n:ab} (h:NP B n) (k:Nat):NP B (jJ n k):=by
 have:=h.fl
 refine {h with fl:=by simp[jJ];omega,fs:=λf hf=>?_}
 have:f∈n.aN:=by
  simp only[jJ,W3] at hf
  rcases hf with hf|hf
  .exact Xu hf
  exact List.mem_of_mem_drop hf
 exact h.fs f this
theorem NM {n:ab} (hl:n.aN.length<=200) {k:Nat} {f:bD} (hf:n.aN[k]?=some f):wV n (k:Int)=some (f,jJ n k):=by
 have hk:=(W1.1 hf).1
 have a1:gK n.aN 0 (k:Int)=true:=by simp[gK];omega
 have a2:gK n.aN ((k+1:Nat):Int) (n.aN.length:Int)=true:=by simp[gK];omega
 have a3:dh 176 (n.aN.take k).length=true:=cN ZK (by simp;omega)
 have a4:dh 176 (n.aN.take k++n.aN.drop (k+1)).length=true:=cN ZK (by simp;omega)
 simp only[wV,be,hf,a1,bN (show k<9223372036854775807 by omega),a2,X2,YQ,a3,a4,jJ,au]
def yC (n:ab) (c:Int):Bool:=ef n.d8 c&&eqB (vi .i64 (yq .i64 n.cZ c) 1) 0
theorem QT {n:ab} (hm:1<=n.d8.aR.length/\n.d8.aR.length<=6) (c:Int):tK n c=some (yC n c):=by
 have hmin:qD (n.d8.aR.length:Int) 6=(n.d8.aR.length:Int):=by unfold qD;split<;>omega
 simp only[tK,M7,hmin,eQ,YO,bL (n:=(n.d8.aR.length:Int)-1) ZK,yC]
 rw[show inR c 0 ((n.d8.aR.length:Int)-1)=ef n.d8 c from rfl]
 cases hc:ef n.d8 c
 .rfl
 have:=bE.1 (show inR c 0 ((n.d8.aR.length:Int)-1)=true from hc)
 rw[leB_t.2 this.1];rfl
def Ox (n:ab):ab:={n with kT:=WR (n.kT+1)}
theorem Hq {B:Int} {n:ab} (h:NP B n) (hB:B<4611686018427387904):NP (B+1) (Ox n):=by
 have hl:=h.lo
 exact {h.mono (show B<=B+1 by omega) with lo:=by simp only[Ox];rw[bL ZK];omega}
def iO (n:ab) (k:Nat):ab:=match n.aN[k]? with
 |none=>n
 |some f=>
  let n1:=jJ n k
  let i:=f.bv.toNat
  bif !yC n1 f.bg then Ox n1 else
  bif f.em then(bif f.dt||!eqB f.aY.bg f.bg then n1 else match n1.aj[i]? with
   |none=>n1
   |some s=>yG n1 i (sUp s f.aY))
  else match n1.an[i]? with
   |none=>n1
   |some d=>bif !eqB d.bg f.bg then Ox n1 else gq n1 i (bif f.dt then C9 d f.cr else Da d f.aY)
theorem K0 {B:Int} {n:ab} (h:NP B n) (k:Nat) (hB:B+1<4611686018427387904):NP (B+1) (iO n k):=by
 rw[iO]
 cases hf:n.aN[k]? with
 |none=>exact h.mono ZK
 |some f=>
  have hp:=h.fs f (W2 hf)
  have h1:=Ct h k
  simp only
  cases yC (jJ n k) f.bg
  .exact Hq h1 ZK
  simp only[au]
  cases f.em
  .simp only[cond_false]
   cases hd:(jJ n k).an[f.bv.toNat]? with
   |none=>exact h1.mono ZK
   |some d=>
    have hdi:=(W1.1 hd).1
    obtain⟨d',s,a,e1,e2,e3,hm⟩:=h1.at_ hdi
    rw[hd] at e1;cases e1
    simp only
    cases eqB d.bg f.bg
    .exact Hq h1 ZK
    simp only[au]
    cases f.dt
    .exact kE h1 hd (Ms d f.aY) (Tz hm.dp _) hm.dc hB
    exact kE h1 hd (Mq d f.cr) (Ty hm.dp _) hm.dc hB
  simp only[cond_true]
  cases he:f.dt||!eqB f.aY.bg f.bg
  .simp only[cond_false]
   simp only[Xi,YX] at he
   have he:=pH he.2
   cases hs:(jJ n k).aj[f.bv.toNat]? with
   |none=>exact h1.mono ZK
   |some s=>exact OT h1 hs (R4 s f.aY) (λa ha=>Ws ha _) (by rw[he];exact hp.c) hB
  exact h1.mono ZK
theorem Qc (i:Int) (h:0<=i):i=(i.toNat:Int):=by omega
theorem Of {B:Int} {n:ab} (h:NP B n) {k:Nat} (hk:k<n.aN.length):sK n (k:Int)=some (iO n k):=by
 obtain⟨f,hf⟩:∃f,n.aN[k]?=some f:=⟨_,W0 hk⟩
 have hp:=h.fs f (W2 hf)
 have h1:=Ct h k
 have hls:=h1.ls
 have hdd:=hp.d
 obtain⟨d,s,a,e1,e2,e3,hm⟩:=h1.at_ (show f.bv.toNat<(jJ n k).an.length by simp only[jJ];omega)
 have hdev:=Qc f.bv hdd.1
 have hix:ix (jJ n k).aj f.bv=some s:=by rw[hdev,be];exact e2
 have hixd:ix (jJ n k).an f.bv=some d:=by rw[hdev,be];exact e1
 have hdl:=(W1.1 e1).1
 have hp1:iA (jJ n k) f.bv (C9 d f.cr)=some (gq (jJ n k) f.bv.toNat (C9 d f.cr)):=by
  rw[hdev];exact wg (by simpa using hdl) (by have:=(Mq d f.cr).len;omega)
 have hp2:iA (jJ n k) f.bv (Da d f.aY)=some (gq (jJ n k) f.bv.toNat (Da d f.aY)):=by
  rw[hdev];exact wg (by simpa using hdl) (by have:=(Ms d f.aY).len;omega)
 have hp3:∀n',kt n' f.bv false (sUp s f.aY).dX=some (sends n' ((sUp s f.aY).dX.map (jx (f.bv.toNat:Int) false))):=λn'=>by
  rw[<-hdev];exact LO _ _ _ (by have:=(R4 s f.aY).len;omega)
 simp only[sK,NM h.fl hf,QT (mL h1.map),hix,hixd,up_s hm.sg.sp,rad_s hm.dp.ok (show U8 f.cr from hp.b),sig_s hm.dp.ok hm.dp.card hm.dp.ep,hp1,hp2,hp3,YO,iO,hf,e1,e2,yG,Ox]
 cases yC (jJ n k) f.bg<;>cases f.em<;>cases f.dt<;>cases eqB f.aY.bg f.bg<;>cases eqB d.bg f.bg<;>rfl
attribute [local simp] bA bb be
theorem nY (n:ab) (i:Nat) (r:bh):(gq n i r).an.length=n.an.length/\(gq n i r).d8=n.d8/\(gq n i r).aj=n.aj/\(gq n i r).bi=n.bi/\(gq n i r).oZ=n.oZ:=by
 have:=fG (r.dX.map (jx i true)) {n with an:=n.an.set i r.bv}
 rw[gq,this.1,this.2.1,this.2.2.1,this.2.2.2.1,this.2.2.2.2.2.2];simp
def kv:Nat->Nat->ab->ab
 |0,_,n=>n
 |c+1,i,n=>match n.an[i]? with
  |none=>n
  |some d=>kv c (i+1) (gq n i (tk d))
theorem GB {L:Int×ab->Option (cf (Int×ab) ab)} (N:Nat) (hN:N<=4)
 (hL:∀(i:Nat) (n:ab),n.an.length=N->(i<N->∀d,n.an[i]?=some d->DP d->L ((i:Int),n)=some (.next (((i+1:Nat):Int),gq n i (tk d))))/\(N<=i->L ((i:Int),n)=some (.done n))):
 ∀(c i:Nat) {B:Int} (n:ab) (fu:Nat),NP B n->i+c=N->n.an.length=N->c<fu->B+c<4611686018427387904->iter L fu ((i:Int),n)=some (kv c i n)/\NP (B+c) (kv c i n)/\(kv c i n).an.length=N/\(kv c i n).d8=n.d8
 |0,i,B,n,fu,h,h1,h2,h3,hB=>by
  cases fu with
  |zero=>omega
  |succ fu=>
   rw[iter,(hL i n h2).2 ZK]
   exact⟨rfl,by simpa [kv] using h,h2,rfl⟩
 |c+1,i,B,n,fu,h,h1,h2,h3,hB=>by
  cases fu with
  |zero=>omega
  |succ fu=>
   obtain⟨d,s,a,e1,e2,e3,hm⟩:=h.at_ (show i<n.an.length by omega)
   have hp:=kE h e1 (vC d) (zn hm.dp) hm.dc ZK
   have hk:=nY n i (tk d)
   rw[iter,(hL i n h2).1 ZK d e1 hm.dp,kv,e1]
   simp only
   have ih:=GB N hN hL c (i+1) (gq n i (tk d)) fu hp ZK (by rw[hk.1];exact h2) ZK ZK
   refine⟨ih.1,ih.2.1.mono ZK,ih.2.2.1,ih.2.2.2.trans hk.2.1⟩
def xV (x:aC):Prop:=okB x.bp.aS/\x.bp.aS.length<=60
theorem yS (k g e:Int) {x:ae} (h:x.aS.length<=60):xV (iV k g e x):=⟨Mx _ _,by simp[iV,Em];exact h⟩
theorem IB {s:ah} (h:WOK s.aw):∀x∈zf s,xV x:=by
 rw[zf];cases eqB s.bu 1
 .simp
 intro x hx
 obtain⟨y,hy,rfl⟩:=X1.1 hx
 exact yS _ _ _ (h.d y (Xu hy))
theorem Ol (s:ah) (a:am) (n:Int):(df s a n).1.bM.ax=s.bM.ax:=by rw[df];cases leB (lY s n) 0<;>rfl
theorem En:∀(k:Nat) (s:ah) (a:am) (r:List aC),SG s a->(∀x∈r,xV x)->
 (iW k s a r).1.bC=s.bC/\(iW k s a r).1.bg=s.bg/\(iW k s a r).1.bM.ax=s.bM.ax/\(iW k s a r).1.aA=s.aA/\∀x∈(iW k s a r).2.2,xV x
 |0,s,a,r,h,hr=>⟨rfl,rfl,rfl,rfl,hr⟩
 |k+1,s,a,r,h,hr=>by
  rw[iW]
  cases e:rK s with
  |none=>exact⟨rfl,rfl,rfl,rfl,hr⟩
  |some x=>
   obtain⟨hm,hx,_,hn,hl,hb⟩:=nU h.sp e
   have he:=xe h (n:=(x.aS.length:Int)) ZK
   obtain⟨q,hk⟩:=oG s a (x.aS.length:Int)
   have hid:=Ol s a (x.aS.length:Int)
   simp only
   cases hq:ltB 0 (lY (df s a (x.aS.length:Int)).1 (x.aS.length:Int))
   .simp only[cond_false]
    have ih:=En k {(df s a (x.aS.length:Int)).1 with aw:=pp (df s a (x.aS.length:Int)).1.aw x.aS} (df s a (x.aS.length:Int)).2
     (r++[iV (df s a (x.aS.length:Int)).1.aO (df s a (x.aS.length:Int)).1.ag (df s a (x.aS.length:Int)).1.a9 ⟨(df s a (x.aS.length:Int)).1.aw.bz,x.aS⟩])
     (CB he (by rw[hk];exact e) hq) (λy hy=>by
      rcases W3.1 hy with hy|hy
      .exact hr y hy
      simp at hy;subst hy;exact yS _ _ _ hb)
    rw[ih.1,ih.2.1,ih.2.2.1,ih.2.2.2.1]
    exact⟨by rw[hk],by rw[hk],hid,by rw[hk],ih.2.2.2.2⟩
   exact⟨by simp only[cond_true];rw[hk],by simp only[cond_true];rw[hk],hid,by simp only[cond_true];rw[hk],hr⟩
theorem Rq {m:aM} {a t:Int}:∀c∈Gb m a t,0<=c/\c<m.aR.length:=by
 intro c hc
 have h1:∀c∈pE m a,0<=c/\c<m.aR.length:=λc hc=>by
  obtain⟨y,hy,rfl⟩:=X1.1 hc
  have:=(Yc.1 hy).1
  have:=List.mem_zipIdx this
  simp at this
  omega
 have h2:∀c∈Tk m,0<=c/\c<m.aR.length:=λc hc=>by
  obtain⟨k,hk,rfl⟩:=X1.1 hc
  have:=X4.1 hk
  omega
 rw[Gb] at hc;revert hc
 cases eqB t 1&&ltB 0 (((pE m a).length:Nat):Int)
 .cases inR t 1 4
  .simp
  exact h2 c
 exact h1 c
structure TK (nc:Nat) (s:ah) (a:am) (t:bY):Prop where
 rcd:t.aP.bC=s.bC
 cell:t.aP.bg=s.bg
 si:t.aP.bM.ax=s.bM.ax
 sub:t.aP.aA=s.aA
 pg:∀m∈t.jZ,0<=m.bg/\m.bg<nc
 pl:t.jZ.length<=1000
 rd:∀x∈t.cr,xV x
 rl:t.cr.length<=4
theorem Af {s:ah} {a:am} (h:SG s a) {m:aM} (hm:m.aR.length<=1000):TK m.aR.length s a (oR s a m):=by
 rw[oR]
 cases eqB s.bu 1
 .exact⟨rfl,rfl,rfl,rfl,by simp,by simp,by simp,by simp⟩
 simp only[au]
 have hg:=Do h
 have hq:=zX h.sp
 cases ltB 4 (lp s)
 .simp only[cond_false,NC]
  have hk:=En 2 _ _ [] (h.upd hq (z2 h.sp)) (by simp)
  have hl:=Bm 2 {s with d9:=lp s,d7:=(oN s).2,bM:=(g8 s a).2} (g8 s a).1 []
  have hr:=Gp s
  refine⟨hk.1,hk.2.1,hk.2.2.1.trans hg.2.2.1,hk.2.2.2.1,by simp,by simp,λx hx=>?_,by simp at hl ⊢;omega⟩
  rcases W3.1 hx with hx|hx
  .rw[oN] at hx;revert hx
   cases EV s
   .simp
   cases ltB 0 s.d7
   .exact IB h.sp.win x
   simp
  exact hk.2.2.2.2 x hx
 simp only[cond_true,J9]
 refine⟨rfl,rfl,hg.2.2.1,rfl,λx hx=>?_,by have:=GC (p:={s.gZ with fB:=qp m s.bg}) hm;simp only[Xb];exact this,by simp,by simp⟩
 obtain⟨c,hc,rfl⟩:=X1.1 hx
 simp only[JN]
 rw[AF] at hc;revert hc
 cases ltB 0 s.gZ.f5
 .exact Rq c
 simp
def rQ (n:ab) (i:Nat) (t:bY):ab:=
 sends (sends {n with aj:=n.aj.set i t.aP,bi:=n.bi.set i t.eo} (t.jZ.map (jx i false))) (t.cr.map (wh i t.aP.bg))
theorem Um {nd nc i:Nat} (hi:i<nd) {c:Int} (hc:0<=c/\c<nc) {x:aC} (hx:xV x):FP nd nc (wh i c x):=
 ⟨by simp only[wh];omega,hc,hx.1,⟨by have:=hx.2;simp only[wh];omega,λ_ _=>trivial⟩⟩
theorem Ge (n:ab) (i:Nat) (t:bY):(rQ n i t).an=n.an/\(rQ n i t).d8=n.d8/\(rQ n i t).aj.length=n.aj.length/\(rQ n i t).oZ=n.oZ:=by
 have h1:=fG (t.jZ.map (jx i false)) {n with aj:=n.aj.set i t.aP,bi:=n.bi.set i t.eo}
 have h2:=fG (t.cr.map (wh i t.aP.bg)) (sends {n with aj:=n.aj.set i t.aP,bi:=n.bi.set i t.eo} (t.jZ.map (jx i false)))
 rw[rQ,h2.1,h2.2.1,h2.2.2.2.1,h2.2.2.2.2.2.2,h1.1,h1.2.1,h1.2.2.2.1,h1.2.2.2.2.2.2];simp
theorem DT {B:Int} {n:ab} (h:NP B n) {i:Nat} {s:ah} {a:am} (hs:n.aj[i]?=some s) (ha:n.bi[i]?=some a) {t:bY} (hk:TK n.d8.aR.length s a t) (hg:SG t.aP t.eo) (hB:B+2000<4611686018427387904):NP (B+2000) (rQ n i t):=by
 have hi:=(W1.1 hs).1
 have hls:=h.ls
 obtain⟨d,s',a',h1,h2,h3,hm⟩:=h.at_ (show i<n.an.length by omega)
 rw[hs] at h2;cases h2
 rw[ha] at h3;cases h3
 have hmp:MP n.d8.aR.length i d t.aP t.eo:=by
  refine⟨hm.dp,hm.dc,hg,by rw[hk.cell];exact hm.sc,by rw[hk.si];exact hm.si,?_⟩
  have:=hm.ids
  simp only[Dw,hk.rcd] at this ⊢;exact this
 have hn:=h.setM hmp
 rw[ea h1] at hn
 have hpl:=hk.pl
 have hrl:=hk.rl
 have k1:=fG (t.jZ.map (jx i false)) {n with aj:=n.aj.set i t.aP,bi:=n.bi.set i t.eo}
 have p1:=wF (t.jZ.map (jx i false)) hn (λf hf=>by
  obtain⟨m,hm',rfl⟩:=X1.1 hf
  exact H6 (show i<n.an.length by omega) (hk.pg m hm')) (by simp;omega)
 have p2:=wF (t.cr.map (wh i t.aP.bg)) p1 (λf hf=>by
  obtain⟨x,hx,rfl⟩:=X1.1 hf
  rw[k1.1,k1.2.2.2.1]
  exact Um (show i<n.an.length by omega) (by rw[hk.cell];exact⟨hm.sg.sp.ce.1,hm.sc⟩) (hk.rd x hx)) (by simp;omega)
 exact p2.mono (by simp;omega)
def pB:Nat->Nat->ab->ab
 |0,_,n=>n
 |c+1,i,n=>match n.aj[i]?,n.bi[i]? with
  |some s,some a=>pB c (i+1) (rQ n i (oR s a n.d8))
  |_,_=>n
theorem GD {L:Int×ab->Option (cf (Int×ab) ab)} (N:Nat) (hN:N<=4)
 (hL:∀(i:Nat) (n:ab),n.aj.length=N->(i<N->∀s a,n.aj[i]?=some s->n.bi[i]?=some a->SG s a->ol n.d8=true->L ((i:Int),n)=some (.next (((i+1:Nat):Int),rQ n i (oR s a n.d8))))/\(N<=i->L ((i:Int),n)=some (.done n))):
 ∀(c i:Nat) {B:Int} (n:ab) (fu:Nat),NP B n->i+c=N->n.aj.length=N->c<fu->B+2000*c<4611686018427387904->iter L fu ((i:Int),n)=some (pB c i n)/\NP (B+2000*c) (pB c i n)/\(pB c i n).an=n.an/\(pB c i n).d8=n.d8
 |0,i,B,n,fu,h,h1,h2,h3,hB=>by
  cases fu with
  |zero=>omega
  |succ fu=>
   rw[iter,(hL i n h2).2 ZK]
   exact⟨rfl,by simpa [pB] using h,rfl,rfl⟩
 |c+1,i,B,n,fu,h,h1,h2,h3,hB=>by
  cases fu with
  |zero=>omega
  |succ fu=>
   have hls:=h.ls
   obtain⟨d,s,a,e1,e2,e3,hm⟩:=h.at_ (show i<n.an.length by omega)
   have hml:=mL h.map
   have hp:=DT h e2 e3 (Af hm.sg ZK) (El hm.sg h.map) ZK
   have hk:=Ge n i (oR s a n.d8)
   rw[iter,(hL i n h2).1 ZK s a e2 e3 hm.sg h.map,pB,e2,e3]
   simp only
   have ih:=GD N hN hL c (i+1) (rQ n i (oR s a n.d8)) fu hp ZK (by rw[hk.2.2.1];exact h2) ZK ZK
   exact⟨ih.1,ih.2.1.mono ZK,ih.2.2.1.trans hk.1,ih.2.2.2.trans hk.2.1⟩
def BG (n:ab):Bool×ab:=
 bif leB 100000 n.oZ then(false,n) else
  let n1:=kv n.an.length 0 {n with oZ:=n.oZ+1}
  (true,pB n1.aj.length 0 n1)
theorem Pi {B:Int} {n:ab} (h:NP B n) (hB:B+10000<4611686018427387904):AC n=some (BG n)/\True/\NP (B+10000) (BG n).2:=by
 have hnw:=h.nw
 have hld:=h.ld
 rw[BG,AC]
 cases hb:leB 100000 n.oZ
 .have hb:=zK hb
  simp only[cond_false]
  have h1:NP B {n with oZ:=n.oZ+1}:={h with nw:=by simp only;omega}
  rw[bL (n:=n.oZ+1) ZK]
  have rs:=GB (L:=sL) n.an.length hld (λi n' hn'=>⟨λhi d hd hp=>by
   simp only[sL,hn',cg hi,be,hd,WG hp.ok hp.wt.2,wg (show i<n'.an.length by omega) (show(tk d).dX.length<=1048576 by have:=(vC d).len;omega),bN (show i<9223372036854775807 by omega),au],λhi=>by
   simp only[sL,hn',ltB_f.2 (show(n.an.length:Int)<=(i:Int) by omega),cond_false]⟩) n.an.length 0 _ FU h1 ZK rfl (by have:=i9;omega) ZK
  rw[show((0:Nat):Int)=0 from rfl] at rs
  have h2:=(rs).2.1
  have hls:=h2.ls
  have hl2:=h2.ld
  generalize kv n.an.length 0 {n with oZ:=n.oZ+1}=n1 at*
  have radS:∀(n':ab) (i:Nat) (t:bY),(∀x∈t.cr,xV x)->t.cr.length<=4->iter (mb (i:Int) t) FU (0,n')=some (sends n' (t.cr.map (wh i t.aP.bg))):=λn' i t ht hl=>by
   have:=fr (step:=mb (i:Int) t) t.cr (λk n=>((k:Int),n)) (λn x=>YL (fC n (wh i t.aP.bg x)) λr=>some (.next r)) some ZK
    (λk x n hx hk=>by
     simp only[mb,cg hk,be,hx,bN (show k<9223372036854775807 by omega),wh,au]
     cases fC n ⟨(i:Int),false,true,t.aP.bg,d6,x⟩<;>rfl) (λn=>by simp[mb]) n'
   refine Eq.trans (show iter (mb (i:Int) t) FU (0,n')=_ from this) ?_
   clear this
   have key:∀(l:List aC) (n':ab),(∀x∈l,xV x)->jK (λ(n:ab) x=>YL (fC n (wh i t.aP.bg x)) λr=>some (cf.next (ρ:=ab) r)) some l n'=some (sends n' (l.map (wh i t.aP.bg))):=by
    intro l
    induction l with
    |nil=>intro n' _;rfl
    |cons x l ih=>intro n' hx;rw[jK,zT (f:=wh i t.aP.bg x) ⟨by have:=(hx x (by simp)).2;simp only[wh];omega,λ_ _=>trivial⟩];exact ih _ λy hy=>hx y (by simp[hy])
   exact key t.cr n' ht
  have ss:=GD (L:=sM) n1.aj.length ZK (λi n' hn'=>⟨λhi s a hs ha hg hm=>by
   have hml:=mL hm
   have hk:=Af hg (m:=n'.d8) ZK
   simp only[sM,hn',cg hi,be,hs,ha,UK hg (m:=n'.d8) ZK (JO hg.sp.page),YQ,LO _ _ _ (show(oR s a n'.d8).jZ.length<=1048576 by have:=hk.pl;omega),radS _ i _ hk.rd hk.rl,rQ,bN (show i<9223372036854775807 by omega),au],λhi=>by
   simp only[sM,hn',ltB_f.2 (show(n1.aj.length:Int)<=(i:Int) by omega),cond_false]⟩) n1.aj.length 0 n1 FU h2 ZK rfl (by have:=i9;omega) ZK
  rw[show((0:Nat):Int)=0 from rfl] at ss
  rw[rs.1]
  simp only[YO]
  rw[ss.1]
  exact⟨by first|rfl|trivial,by first|rfl|trivial,(ss).2.1.mono ZK⟩
 exact⟨by first|rfl|trivial,by first|rfl|trivial,h.mono ZK⟩
attribute [local simp] bA bb be
def fK (p:a8) (k:Int):Bool:=f4 p&&(inR k 0 (p.dP-1)&&eqB (vi .i64 (yq .i64 p.dm k) 1) 1)
theorem iP {p:a8} (h:f4 p=true):1<=p.dP/\p.dP<=6:=by
 simp only[f4,v0,bE] at h;exact h.1
theorem Ii (p:a8) (k:Int):kn p k=some (fK p k):=by
 simp only[kn,Lw,eQ,YO,fK]
 cases hp:f4 p
 .rfl
 have:=iP hp
 rw[bL (n:=p.dP-1) ZK]
 cases hk:inR k 0 (p.dP-1)
 .rfl
 rw[leB_t.2 (bE.1 hk).1];rfl
theorem Ih (p:a8) (k:Int):kc p k=some (fK p k):=by
 simp only[kc,HI,kR,YO,fK]
 cases hp:f4 p
 .rfl
 have:=iP hp
 rw[bL (n:=p.dP-1) ZK]
 cases hk:inR k 0 (p.dP-1)
 .rfl
 rw[leB_t.2 (bE.1 hk).1];rfl
def eR (p:a8) (k:Int) (up:Bool):a8:=
 bif !f4 p||!inR k 0 (p.dP-1) then p else⟨p.dP,bif up then bOr .i64 p.dm (jY .i64 1 k) else pD .i64 p.dm (jY .i64 1 k)⟩
theorem UD (p:a8) (k:Int) (up:Bool):p3 p k up=some (eR p k up):=by
 simp only[p3,Lw,eQ,YO,eR]
 cases hp:f4 p
 .rfl
 have:=iP hp
 rw[bL (n:=p.dP-1) ZK]
 cases hk:inR k 0 (p.dP-1)
 .rfl
 rw[leB_t.2 (bE.1 hk).1];cases up<;>rfl
theorem UC (p:a8) (k:Int) (up:Bool):mx p k up=some (eR p k up):=by
 simp only[mx,HI,kR,YO,eR]
 cases hp:f4 p
 .rfl
 have:=iP hp
 rw[bL (n:=p.dP-1) ZK]
 cases hk:inR k 0 (p.dP-1)
 .rfl
 rw[leB_t.2 (bE.1 hk).1];cases up<;>rfl
theorem Q0:∀c∈hV 7,∀d∈hV (2^c),∀i∈hV c,
 (inR (II .i64 (d:Int) (jY .i64 1 (i:Int))) 0 (WR (jY .i64 1 (c:Int)-1))&&(inR (bOr .i64 (d:Int) (jY .i64 1 (i:Int))) 0 (WR (jY .i64 1 (c:Int)-1))&&inR (pD .i64 (d:Int) (jY .i64 1 (i:Int))) 0 (WR (jY .i64 1 (c:Int)-1))))=true:=by decide+kernel
theorem H5:∀c∈hV 7,WR (jY .i64 1 (c:Int)-1)=((2^c:Nat):Int)-1:=by decide+kernel
theorem M4 {c:Nat} (hc:c<=6) {d k:Int} (hd:inR d 0 (WR (jY .i64 1 (c:Int)-1))=true) (hk:0<=k/\k<c):
 inR (II .i64 d (jY .i64 1 k)) 0 (WR (jY .i64 1 (c:Int)-1))=true/\inR (bOr .i64 d (jY .i64 1 k)) 0 (WR (jY .i64 1 (c:Int)-1))=true/\inR (pD .i64 d (jY .i64 1 k)) 0 (WR (jY .i64 1 (c:Int)-1))=true:=by
 have hd':=bE.1 hd
 rw[H5 c (X4.2 ZK)] at hd'
 have:=Q0 c (X4.2 ZK) d.toNat (X4.2 ZK) k.toNat (X4.2 ZK)
 rw[show(d.toNat:Int)=d by omega,show(k.toNat:Int)=k by omega] at this
 simpa only[v0] using this
theorem Am {p:a8} (h:f4 p=true) (k:Int) (up:Bool):f4 (eR p k up)=true/\(eR p k up).dP=p.dP:=by
 rw[eR,h]
 cases hk:inR k 0 (p.dP-1)
 .exact⟨h,rfl⟩
 have hk:=bE.1 hk
 have hp:=iP h
 simp only[f4,v0] at h
 have hm:=M4 (c:=p.dP.toNat) ZK (d:=p.dm) (k:=k) (by rw[show(p.dP.toNat:Int)=p.dP by omega];exact h.2) ZK
 rw[show(p.dP.toNat:Int)=p.dP by omega] at hm
 simp only[YZ,f4,v0,au]
 exact⟨⟨h.1,by cases up;exact hm.2.2;exact hm.2.1⟩,trivial⟩
def wt (a b:Int):Int:=YN (WR (ez 17 [a,b]*ez 17 [a,b])) 2147483647
theorem wt_s (a b:Int):il a b=some (wt a b):=by simp[il,dW,wt]
theorem wt_i (a b:Int):jO a b=some (wt a b):=by simp[jO,E4,wt]
theorem wt_nn (a b:Int):0<=wt a b:=by
 have h:=oJ 17 [a,b]
 unfold hM at h
 have h2:0<=ez 17 [a,b]*ez 17 [a,b]:=Int.mul_nonneg h.1 h.1
 have h3:ez 17 [a,b]*ez 17 [a,b]<=2147483647*2147483647:=Int.mul_le_mul ZK ZK h.1 ZK
 rw[wt,bL ZK]
 exact Int.tmod_nonneg _ h2
def lJ (p:a8) (i v:Int) (k:Int):Int:=bif fK p k&&(ltB v 0||ltB (wt v i) (wt k i)) then k else v
def Fw (p:a8) (i:Int):Nat->Nat->Int->Int
 |0,_,v=>v
 |c+1,k,v=>Fw p i c (k+1) (lJ p i v k)
def sel (p:a8) (i:Int):Int:=Fw p i p.dP.toNat 0 (-1)
theorem Gw {p:a8} (h:f4 p=true) (i:Int):∀(c k fu:Nat) (v:Int),k+c=p.dP.toNat->c<fu->iter (kL p i) fu (v,(k:Int))=some (Fw p i c k v)
 |0,k,fu,v,h1,h2=>by
  have hp:=iP h
  cases fu with
  |zero=>omega
  |succ fu=>rw[iter];simp[kL,ltB_f.2 (show p.dP<=(k:Int) by omega),Fw]
 |c+1,k,fu,v,h1,h2=>by
  have hp:=iP h
  cases fu with
  |zero=>omega
  |succ fu=>
   have hc:(bif ltB (k:Int) p.dP then some (ltB (k:Int) 6) else some false)=some true:=by rw[ltB_t.2 (show(k:Int)<p.dP by omega),ltB_t.2 (show(k:Int)<6 by omega)];rfl
   have hs:(YL (bif fK p k then(bif ltB v 0 then some true else some (ltB (wt v i) (wt k i))) else some false) λ(v12:Bool)=>YL (bif v12 then some (k:Int) else some v) λ(v15:Int)=>some (cf.next (ρ:=Int) (v15,WR ((k:Int)+1))))=some (.next (lJ p i v k,((k+1:Nat):Int))):=by
    rw[bN ZK,lJ]
    cases fK p k<;>cases ltB v 0<;>cases ltB (wt v i) (wt k i)<;>rfl
   rw[iter]
   simp only[kL,hc,Ii,wt_s,hs,au]
   exact Gw h i c (k+1) fu _ ZK ZK
def G3 (i v:Int):Int:=bif ltB v 0 then-1 else wt v i
theorem Gv {p:a8} (h:f4 p=true) (i:Int):∀(c k fu:Nat) (v:Int),k+c=p.dP.toNat->c<fu->iter (iL p i) fu (v,G3 i v,(k:Int))=some (Fw p i c k v)
 |0,k,fu,v,h1,h2=>by
  have hp:=iP h
  cases fu with
  |zero=>omega
  |succ fu=>rw[iter];simp[iL,ltB_f.2 (show p.dP<=(k:Int) by omega),Fw]
 |c+1,k,fu,v,h1,h2=>by
  have hp:=iP h
  cases fu with
  |zero=>omega
  |succ fu=>
   have hs:iL p i (v,G3 i v,(k:Int))=some (.next (lJ p i v k,G3 i (lJ p i v k),((k+1:Nat):Int))):=by
    simp only[iL,ltB_t.2 (show(k:Int)<p.dP by omega),Ih,wt_i,bN (show k<9223372036854775807 by omega),lJ,au]
    have hw:=wt_nn k i
    have hk:G3 i (k:Int)=wt k i:=by rw[G3,ltB_f.2 (show(0:Int)<=k by omega)];rfl
    have hb:ltB (G3 i v) (wt k i)=(ltB v 0||ltB (wt v i) (wt k i)):=by
     rw[G3];cases ltB v 0
     .rfl
     simp only[cond_true,Zr];exact ltB_t.2 ZK
    rw[hb]
    cases fK p k<;>cases ltB v 0||ltB (wt v i) (wt k i)<;>simp[hk]
   rw[iter,hs]
   exact Gv h i c (k+1) fu _ ZK ZK
theorem Sa {p:a8} (h:f4 p=true) (i:Int):jG p i=some (sel p i):=by
 have hp:=iP h
 have:=Gw h i p.dP.toNat 0 FU (-1) ZK (by have:=i9;omega)
 rw[show((0:Nat):Int)=0 from rfl] at this
 rw[jG,this];rfl
theorem R9 {p:a8} (h:f4 p=true) (i:Int):gB p i=some (sel p i):=by
 have hp:=iP h
 have:=Gv h i p.dP.toNat 0 FU (-1) ZK (by have:=i9;omega)
 rw[show((0:Nat):Int)=0 from rfl,show G3 i (-1)= -1 from by simp[G3,ltB]] at this
 simp only[gB,HI,h,this,sel,au]
def py (p q:a8):Nat->Nat->List ah->List ah
 |0,_,l=>l
 |c+1,i,l=>py p q c (i+1) (bif eqB (sel p i) (sel q i) then l else match l[i]? with
  |some s=>l.set i (g9 s)
  |none=>l)
def fO (n:ab) (k:Int) (up:Bool):Bool×ab:=
 let q:=eR n.cq k up
 bif !inR k 0 (n.cq.dP-1)||(booB (fK n.cq k) up||eqB q.dm 0) then(false,n) else(true,{n with aj:=py n.cq q n.aj.length 0 n.aj,cq:=q})
theorem nM (p q:a8):∀(c i:Nat) (l:List ah) (j:Nat),(py p q c i l)[j]?=l[j]?\/∃s,l[j]?=some s/\(py p q c i l)[j]?=some (g9 s)
 |0,i,l,j=>.inl rfl
 |c+1,i,l,j=>by
  rw[py]
  cases eqB (sel p i) (sel q i)
  .simp only[cond_false]
   cases hi:l[i]? with
   |none=>exact nM p q c (i+1) l j
   |some s=>
    simp only
    by_cases e:i=j
    .subst e
     have hg:(l.set i (g9 s))[i]?=some (g9 s):=by simp[(W1.1 hi).1]
     rcases nM p q c (i+1) (l.set i (g9 s)) i with h|⟨t,h1,h2⟩
     .exact .inr ⟨s,hi,by rw[h,hg]⟩
     rw[hg] at h1;cases h1;exact .inr ⟨s,hi,h2⟩
    have hg:(l.set i (g9 s))[j]?=l[j]?:=by rw[YB,if_neg e]
    rcases nM p q c (i+1) (l.set i (g9 s)) j with h|⟨t,h1,h2⟩
    .exact .inl (by rw[h,hg])
    exact .inr ⟨t,by rw[<-hg];exact h1,h2⟩
  exact nM p q c (i+1) l j
theorem FY (p q:a8):∀(c i:Nat) (l:List ah),(py p q c i l).length=l.length
 |0,i,l=>rfl
 |c+1,i,l=>by
  rw[py,FY]
  cases eqB (sel p i) (sel q i)
  .simp only[cond_false];cases l[i]?<;>simp
  rfl
theorem Dj {L:Int×List ah->Option (cf (Int×List ah) (List ah))} {p q:a8} (N:Nat)
 (hL:∀(i:Nat) (l:List ah),l.length=N->(i<N->(∀s∈l,ec s)->L ((i:Int),l)=some (.next (((i+1:Nat):Int),bif eqB (sel p i) (sel q i) then l else match l[i]? with|some s=>l.set i (g9 s)|none=>l)))/\(N<=i->L ((i:Int),l)=some (.done l))):
 ∀(c i fu:Nat) (l:List ah),i+c=N->l.length=N->(∀s∈l,ec s)->c<fu->iter L fu ((i:Int),l)=some (py p q c i l)
 |0,i,fu,l,h1,h2,h3,h4=>by
  cases fu with
  |zero=>omega
  |succ fu=>rw[iter,(hL i l h2).2 ZK];rfl
 |c+1,i,fu,l,h1,h2,h3,h4=>by
  cases fu with
  |zero=>omega
  |succ fu=>
   rw[iter,(hL i l h2).1 ZK h3,py]
   simp only
   refine Dj N hL c (i+1) fu _ ZK ?_ (λs hs=>?_) ZK
   .cases eqB (sel p i) (sel q i)
    .simp only[cond_false];cases l[i]?<;>simp[h2]
    exact h2
   revert hs
   cases eqB (sel p i) (sel q i)
   .simp only[cond_false]
    cases hi:l[i]? with
    |none=>exact h3 s
    |some t=>
     intro hs
     rcases Y7 hs with hs|rfl
     .exact h3 s hs
     exact h3 t (W2 hi)
   exact h3 s
theorem wG {B:Int} {n:ab} (h:NP B n) (k:Int) (up:Bool):uO n k up=some (fO n k up)/\(∀e:cR,e.cm=k->eqB e.aV 12=up->mA n e=some (fO n k up))/\NP B (fO n k up).2:=by
 have hp:=iP h.core
 have hls:=h.ls
 have hq:=Am h.core k up
 have hok:∀s∈n.aj,ec s:=λs hs=>by
  obtain⟨i,hi⟩:=Xe hs
  have hlt:=(W1.1 hi).1
  obtain⟨d,s',a,e1,e2,e3,hm⟩:=h.at_ (show i<n.an.length by omega)
  rw[hi] at e2;cases e2;exact hm.sg.sp.ok
 have hl4:=h.ld
 have r1:=Dj (L:=oE n (eR n.cq k up)) (p:=n.cq) (q:=eR n.cq k up) n.aj.length (λi l hl=>⟨λhi hl3=>by
  obtain⟨s,hs⟩:∃s,l[i]?=some s:=⟨_,W0 ZK⟩
  simp only[oE,hl,cg hi,Sa h.core,Sa hq.1,be,hs,VB (hl3 s (W2 hs)),YQ,bN (show i<9223372036854775807 by omega),au]
  cases eqB (sel n.cq i) (sel (eR n.cq k up) i)<;>rfl,λhi=>by
  simp only[oE,hl,ltB_f.2 (show(n.aj.length:Int)<=(i:Int) by omega),cond_false]⟩) n.aj.length 0 FU n.aj ZK rfl hok (by have:=i9;omega)
 have r2:=Dj (L:=ij n (eR n.cq k up)) (p:=n.cq) (q:=eR n.cq k up) n.aj.length (λi l hl=>⟨λhi hl3=>by
  obtain⟨s,hs⟩:∃s,l[i]?=some s:=⟨_,W0 ZK⟩
  simp only[ij,cg hi,R9 h.core,R9 hq.1,be,hs,Qu (hl3 s (W2 hs)),YQ,bN (show i<9223372036854775807 by omega),au]
  cases eqB (sel n.cq i) (sel (eR n.cq k up) i)<;>rfl,λhi=>by
  simp only[ij,ltB_f.2 (show(n.aj.length:Int)<=(i:Int) by omega),cond_false]⟩) n.aj.length 0 FU n.aj ZK rfl hok (by have:=i9;omega)
 rw[show((0:Nat):Int)=0 from rfl] at r1 r2
 refine⟨?_,λe he hu=>?_,?_⟩
 .simp only[uO,UD,eQ,Ii,r1,YO,bL (n:=n.cq.dP-1) ZK,fO]
  cases inR k 0 (n.cq.dP-1)<;>cases booB (fK n.cq k) up<;>cases eqB (eR n.cq k up).dm 0<;>rfl
 .simp only[mA,he,hu,UC,kR,Ih,r2,YO,bL (n:=n.cq.dP-1) ZK,fO]
  cases inR k 0 (n.cq.dP-1)<;>cases booB (fK n.cq k) up<;>cases eqB (eR n.cq k up).dm 0<;>rfl
 simp only[fO]
 cases hb:!inR k 0 (n.cq.dP-1)||(booB (fK n.cq k) up||eqB (eR n.cq k up).dm 0)
 .simp only[Xi] at hb
  refine {h with core:=hq.1,up:=I9 hb.2.2,ls:=by simp only[cond_false];rw[FY];exact hls,m:=λi d s a hd hs ha=>?_}
  simp only[cond_false] at hd hs ha ⊢
  rcases nM n.cq (eR n.cq k up) n.aj.length 0 n.aj i with e|⟨t,e1,e2⟩
  .rw[e] at hs;exact h.m i d s a hd hs ha
  rw[e2] at hs;cases hs
  have hm:=h.m i d t a hd e1 ha
  exact⟨hm.dp,hm.dc,RU hm.sg,hm.sc,hm.si,hm.ids⟩
 exact h
attribute [local simp] bA bb be
theorem Nn:eqB 3 2=false:=by simp[eqB]
theorem Np:eqB 4 2=false:=by simp[eqB]
theorem Nq:eqB 4 3=false:=by simp[eqB]
theorem Nr:eqB 6 5=false:=by simp[eqB]
theorem Ns:eqB 7 5=false:=by simp[eqB]
theorem Nt:eqB 7 6=false:=by simp[eqB]
theorem JT:eqB 8 5=false:=by simp[eqB]
theorem JU:eqB 8 6=false:=by simp[eqB]
theorem JV:eqB 8 7=false:=by simp[eqB]
theorem No:eqB 3 4=false:=by simp[eqB]
theorem Nm:eqB 2 3=false:=by simp[eqB]
structure EP (e:cR):Prop where
 d:okB e.aS
 f:jF e.bG
 r:okB e.bG.cr.bp.aS
def rJ (n:ab) (e:cR):Bool×ab:=
 bif !inR e.cm 0 ((n.aN.length:Int)-1) then(false,n) else
 bif eqB e.aV 2 then(true,iO n e.cm.toNat) else
 bif eqB e.aV 3 then(true,Ox (jJ n e.cm.toNat)) else
 bif leB 200 (n.aN.length:Int) then(false,n) else match n.aN[e.cm.toNat]? with
  |none=>(true,n)
  |some f=>(true,fg n f)
theorem Je {B:Int} {n:ab} (h:NP B n) (e:cR) (hk:e.aV=2\/e.aV=3\/e.aV=4) (hB:B+1<4611686018427387904):
 uN n e=some (rJ n e)/\True/\NP (B+1) (rJ n e).2:=by
 have hfl:=h.fl
 simp only[uN,eQ,rJ,bL (n:=(n.aN.length:Int)-1) ZK,YO]
 cases hr:inR e.cm 0 ((n.aN.length:Int)-1)
 .exact⟨by first|rfl|trivial,by first|rfl|trivial,h.mono ZK⟩
 have hr:=bE.1 hr
 obtain⟨k,hk'⟩:∃k:Nat,e.cm=k:=⟨e.cm.toNat,by omega⟩
 have hlt:k<n.aN.length:=by omega
 obtain⟨f,hf⟩:∃f,n.aN[k]?=some f:=⟨_,W0 hlt⟩
 have hp:=h.fs f (W2 hf)
 simp only[hk',YQ,Of h hlt,NM h.fl hf,zT hp.ok,be,hf,au]
 rcases hk with e2|e2|e2<;>rw[e2]<;>simp only[Nn,Np,Nq,Nr,Ns,Nt,JT,JU,JV,No,Nm,bb,au]
 .exact⟨by first|rfl|trivial,by first|rfl|trivial,K0 h k hB⟩
 .exact⟨by first|rfl|trivial,by first|rfl|trivial,Hq (Ct h k) ZK⟩
 cases leB 200 (n.aN.length:Int)
 .exact⟨by first|rfl|trivial,by first|rfl|trivial,yF h hp ZK⟩
 exact⟨by first|rfl|trivial,by first|rfl|trivial,h.mono ZK⟩
def Cb (n:ab) (e:cR):Bool×ab:=
 bif !inR e.cm 0 ((n.an.length:Int)-1) then(false,n) else match n.an[e.cm.toNat]?,n.aj[e.cm.toNat]? with
  |some d,some s=>
   bif eqB e.aV 5 then(bif !eqB d.bu 0 then(false,n) else(true,gq n e.cm.toNat (dOn d))) else
   bif eqB e.aV 6 then(bif eqB e.bg d.bg||!ef n.d8 e.bg then(false,n) else(true,gq n e.cm.toNat (uV d e.bg))) else
   bif eqB e.aV 7 then(bif !eqB d.bu 2 then(false,n) else(true,{n with an:=n.an.set e.cm.toNat (vB d)})) else
   bif(rm s e.aS).2 then(true,{n with aj:=n.aj.set e.cm.toNat (rm s e.aS).1}) else(false,n)
  |_,_=>(false,n)
theorem KY (d:aD):(vB d).c9=d.c9/\(vB d).bg=d.bg:=by
 rw[vB];cases eqB d.bu 2<;>exact⟨rfl,rfl⟩
theorem Rp {B:Int} {n:ab} (h:NP B n) (e:cR) (he:EP e) (hk:e.aV=5\/e.aV=6\/e.aV=7\/e.aV=8) (hB:B+1<4611686018427387904):
 CF n e=some (Cb n e)/\True/\NP (B+1) (Cb n e).2:=by
 have hl:=h.ld
 have hm6:=mL h.map
 have hnm:NP (B+1) n:=h.mono ZK
 simp only[CF,eQ,Cb,bL (n:=(n.an.length:Int)-1) ZK,bL (n:=(n.d8.aR.length:Int)-1) ZK,YO]
 cases hr:inR e.cm 0 ((n.an.length:Int)-1)
 .exact⟨by first|rfl|trivial,by first|rfl|trivial,hnm⟩
 have hr:=bE.1 hr
 obtain⟨k,hk'⟩:∃k:Nat,e.cm=k:=⟨e.cm.toNat,by omega⟩
 have hlt:k<n.an.length:=by omega
 obtain⟨d,s,a,e1,e2,e3,hm⟩:=h.at_ hlt
 have l1:=(KZ d).len
 have l2:(uV d e.bg).dX.length<=1:=by rcases IX d e.bg with h|h;exact h.len;exact h.2.len
 simp only[hk',YQ,be,e1,e2,on_s hm.dp.ok,V1 hm.dp.ok hm.dp.ep,VH hm.dp.ok,Ve hm.sg.sp.ok,wg hlt (show(dOn d).dX.length<=1048576 by omega),wg hlt (show(uV d e.bg).dX.length<=1048576 by omega),au]
 try rw[show inR e.bg 0 ((n.d8.aR.length:Int)-1)=ef n.d8 e.bg from rfl]
 rcases hk with e4|e4|e4|e4<;>rw[e4]<;>simp only[Nn,Np,Nq,Nr,Ns,Nt,JT,JU,JV,No,Nm,bb,au]
 .cases eqB d.bu 0
  .exact⟨by first|rfl|trivial,by first|rfl|trivial,hnm⟩
  exact⟨by first|rfl|trivial,by first|rfl|trivial,kE h e1 (KZ d) (Vv hm.dp) hm.dc hB⟩
 .cases hx:eqB e.bg d.bg<;>cases hy:ef n.d8 e.bg<;>try exact⟨by first|rfl|trivial,by first|rfl|trivial,hnm⟩
  refine⟨by first|rfl|trivial,by first|rfl|trivial,?_⟩
  have hc:=bE.1 (show inR e.bg 0 ((n.d8.aR.length:Int)-1)=true from hy)
  rcases IX d e.bg with h'|h'
  .exact kE h e1 h' (IZ hm.dp _) hm.dc hB
  exact kE h e1 h'.2 (IZ hm.dp _) ZK hB
 .cases eqB d.bu 2
  .exact⟨by first|rfl|trivial,by first|rfl|trivial,hnm⟩
  refine⟨by first|rfl|trivial,by first|rfl|trivial,NP.mono (B:=B) ?_ ZK⟩
  have hik:=KY d
  refine h.setD e2 e3 ⟨P8 hm.dp,by rw[hik.2];exact hm.dc,hm.sg,hm.sc,hm.si,?_⟩
  have:=hm.ids
  simp only[Dw,hik.1] at this ⊢;exact this
 cases hb:(rm s e.aS).2
 .have hs:(rm s e.aS).1=s:=by
   revert hb;rw[rm];cases leB 24 (s.aA.length:Int)||ltB 60 (e.aS.length:Int)
   .intro hb;cases hb
   intro _;rfl
  refine⟨?_,by first|rfl|trivial,hnm⟩
  first|trivial|(rw[hs,ea e2];rfl)
 refine⟨by first|rfl|trivial,by first|rfl|trivial,NP.mono (B:=B) ?_ ZK⟩
 have hg:=Uy hm.sg he.d
 refine h.setS e1 e3 ⟨hm.dp,hm.dc,hg,?_,?_,?_⟩
 all_goals
  rw[rm]
  cases leB 24 (s.aA.length:Int)||ltB 60 (e.aS.length:Int)
 .exact hm.sc
 .exact hm.sc
 .exact hm.si
 .exact hm.si
 .exact hm.ids
 exact hm.ids
def BF (n:ab) (c:Int) (up:Bool):Bool×ab:=
 bif !ef n.d8 c||booB (yC n c) up then(false,n) else(true,{n with cZ:=II .i64 n.cZ (jY .i64 1 c)})
theorem N8 {B:Int} {n:ab} (h:NP B n) (e:cR):
 Az n e.cm (eqB e.aV 10)=some (BF n e.cm (eqB e.aV 10))/\True/\NP B (BF n e.cm (eqB e.aV 10)).2:=by
 have hm6:=mL h.map
 simp only[Az,eQ,QT hm6,BF,bL (n:=(n.d8.aR.length:Int)-1) ZK,YO]
 try rw[show inR e.cm 0 ((n.d8.aR.length:Int)-1)=ef n.d8 e.cm from rfl]
 cases hc:ef n.d8 e.cm
 .exact⟨by first|rfl|trivial,by first|rfl|trivial,h⟩
 have hi:=bE.1 (show inR e.cm 0 ((n.d8.aR.length:Int)-1)=true from hc)
 rw[leB_t.2 hi.1]
 cases booB (yC n e.cm) (eqB e.aV 10)
 .exact⟨by first|rfl|trivial,by first|rfl|trivial,{h with dn:=(M4 hm6.2 h.dn ZK).1}⟩
 exact⟨by first|rfl|trivial,by first|rfl|trivial,h⟩
def we (n:ab) (f:bD):Bool:=ltB (n.aN.length:Int) 200&&(inR f.bv 0 ((n.an.length:Int)-1)&&ef n.d8 f.bg)
def vY (n:ab) (f:bD):Bool×ab:=bif !we n f then(false,n) else(true,fg n f)
theorem Lb {B:Int} {n:ab} (h:NP B n) (e:cR) (he:EP e) (hB:B<4611686018427387904):
 (YL (ji n e.bG) λr13=>bif !r13 then(some (false,n)) else(YL (fC n e.bG) λr14=>some (true,r14)))=some (vY n e.bG)/\True/\NP (B+1) (vY n e.bG).2:=by
 have hm6:=mL h.map
 have hl:=h.ld
 simp only[ji,eQ,zT he.f,vY,we,bL (n:=(n.d8.aR.length:Int)-1) ZK,bL (n:=(n.an.length:Int)-1) ZK,YO]
 try rw[show inR e.bG.bg 0 ((n.d8.aR.length:Int)-1)=ef n.d8 e.bG.bg from rfl]
 try rw[show leB 200 (n.aN.length:Int)=!ltB (n.aN.length:Int) 200 by simp only[leB,ltB];rw[YR];simp]
 cases h1:ltB (n.aN.length:Int) 200<;>cases h2:inR e.bG.bv 0 ((n.an.length:Int)-1)<;>cases h3:ef n.d8 e.bG.bg<;>try exact⟨by first|rfl|trivial,by first|rfl|trivial,h.mono ZK⟩
 have hd:=bE.1 h2
 have hc:=bE.1 (show inR e.bG.bg 0 ((n.d8.aR.length:Int)-1)=true from h3)
 exact⟨by first|rfl|trivial,by first|rfl|trivial,yF h ⟨by omega,by omega,he.r,he.f⟩ ZK⟩
def jd (n:ab) (e:cR):Bool×ab:=
 if e.aV=1 then BG n else
 if e.aV=2\/e.aV=3\/e.aV=4 then rJ n e else
 if e.aV=5\/e.aV=6\/e.aV=7\/e.aV=8 then Cb n e else
 if e.aV=9\/e.aV=10 then BF n e.cm (eqB e.aV 10) else
 if e.aV=11\/e.aV=12 then fO n e.cm (eqB e.aV 12) else
 if e.aV=13 then vY n e.bG else(false,n)
theorem CP {B:Int} {n:ab} (h:NP B n) {e:cR} (he:EP e) (hB:B+10000<4611686018427387904):
 xy n e=some (jd n e)/\True/\NP (B+10000) (jd n e).2:=by
 rw[jd,xy]
 by_cases h1:e.aV=1
 .rw[if_pos h1,h1]
  have:=Pi h hB
  simp only[bb,this.1,au]
  exact⟨by first|rfl|trivial,by first|rfl|trivial,this.2.2⟩
 rw[if_neg h1]
 have n1:eqB e.aV 1=false:=by simpa [eqB] using h1
 by_cases h2:e.aV=2\/e.aV=3\/e.aV=4
 .rw[if_pos h2]
  have:=Je h e h2 ZK
  have hb':(bif eqB e.aV 2 then(some (eqB e.aV 2)) else(YL (bif eqB e.aV 3 then(some (eqB e.aV 3)) else(some (eqB e.aV 4))) λ(v3:Bool)=>some v3))=some true:=by
   rcases h2 with e|e|e<;>rw[e]<;>simp only[Nn,Np,Nq,Nr,Ns,Nt,JT,JU,JV,No,Nm,bb,au]<;>rfl
  rw[n1,hb']
  simp only[this.1,au]
  exact⟨by first|rfl|trivial,by first|rfl|trivial,this.2.2.mono ZK⟩
 rw[if_neg h2]
 have hb':(bif eqB e.aV 2 then(some (eqB e.aV 2)) else(YL (bif eqB e.aV 3 then(some (eqB e.aV 3)) else(some (eqB e.aV 4))) λ(v3:Bool)=>some v3))=some false:=by
  rw[show eqB e.aV 2=false by simp[eqB];omega,show eqB e.aV 3=false by simp[eqB];omega,show eqB e.aV 4=false by simp[eqB];omega];rfl
 rw[n1,hb']
 simp only[au]
 by_cases h3:e.aV=5\/e.aV=6\/e.aV=7\/e.aV=8
 .rw[if_pos h3]
  have:=Rp h e he h3 ZK
  have hb3:(bif eqB e.aV 5 then(some (eqB e.aV 5)) else(YL (bif eqB e.aV 6 then(some (eqB e.aV 6)) else(YL (bif eqB e.aV 7 then(some (eqB e.aV 7)) else(some (eqB e.aV 8))) λ(v7:Bool)=>some v7)) λ(v6:Bool)=>some v6))=some true:=by
   rcases h3 with e|e|e|e<;>rw[e]<;>simp only[Nn,Np,Nq,Nr,Ns,Nt,JT,JU,JV,No,Nm,bb,au]<;>rfl
  rw[hb3]
  simp only[this.1,au]
  exact⟨by first|rfl|trivial,by first|rfl|trivial,this.2.2.mono ZK⟩
 rw[if_neg h3]
 have hb3:(bif eqB e.aV 5 then(some (eqB e.aV 5)) else(YL (bif eqB e.aV 6 then(some (eqB e.aV 6)) else(YL (bif eqB e.aV 7 then(some (eqB e.aV 7)) else(some (eqB e.aV 8))) λ(v7:Bool)=>some v7)) λ(v6:Bool)=>some v6))=some false:=by
  rw[show eqB e.aV 5=false by simp[eqB];omega,show eqB e.aV 6=false by simp[eqB];omega,show eqB e.aV 7=false by simp[eqB];omega,show eqB e.aV 8=false by simp[eqB];omega];rfl
 rw[hb3]
 simp only[au]
 by_cases h4:e.aV=9\/e.aV=10
 .rw[if_pos h4]
  have:=N8 h e
  have hb4:(bif eqB e.aV 9 then(some (eqB e.aV 9)) else(some (eqB e.aV 10)))=some true:=by rcases h4 with e|e<;>rw[e]<;>simp[eqB]
  rw[hb4]
  simp only[this.1,au]
  exact⟨by first|rfl|trivial,by first|rfl|trivial,this.2.2.mono ZK⟩
 rw[if_neg h4]
 have hb4:(bif eqB e.aV 9 then(some (eqB e.aV 9)) else(some (eqB e.aV 10)))=some false:=by
  rw[show eqB e.aV 9=false by simp[eqB];omega,show eqB e.aV 10=false by simp[eqB];omega];rfl
 rw[hb4]
 simp only[au]
 by_cases h5:e.aV=11\/e.aV=12
 .rw[if_pos h5]
  have:=wG h e.cm (eqB e.aV 12)
  have hb5:(bif eqB e.aV 11 then(some (eqB e.aV 11)) else(some (eqB e.aV 12)))=some true:=by rcases h5 with e|e<;>rw[e]<;>simp[eqB]
  rw[hb5]
  simp only[this.1,au]
  exact⟨by first|rfl|trivial,by first|rfl|trivial,this.2.2.mono ZK⟩
 rw[if_neg h5]
 have hb5:(bif eqB e.aV 11 then(some (eqB e.aV 11)) else(some (eqB e.aV 12)))=some false:=by
  rw[show eqB e.aV 11=false by simp[eqB];omega,show eqB e.aV 12=false by simp[eqB];omega];rfl
 rw[hb5]
 simp only[au]
 by_cases h6:e.aV=13
 .rw[if_pos h6,h6]
  have:=Lb h e he ZK
  simp only[bb,this.1,au]
  exact⟨by first|rfl|trivial,by first|rfl|trivial,this.2.2.mono ZK⟩
 rw[if_neg h6,show eqB e.aV 13=false by simpa [eqB] using h6]
 exact⟨by first|rfl|trivial,by first|rfl|trivial,h.mono ZK⟩
attribute [local simp] bA bb be
structure BY (n:ab):Prop where
 d1:∀d∈n.an,∀x∈d.bI.aF,okB x.aS
 d2:∀d∈n.an,∀p∈d.bI.aQ,okB p.aS
 s1:∀s∈n.aj,∀p∈s.aA,okB p.aS
 s2:∀s∈n.aj,∀x∈s.aw.az,okB x.aS
 f:∀f∈n.aN,okB f.cr.bp.aS
theorem NP.of {n:ab} (ok:gp n) (v:lC n=true) (b:BY n):NP n.kT n:=by
 simp only[lC,yw,v0,bE,ee,W6,flB] at v
 obtain⟨v1,v2,v3,v4,v5,v6,v7,v8,v9,v10,v11,v12⟩:=v
 have v4:=xN v4
 have v5:=xf v5
 have v6:=xf v6
 have v8:=xN v8
 have v12:=xN v12
 refine⟨v1,ok.1,v2,I9 (by simpa using v3),by omega,v5,v6,λi d s a hd hs ha=>?_,by omega,λf hf=>?_,bE.2 v10,v11,⟨v12,by omega⟩⟩
 .have:=v7 i d hd
  simp only[uw,hs,ha,v0] at this
  obtain⟨m1,m2,m3,m4,m5,m6,m7,m8⟩:=this
  have hdm:=W2 hd
  have hsm:=W2 hs
  have c1:=bE.1 (show inR d.bg 0 ((n.d8.aR.length:Int)-1)=true from m5)
  have c2:=bE.1 (show inR s.bg 0 ((n.d8.aR.length:Int)-1)=true from m6)
  exact⟨DP.of m1 (ok.2.1.2 d hdm) (b.d1 d hdm) (b.d2 d hdm),by omega,⟨(Al (ok.2.2.1.2 s hsm)).1 m2,b.s1 s hsm,b.s2 s hsm,xo.1 m8⟩,by omega,pH m7,m4⟩
 have:=v9 f hf
 have c2:=bE.1 (show inR f.bg 0 ((n.d8.aR.length:Int)-1)=true from this.2)
 exact⟨by omega,by omega,b.f f hf,ok.2.2.2.2.2 f hf⟩
theorem NP.okN {B:Int} {n:ab} (h:NP B n):gp n:=by
 have h1:=h.ld
 have h2:=h.ls
 have h3:=h.la
 have h4:=h.fl
 refine⟨h.mok,⟨by omega,λd hd=>?_⟩,⟨by omega,λs hs=>?_⟩,⟨by omega,λa ha=>?_⟩,⟨by omega,λf hf=>(h.fs f hf).ok⟩⟩
 .obtain⟨i,hi⟩:=Xe hd
  have hlt:=(W1.1 hi).1
  obtain⟨d',s,a,e1,e2,e3,hm⟩:=h.at_ hlt
  rw[hi] at e1;cases e1;exact hm.dp.ok
 .obtain⟨i,hi⟩:=Xe hs
  have hlt:=(W1.1 hi).1
  obtain⟨d',s,a,e1,e2,e3,hm⟩:=h.at_ (show i<n.an.length by omega)
  rw[hi] at e2;cases e2;exact hm.sg.sp.ok
 obtain⟨i,hi⟩:=Xe ha
 have hlt:=(W1.1 hi).1
 obtain⟨d',s,a,e1,e2,e3,hm⟩:=h.at_ (show i<n.an.length by omega)
 rw[hi] at e3;cases e3;exact hm.sg.mo.acc.ok
theorem NP.by_ {B:Int} {n:ab} (h:NP B n):BY n:=by
 have h1:=h.ld
 have h2:=h.ls
 have gd:∀d∈n.an,DP d:=λd hd=>by
  obtain⟨i,hi⟩:=Xe hd
  obtain⟨d',s,a,e1,e2,e3,hm⟩:=h.at_ (W1.1 hi).1
  rw[hi] at e1;cases e1;exact hm.dp
 have gs:∀s∈n.aj,∃a,SG s a:=λs hs=>by
  obtain⟨i,hi⟩:=Xe hs
  have hlt:=(W1.1 hi).1
  obtain⟨d',s,a,e1,e2,e3,hm⟩:=h.at_ (show i<n.an.length by omega)
  rw[hi] at e2;cases e2;exact⟨a,hm.sg⟩
 exact⟨λd hd=>(gd d hd).rc.b1,λd hd=>(gd d hd).rc.b2,λs hs=>(gs s hs).elim λa h=>h.b1,λs hs=>(gs s hs).elim λa h=>h.b2,λf hf=>(h.fs f hf).b⟩
theorem NP.vn {B:Int} {n:ab} (h:NP B n):lC n=true:=by
 have h1:=h.ld
 have h2:=h.ls
 have h3:=h.la
 have h4:=h.fl
 have h5:=h.lo
 have hu:eqB n.cq.dm 0=false:=by simpa [eqB] using h.up
 simp only[lC,yw,v0,bE,ee,W6,flB]
 refine⟨h.map,h.core,by simp[hu],leB_t.2 ZK,eqB_t.2 ZK,eqB_t.2 ZK,λi d hd=>?_,leB_t.2 ZK,λf hf=>?_,bE.1 h.dn,h.nw,leB_t.2 h5.1⟩
 .obtain⟨d',s,a,e1,e2,e3,hm⟩:=h.at_ (W1.1 hd).1
  rw[hd] at e1;cases e1
  have hc:=hm.dp.ce
  have hsc:=hm.sg.sp
  simp only[uw,e2,e3,v0]
  exact⟨hm.dp.v,(Al hm.sg.sp.ok).2 hm.sg.sp,Co.2 hm.sg.mo.acc,hm.ids,bE.2 (by have:=hm.dc;omega),bE.2 (by have:=hm.sc;have:=hsc.ce;omega),eqB_t.2 hm.si,xo.2 hm.sg.mo⟩
 have hf:=h.fs f hf
 exact⟨by have:=hf.d;omega,bE.2 (by have:=hf.c;omega)⟩
open Go.Proofs
attribute [local simp] bA bb be
theorem GV (x:Int) (m:Nat) (hm:m<9223372036854775808):0<=vi .i64 x (m:Int)/\vi .i64 x (m:Int)<=m:=by
 unfold vi
 have h1:(BitVec.ofInt IntKind.i64.bits x&&& BitVec.ofInt IntKind.i64.bits (m:Int)).toNat<=m:=by
  rw[BitVec.toNat_and]
  refine X6 Nat.and_le_right ?_
  show(BitVec.ofInt 64 (m:Int)).toNat<=m
  rw[BitVec.toNat_ofInt]
  omega
 rw[It ZK]
 omega
structure da (c:aT):Prop where
 l:c.fb.length<=1048576
 u:∀x∈c.fb,ux x
 a:0<=c.fi
 b:c.fi<=c.fb.length
theorem zk {c:aT} (h:da c):∃v c',sx c=some (v,c')/\0<=v/\v<=255/\da c':=by
 unfold sx
 have:=h.l
 have ha:=h.a
 have hb:=h.b
 by_cases hi:c.fi<c.fb.length
 .obtain⟨x,hx,e⟩:=ix_in h.a hi
  rw[show ltB c.fi (c.fb.length:Int)=true from by simp[ltB,hi]]
  simp only[e,au]
  refine⟨_,_,rfl,(GV _ 255 ZK).1,(GV _ 255 ZK).2,⟨h.l,h.u,?_,?_⟩⟩
  .show 0<=WR (c.fi+1);rw[bL ZK];omega
  show WR (c.fi+1)<=(c.fb.length:Int);rw[bL ZK];omega
 rw[show ltB c.fi (c.fb.length:Int)=false from by simp[ltB];omega]
 simp only[au]
 exact⟨_,_,rfl,(GV _ 255 ZK).1,(GV _ 255 ZK).2,⟨h.l,h.u,h.a,h.b⟩⟩
theorem CH {v n:Int} (hv:0<=v) (hn:0<n):0<=YN v n/\YN v n<n:=by
 rw[YV hv]
 exact⟨Zl _ ZK,Zh _ hn⟩
theorem IK {c:aT} (h:da c) {n:Int} (hn:1<=n):∃v c',co c n=some (v,c')/\0<=v/\v<n/\da c':=by
 unfold co
 rw[show leB n 0=false from by simp[leB];omega]
 have hz:(!eqB n 0)=true:=by simp[eqB];omega
 simp only[hz,au]
 by_cases h2:n<=256
 .rw[show leB n 256=true from by simp[leB,h2]]
  obtain⟨v,c',e,h0,h1,hc⟩:=zk h
  have:=CH h0 (show 0<n by omega)
  simp only[e,au]
  exact⟨_,_,rfl,this.1,this.2,hc⟩
 rw[show leB n 256=false from by simp[leB];omega]
 obtain⟨v,c1,e,h0,h1,hc⟩:=zk h
 obtain⟨v2,c2,e2,h02,h12,hc2⟩:=zk hc
 obtain⟨v3,c3,e3,h03,h13,hc3⟩:=zk hc2
 simp only[e,e2,e3,au]
 rw[bL (n:=v*65536) ZK,bL (n:=v2*256) ZK,bL (n:=v*65536+v2*256) ZK,bL (n:=v*65536+v2*256+v3) ZK]
 have:=CH (v:=v*65536+v2*256+v3) ZK (show 0<n by omega)
 exact⟨_,_,rfl,this.1,this.2,hc3⟩
theorem Ug {c:aT} (h:da c) {n:Int} (hn:1<=n):∃v c',im c n=some (v,c')/\da c':=by
 obtain⟨v,c',e,_,_,hc⟩:=IK h hn
 exact⟨_,_,by rw[im,e];rfl,hc⟩
theorem V9 {xs:List Int} (hl:xs.length<=1048576) (hu:∀x∈xs,ux x):∃c,H9 xs=some c/\da c/\c.fb=xs:=by
 have key:∀(m n k:Nat) (v:Int),m=xs.length-k->k<=xs.length->m<n->∃r,iter (tR xs) n (v,(k:Int))=some r:=by
  intro m
  induction m with
  |zero=>
   intro n k v hm hk hn
   cases n with
   |zero=>omega
   |succ n=>
    have:k=xs.length:=by omega
    subst this
    exact⟨v,by rw[iter];simp[tR]⟩
  |succ m ih=>
   intro n k v hm hk hn
   cases n with
   |zero=>omega
   |succ n=>
    have hlt:k<xs.length:=by omega
    rw[iter]
    simp only[tR,cg hlt,be,W0 hlt,bN (show k<9223372036854775807 by omega),au]
    cases ltB (k:Int) 4000
    .exact⟨v,rfl⟩
    exact ih n (k+1) _ ZK ZK ZK
 obtain⟨r,hr⟩:=key xs.length FU 0 (WR (193017+(xs.length:Int))) ZK ZK (by have:=i9;omega)
 refine⟨⟨xs,0,r⟩,?_,⟨hl,hu,YP 0,Int.natCast_nonneg _⟩,rfl⟩
 rw[H9,show iter (tR xs) FU (WR (193017+(xs.length:Int)),0)=some r from hr]
 rfl
attribute [local simp] bA bb be
theorem dU {c:aT} (h:da c) {n:Int} (hn:1<=n):Wp (co c n) (λr=>da r.2/\0<=r.1/\r.1<n):=by
 obtain⟨v,c',e,h0,h1,hc⟩:=IK h hn
 exact Wp.of e ⟨hc,h0,h1⟩
theorem wZ {c:aT} (h:da c) {n:Int} (hn:1<=n):Wp (im c n) (λr=>da r.2):=by
 obtain⟨v,c',e,hc⟩:=Ug h hn
 exact Wp.of e hc
theorem UP {c:aT} (h:da c) {xs:List Int} (hx:xs≠[]):Wp (yV c xs) (λr=>da r.2/\r.1∈xs):=by
 have hl:0<xs.length:=Zv.2 hx
 unfold yV
 refine Wp.call (dU h ZK) λr hr=>?_
 exact Wp.ix hr.2.1 hr.2.2 λx hm _=>Wp.some ⟨hr.1,hm⟩
theorem SS {c:aT} (h:da c) {n:Int} (h0:0<=n) (hn:n<=4000):Wp (wL c n) (λr=>da r.2/\okB r.1/\(r.1.length:Int)=n):=by
 unfold wL
 refine Wp.call (P:=λx=>da x.2/\okB x.1/\(x.1.length:Int)=n) ?_ λx hx=>Wp.some hx
 refine Wp.iterF (λx=>(0<=x.1/\x.1<=n)/\da x.2.2/\okB x.2.1/\(x.2.1.length:Int)=x.1) (λx=>(n-x.1).toNat) ⟨⟨by omega,by omega⟩,h,λx hx=>by simp at hx,by simp⟩ (by simp only;have:=i9;omega) ?_
 rintro⟨v1,v5,v6⟩ ⟨⟨i0,i1⟩,i2,i3,i4⟩
 simp only at i0 i1 i2 i3 i4
 simp only[BV]
 refine Wp.cond (λhb=>?_) (λhb=>Wp.some ⟨i2,i3,by have:=s4 hb;show(v5.length:Int)=n;omega⟩)
 have hb:=mK hb
 obtain⟨b,c',e,b0,b1,hc⟩:=zk i2
 refine Wp.call (Wp.of (Q:=λr=>da r.2/\0<=r.1/\r.1<=255) e ⟨hc,b0,b1⟩) λr hr=>?_
 refine Wp.ok (gx (by simp;omega) (by simp;omega)) (Wp.some ⟨⟨⟨?_,?_⟩,hr.1,?_,?_⟩,?_⟩)
 all_goals simp only[bL (show-9223372036854775808<=v1+1/\v1+1<=9223372036854775807 by omega)]
 .omega
 .omega
 .intro x hx
  rcases W3.1 hx with hx|hx
  .exact i3 x hx
  simp at hx;subst hx
  have e1:IntKind.u8.wrap r.1=r.1:=by rw[Ta];omega
  rw[e1];exact hr.2
 .simp;omega
 omega
theorem H4 {α:Type} {P:α->Prop} {xs:List α} {i:Nat} {a:α} (h:∀x∈xs,P x) (ha:P a):∀x∈xs.set i a,P x:=λx hx=>by
 rcases Y7 hx with h'|h'
 .exact h x h'
 rw[h'];exact ha
theorem Rk {v:List (Int×List Int)} (h1:v.length<=5) (h2:∀e∈v,e.2.length<=1000):fw (⟨v.map λe=>(⟨e.1,e.2⟩:eH)⟩:aM):=by
 refine⟨by show(v.map _).length<=_;simp;omega,λx hx=>?_⟩
 obtain⟨e,he,rfl⟩:=X1.1 hx
 exact⟨by have:=h2 e he;show e.2.length<=_;omega,λ_ _=>trivial⟩
theorem wKey {c:aT} (h:da c):Wp (yZ c) (λr=>da r.2):=by
 unfold yZ
 exact Wp.call (dU h ZK) λr1 h1=>Wp.some h1.1
end Go.AM
