/- A part. -/
import Derived.Test.YtbfpkbncbebapaaGreatL
set_option linter.unusedVariables false
set_option linter.unusedSimpArgs false
open Option renaming bind_some->aaE,bind->aaC,map_some->aaY,bind_assoc->abc
open List renaming getElem?_eq_getElem->YO,getElem?_eq_some_iff->YP,mem_of_getElem?->YS,mem_append->YR,getElem?_of_mem->Y4,length_cons->YY,mem_cons->YU,getElem?_set->aaq,nil_append->ZR,pairwise_cons->aaK,pairwise_append->aaL,range->YQ,mem_map->ZQ,replicate->YV,all_eq_true->YX,getElem?_eq_none->aaN,mem_singleton->ZS,getElem?_append_left->YZ,takeWhile_append_dropWhile->aa2,ext_getElem?->aaQ,getElem?_mapIdx->aaU,getElem?_map->Zo,getElem_mem->aaS,takeWhile_cons->aa3,length_append->Y8,mem_range->ZW,cons_append->Zm,filter_cons->aaW,dropWhile_subset->aa8,length_singleton->aa4,foldl_cons->aaX,mem_filter->ZZ,mem_of_mem_take->Y9,length_nil->aaI,mem_zipIdx_iff_getElem?->aa5,length_zipIdx->aa9,find?_eq_none->aba,getElem?_append_right->Y1,getD_eq_getElem?_getD->Z4,append_assoc->Zr,rel_of_pairwise_cons->abj,mem_or_eq_of_mem_set->abd,length_map->Y3,take_of_length_le->aar,takeWhile_subset->abk,length_filter_le->aaZ,length_replicate->abg,take_add_one->aa0,any_eq_false->Z8,drop_length->abm,take_length->ZC,any_eq_true->Zh,drop_left->abn,drop_drop->ZX,length->abi
open Bool renaming and_eq_true->v0,or_eq_false_iff->Y2,eq_iff_iff->aaJ,and_true->aaO,not_eq_false'->aaM,true_and->aaP,not_eq_true'->Zf,or_self->aaT,and_false->aa6,false_and->aa7,false_or->Zk,or_false->abh,true_or->aa1
open Int renaming toNat_natCast->aaH,tmod->aaG,tmod_eq_emod_of_nonneg->aaR,emod_lt_of_pos->abb,emod_nonneg->abe,emod_eq_of_lt->abl,le_refl->aaF
open Nat renaming add_sub_cancel->aaV,min_eq_left->Zj,le_refl->YW,mul_le_mul->abf,zero_le->Y0,le_trans->ZY
namespace Go.AM
theorem kj:9223372036854775808<=FU:=by unfold FU;omega
def kN {α σ ρ:Type} (body:σ->α->Option (cK σ ρ)) (fin:σ->Option ρ):List α->σ->Option ρ
 |[],s=>fin s
 |x::xs,s=>match body s x with
  |some (.next s')=>kN body fin xs s'
  |some (.done r)=>some r
  |none=>none
def Az {σ τ ρ:Type} (f:σ->τ):Option (cK σ ρ)->Option (cK τ ρ)
 |some (.next s)=>some (.next (f s))
 |some (.done r)=>some (.done r)
 |none=>none
@[simp] theorem stepM_next {σ τ ρ:Type} (f:σ->τ) (s:σ):Az (ρ:=ρ) f (some (.next s))=some (.next (f s)):=rfl
@[simp] theorem stepM_done {σ τ ρ:Type} (f:σ->τ) (r:ρ):Az f (some (.done r))=some (.done r):=rfl
@[simp] theorem stepM_none {σ τ ρ:Type} (f:σ->τ):Az (ρ:=ρ) f none=none:=rfl
@[simp] theorem stepM_cond {σ τ ρ:Type} (f:σ->τ) (b:Bool) (x y:Option (cK σ ρ)):Az f (bif b then x else y)=bif b then Az f x else Az f y:=by cases b<;>rfl
@[simp] theorem stepM_bind {α σ τ ρ:Type} (f:σ->τ) (o:Option α) (k:α->Option (cK σ ρ)):Az f (aaC o k)=aaC o (λa=>Az f (k a)):=by cases o<;>rfl
@[simp] theorem dn_some {σ ρ:Type} (r:ρ):dn (σ:=σ) (some r)=some (.done r):=rfl
@[simp] theorem dn_none {σ ρ:Type}:dn (σ:=σ) (ρ:=ρ) none=none:=rfl
theorem fP {α σ τ ρ:Type} {step:τ->Option (cK τ ρ)} (xs:List α) (mk:Nat->σ->τ) (body:σ->α->Option (cK σ ρ)) (fin:σ->Option ρ) (hl:xs.length<=9223372036854775806)
 (hs:∀(k:Nat) (x:α) (s:σ),xs[k]?=some x->k<xs.length->step (mk k s)=Az (mk (k+1)) (body s x))
 (he:∀s,step (mk xs.length s)=dn (fin s)) (s0:σ):iter step FU (mk 0 s0)=kN body fin xs s0:=by
 have key:∀(m n:Nat) (s:σ) (k:Nat),m=xs.length-k->k<=xs.length->m<n->iter step n (mk k s)=kN body fin (xs.drop k) s:=by
  intro m
  induction m with
  |zero=>
   intro n s k hm hk hn
   cases n with
   |zero=>omega
   |succ n=>
    have:k=xs.length:=by omega
    subst this
    rw[abm,kN,iter,he]
    cases fin s<;>rfl
  |succ m ih=>
   intro n s k hm hk hn
   cases n with
   |zero=>omega
   |succ n=>
    have hlt:k<xs.length:=by omega
    rw[List.drop_eq_getElem_cons hlt,kN,iter,hs k xs[k] s (YO hlt) hlt]
    cases hb:body s xs[k] with
    |none=>rfl
    |some o=>
     cases o with
     |done r=>rfl
     |next s'=>exact ih n s' (k+1) oaa oaa oaa
 have:=key (xs.length-0) FU s0 0 rfl (Y0 _) (by have:=kj;omega)
 simpa using this
theorem bk {α:Type} (xs:List α) (k:Nat):ix xs (k:Int)=xs[k]?:=by simp[ix,leB]
theorem bP {n:Int} (h: -9223372036854775808<=n/\n<=9223372036854775807):WR n=n:=IT h
theorem cp {k:Nat} (h:k<9223372036854775807):WR ((k:Int)+1)=((k+1:Nat):Int):=by rw[bP oaa];omega
theorem dm {a b:Nat} (h:a<b):ltB (a:Int) (b:Int)=true:=by simp[ltB,h]
theorem bB (a:Int):ltB a a=false:=by simp[ltB]
theorem aQ (a:Int):eqB a a=true:=by simp[eqB]
theorem PN {α β:Type} {step:Int×List β->Option (cK (Int×List β) (List β))} (f:α->β) (z:β) (xs:List α) (hl:xs.length<=9223372036854775806)
 (hs:∀(k:Nat) (x:α) (v:List β),xs[k]?=some x->v.length=xs.length->step ((k:Int),v)=some (.next (((k+1:Nat):Int),v.set k (f x))))
 (he:∀v,step ((xs.length:Nat),v)=some (.done v)):iter step FU (0,YV xs.length z)=some (xs.map f):=by
 have key:∀(m n:Nat) (k:Nat),m=xs.length-k->k<=xs.length->m<n->iter step n ((k:Int),(xs.take k).map f++YV (xs.length-k) z)=some (xs.map f):=by
  intro m
  induction m with
  |zero=>
   intro n k hm hk hn
   cases n with
   |zero=>omega
   |succ n=>
    have:k=xs.length:=by omega
    subst this
    rw[iter,he]
    simp
  |succ m ih=>
   intro n k hm hk hn
   cases n with
   |zero=>omega
   |succ n=>
    have hlt:k<xs.length:=by omega
    rw[iter,hs k xs[k] _ (YO hlt) (by simp;omega)]
    have e:((xs.take k).map f++YV (xs.length-k) z).set k (f xs[k])=(xs.take (k+1)).map f++YV (xs.length-(k+1)) z:=by
     apply aaQ
     intro j
     rw[aaq]
     by_cases hj:k=j
     .subst hj
      rw[if_pos rfl,if_pos (by simp;omega),YZ (by simp;omega)]
      simp[hlt]
     rw[if_neg hj]
     by_cases h2:j<k
     .rw[YZ (by simp;omega),YZ (by simp;omega)]
      simp[h2,show j<k+1 by omega]
     rw[Y1 (by simp;omega),Y1 (by simp;omega)]
     simp only[List.getElem?_replicate,Y3,List.length_take,Zj (Nat.le_of_lt hlt),Zj (show k+1<=xs.length from hlt)]
     by_cases h3:j<xs.length
     .rw[if_pos oaa,if_pos oaa]
     rw[if_neg oaa,if_neg oaa]
    show iter step n (((k+1:Nat):Int),_)=_
    rw[e]
    exact ih n (k+1) oaa oaa oaa
 have:=key (xs.length-0) FU 0 rfl (Y0 _) (by have:=kj;omega)
 simpa using this
attribute [local simp] bB aQ bk
def okL {α:Type} (ok:α->Prop) (xs:List α):Prop:=xs.length<=1048576/\∀x∈xs,ok x
def preL {α:Type} (pre:α->Prop) (xs:List α):Prop:=xs.length<=9223372036854775807/\∀x∈xs,pre x
theorem DH {α ρ:Type} {body:Unit->α->Option (cK Unit ρ)} {fin:Unit->Option ρ}:∀(xs:List α),(∀x∈xs,body () x=some (.next ()))->kN body fin xs ()=fin ()
 |[],_=>rfl
 |x::xs,h=>by rw[kN,h x (by simp)];exact DH xs (λy hy=>h y (by simp[hy]))
theorem lt0_t {r:Int} (h:r<0):ltB r 0=true:=by simp[ltB,h]
theorem lt0_f {r:Int} (h:0<=r):ltB r 0=false:=by simp[ltB];omega
def wk {α β:Type} (by_:Nat) (p:α->Bool) (f:α->β) (acc:List β) (x:α):Option (cK (List β) (List β)):=
 bif p x then(bif em by_ (acc++[f x]).length then some (.next (acc++[f x])) else none) else some (.next acc)
theorem xn {α β:Type} {by_:Nat} (hb:by_<=100000) (p:α->Bool) (f:α->β):∀(xs:List α) (acc:List β),acc.length+xs.length<=1048576->kN (wk by_ p f) some xs acc=some (acc++(xs.filter p).map f)
 |[],acc,h=>by simp[kN]
 |x::xs,acc,h=>by
  simp only[YY] at h
  rw[kN]
  cases hp:p x with
  |false=>
   rw[List.filter_cons_of_neg (by simp[hp])]
   simpa [wk,hp] using xn hb p f xs acc oaa
  |true=>
   have ha:em by_ (acc++[f x]).length=true:=by
    have h1:(acc++[f x]).length*by_<=1048577*100000:=abf (by simp;omega) hb
    simp only[em,decide_eq_true_eq]
    refine⟨by omega,by simp;omega⟩
   rw[List.filter_cons_of_pos (by simp[hp])]
   simp only[wk,hp,ha,cond_true]
   rw[xn hb p f xs (acc++[f x]) (by simp;omega)]
   simp
theorem ec {by_ n:Nat} (hb:by_<=100000) (hn:n<=1048577):em by_ n=true:=by
 have h1:n*by_<=1048577*100000:=abf hn hb
 simp only[em,decide_eq_true_eq]
 omega
def yT (n:Int):Prop:=0<=n/\n<=255
theorem wf_u8 {n:Int} (h:(Lit.int .u8 n).wf=true):yT n:=by
 simp[Lit.wf,IntKind.min,IntKind.max,IntKind.signed,IntKind.bits] at h
 exact⟨by omega,by omega⟩
theorem A0 {α:Type} {L:Int->Option (cK Int Int)} (xs:List α) (p:α->Bool) (hl:xs.length<=9223372036854775806)
 (hs:∀(k:Nat) (x:α),xs[k]?=some x->k<xs.length->L (k:Int)=bif p x then some (.done (k:Int)) else some (.next ((k+1:Nat):Int))) (he:L (xs.length:Int)=some (.done (-1))):
 iter L FU 0=some (ou p 0 xs):=by
 have key:∀(m n:Nat) (k:Nat),m=xs.length-k->k<=xs.length->m<n->iter L n (k:Int)=some (ou p k (xs.drop k)):=by
  intro m
  induction m with
  |zero=>
   intro n k hm hk hn
   cases n with
   |zero=>omega
   |succ n=>
    have:k=xs.length:=by omega
    subst this
    rw[iter,he,abm,ou]
  |succ m ih=>
   intro n k hm hk hn
   cases n with
   |zero=>omega
   |succ n=>
    have hlt:k<xs.length:=by omega
    rw[iter,hs k xs[k] (YO hlt) hlt,Sv hlt]
    cases p xs[k] with
    |true=>rfl
    |false=>exact ih n (k+1) oaa oaa oaa
 have:=key (xs.length-0) FU 0 rfl (Y0 _) (by have:=kj;omega)
 simpa using this
theorem Ge {α:Type} (p:α->Bool):∀(xs:List α) (i:Nat),ou p (i:Int) xs= -1/\(∀x∈xs,p x=false)\/∃j:Nat,ou p (i:Int) xs=((i+j:Nat):Int)/\∃x,xs[j]?=some x/\p x=true/\∀y∈xs.take j,p y=false
 |[],i=>.inl ⟨rfl,by simp⟩
 |x::xs,i=>by
  rw[ou]
  cases hp:p x with
  |true=>exact .inr ⟨0,by simp,x,rfl,hp,by simp⟩
  |false=>
   rcases Ge p xs (i+1) with⟨h1,h2⟩|⟨j,h1,y,h2,h3,h4⟩
   .exact .inl ⟨by simpa using h1,by simp[hp];exact h2⟩
   refine .inr ⟨j+1,?_,y,by simpa using h2,h3,by simp[hp];exact h4⟩
   have:ou p ((i:Int)+1) xs=((i+1+j:Nat):Int):=by simpa using h1
   simp only[cond_false]
   rw[this];omega
theorem Ji {α:Type} {L:Int->Option (cK Int Bool)} (xs:List α) (p:α->Bool) (hl:xs.length<=9223372036854775806)
 (hs:∀(k:Nat) (x:α),xs[k]?=some x->k<xs.length->L (k:Int)=bif p x then some (.done true) else some (.next ((k+1:Nat):Int))) (he:L (xs.length:Int)=some (.done false)):
 iter L FU 0=some (xs.any p):=by
 have:=fP (step:=L) xs (λk (_:Unit)=>(k:Int)) (λ_ x=>bif p x then some (.done true) else some (.next ())) (λ_=>some false) hl
  (λk x s hx hk=>by rw[hs k x hx hk];cases p x<;>rfl) (λs=>by rw[he];rfl) ()
 refine Eq.trans (show iter L FU 0=_ from this) ?_
 have key:∀xs:List α,kN (λ(_:Unit) x=>bif p x then some (cK.done true) else some (.next ())) (λ_=>some false) xs ()=some (xs.any p):=by
  intro xs
  induction xs with
  |nil=>rfl
  |cons x xs ih=>rw[kN];cases hp:p x<;>simp[hp,ih]
 exact key xs
theorem Q7 {α:Type} {L:Int->Option (cK Int Bool)} (xs:List α) (p:α->Bool) (hl:xs.length<=9223372036854775806)
 (hs:∀(k:Nat) (x:α),xs[k]?=some x->k<xs.length->L (k:Int)=bif p x then some (.next ((k+1:Nat):Int)) else some (.done false)) (he:L (xs.length:Int)=some (.done true)):
 iter L FU 0=some (xs.all p):=by
 have:=fP (step:=L) xs (λk (_:Unit)=>(k:Int)) (λ_ x=>bif p x then some (.next ()) else some (.done false)) (λ_=>some true) hl
  (λk x s hx hk=>by rw[hs k x hx hk];cases p x<;>rfl) (λs=>by rw[he];rfl) ()
 refine Eq.trans (show iter L FU 0=_ from this) ?_
 have key:∀xs:List α,kN (λ(_:Unit) x=>bif p x then some (.next ()) else some (cK.done false)) (λ_=>some true) xs ()=some (xs.all p):=by
  intro xs
  induction xs with
  |nil=>rfl
  |cons x xs ih=>rw[kN];cases hp:p x<;>simp[hp,ih]
 exact key xs
theorem allK {α:Type} {L:Int->Option (cK Int Bool)} (xs:List α) (p:Nat->α->Bool) (c:Option Bool) (hl:xs.length<=9223372036854775806)
 (hs:∀(k:Nat) (x:α),xs[k]?=some x->k<xs.length->L (k:Int)=bif p k x then some (.next ((k+1:Nat):Int)) else some (.done false)) (he:L (xs.length:Int)=dn c):
 iter L FU 0=bif xs.zipIdx.all (λy=>p y.2 y.1) then c else some false:=by
 have:=fP (step:=L) xs.zipIdx (λk (_:Unit)=>(k:Int)) (λ_ y=>bif p y.2 y.1 then some (.next ()) else some (.done false)) (λ_=>c) (by simpa using hl)
  (λk y s hy hk=>by
   have hk':k<xs.length:=by simpa using hk
   have:y=(xs[k],k):=by rw[YO hk] at hy;simpa using hy.symm
   subst this
   rw[hs k xs[k] (YO hk') hk'];cases p k xs[k]<;>rfl) (λs=>by rw[aa9,he]) ()
 refine Eq.trans (show iter L FU 0=_ from this) ?_
 have key:∀ys:List (α×Nat),kN (λ(_:Unit) y=>bif p y.2 y.1 then some (.next ()) else some (cK.done false)) (λ_=>c) ys ()=bif ys.all (λy=>p y.2 y.1) then c else some false:=by
  intro ys
  induction ys with
  |nil=>rfl
  |cons x xs ih=>rw[kN];cases hp:p x.2 x.1<;>simp[hp,ih]
 exact key _
def inR (n a b:Int):Bool:=leB a n&&leB n b
theorem bu {n a b:Int}:inR n a b=true↔a<=n/\n<=b:=by simp[inR,leB]
theorem Hi {n:Nat} (h:n<=1048576):WR ((n:Int)-1)=(n:Int)-1:=bP oaa
theorem SD {α:Type} {xs:List α} {i:Int} (h0:0<=i) (h1:i<xs.length):∃x,x∈xs/\ix xs i=some x:=by
 obtain⟨k,rfl⟩:=Int.eq_ofNat_of_zero_le h0
 have hk:k<xs.length:=by omega
 exact⟨xs[k],aaS hk,by rw[bk,YO hk]⟩
def rgI (k:IntKind) (n:Int):Prop:=(Lit.int k n).wf=true
theorem WT.rg {k:IntKind} {n:Int} (h:WT (.i k) (.i k n)):rgI k n:=by
 cases h with|i h=>exact h
theorem Np {α:Type} {e:List Sh} {f:α->List D}:∀{xs:List α},WTL e (xs.map f)->∀x∈xs,WTs e (f x)
 |[],_,x,hx=>by cases hx
 |y::ys,h,x,hx=>by
  cases h with
  |cons h1 h2=>
   rcases YU.1 hx with rfl|hx
   .exact h1
   exact Np h2 x hx
theorem WT.rl {α:Type} {e:List Sh} {f:α->List D} {xs:List α} (h:WT (.l e) (.l (xs.map f))):∀x∈xs,WTs e (f x):=by
 cases h with|l hl h=>exact Np h
def Wp {α:Type} (m:Option α) (Q:α->Prop):Prop:=match m with
 |some a=>Q a
 |none=>False
theorem Wp.ex {α:Type} {m:Option α} {Q:α->Prop} (h:Wp m Q):∃a,m=some a/\Q a:=by
 cases m with
 |none=>exact h.elim
 |some a=>exact⟨a,rfl,h⟩
theorem Wp.of {α:Type} {m:Option α} {Q:α->Prop} {a:α} (h:m=some a) (q:Q a):Wp m Q:=by subst h;exact q
theorem Wp.some {α:Type} {a:α} {Q:α->Prop} (h:Q a):Wp (some a) Q:=h
theorem Wp.bind {α β:Type} {m:Option α} {k:α->Option β} {Q:β->Prop} (h:Wp m (λa=>Wp (k a) Q)):Wp (aaC m k) Q:=by
 cases m with
 |none=>exact h.elim
 |some a=>exact h
theorem Wp.mono {α:Type} {m:Option α} {P Q:α->Prop} (h:Wp m P) (k:∀a,P a->Q a):Wp m Q:=by
 cases m with
 |none=>exact h.elim
 |some a=>exact k a h
theorem Wp.call {α β:Type} {m:Option α} {k:α->Option β} {P:α->Prop} {Q:β->Prop} (h:Wp m P) (hk:∀a,P a->Wp (k a) Q):Wp (aaC m k) Q:=Wp.bind (h.mono hk)
theorem Wp.eq {α β:Type} {m:Option α} {k:α->Option β} {a:α} {Q:β->Prop} (h:m= .some a) (hk:Wp (k a) Q):Wp (aaC m k) Q:=by subst h;exact hk
theorem Wp.cond {α:Type} {b:Bool} {x y:Option α} {Q:α->Prop} (h1:b=true->Wp x Q) (h0:b=false->Wp y Q):Wp (bif b then x else y) Q:=by
 cases b
 .exact h0 rfl
 exact h1 rfl
theorem Wp.ok {α:Type} {b:Bool} {x:Option α} {Q:α->Prop} (hb:b=true) (h:Wp x Q):Wp (bif b then x else none) Q:=by subst hb;exact h
theorem Wp.iter {σ ρ:Type} {step:σ->Option (cK σ ρ)} {Q:ρ->Prop} (I:σ->Prop) (μ:σ->Nat) (h:∀x,I x->Wp (step x) (λs=>match s with| .next x'=>I x'/\μ x'<μ x| .done r=>Q r)):
 ∀(n:Nat) (x:σ),I x->μ x<n->Wp (AM.iter step n x) Q
 |0,_,_,h=>by omega
 |n+1,x,hI,hn=>by
  obtain⟨s,e,hs⟩:=(h x hI).ex
  rw[AM.iter,e]
  cases s with
  |next x'=>exact Wp.iter I μ h n x' hs.1 (by have:=hs.2;omega)
  |done r=>exact hs
theorem Wp.iterF {σ ρ:Type} {step:σ->Option (cK σ ρ)} {Q:ρ->Prop} (I:σ->Prop) (μ:σ->Nat) {x:σ} (hI:I x) (hn:μ x<=1000000000000) (h:∀x,I x->Wp (step x) (λs=>match s with| .next x'=>I x'/\μ x'<μ x| .done r=>Q r)):Wp (AM.iter step FU x) Q:=
 Wp.iter I μ h FU x hI (by have:=kj;omega)
theorem Wp.dn {σ ρ:Type} {m:Option ρ} {Q:cK σ ρ->Prop} (h:Wp m (λr=>Q (.done r))):Wp (AM.dn m) Q:=by
 cases m with
 |none=>exact h.elim
 |some r=>exact h
theorem Wp.ix {α β:Type} {xs:List α} {i:Int} {k:α->Option β} {Q:β->Prop} (h0:0<=i) (h1:i<xs.length) (hk:∀x,x∈xs->xs[i.toNat]?= .some x->Wp (k x) Q):Wp (aaC (AM.ix xs i) k) Q:=by
 have hl:i.toNat<xs.length:=by omega
 have hx:xs[i.toNat]?= .some xs[i.toNat]:=YO hl
 refine Wp.eq (a:=xs[i.toNat]) ?_ (hk _ (aaS hl) hx)
 unfold AM.ix
 rw[show leB 0 i=true from by simp[leB,h0]]
 exact hx
theorem ko {a b:Int} (h:ltB a b=true):a<b:=ltB_t.1 h
theorem nO {a b:Int} (h:ltB a b=false):b<=a:=ltB_f.1 h
theorem sb {a b:Int} (h:leB a b=true):a<=b:=leB_t.1 h
theorem tD {a b:Int} (h:leB a b=false):b<a:=leB_f.1 h
theorem fx {a b:Int} (h:eqB a b=true):a=b:=eqB_t.1 h
theorem Cd {a b:Int} (h:eqB a b=false):a≠b:=eqB_f.1 h
theorem iD {b n:Nat} (h:n*b<=140737488355328) (h':n<=9223372036854775807):em b n=true:=by simp[em,h,h']
attribute [local simp] bB aQ bk
def VP (a:eY):Prop:=okL (λ_=>True) a.b8
def gR (a:aU):Prop:=okL VP a.aZ
def fR (a:an):Prop:=okL (λ_=>True) a.a8
def rI (a:bm):Prop:=okL (λ_=>True) a.a8
def fF (a:aX):Prop:=okL fR a.aO/\okL rI a.bj
def eO (a:aw):Prop:=fF a.aT
def ez (a:bz):Prop:=okL (λ_=>True) a.bv
def kf (a:bh):Prop:=okL fR a.aD
def eu (a:ae):Prop:=ez a.gT/\okL rI a.ax/\kf a.aq
def mE (a:av):Prop:=okL (λ_=>True) a.ay
def sO (a:b5):Prop:=okL (λ_=>True) a.a8
def nP (a:aK):Prop:=sO a.cj
def mP (a:a9):Prop:=nP a.b6
def lb (a:ab):Prop:=gR a.bX/\okL eO a.ah/\okL eu a.aj/\okL mE a.aB/\okL mP a.aA
open Go.Proofs
attribute [local simp] bB aQ bk
def fZ {α:Type} (p:Nat->α->Bool) (xs:List α):Bool:=xs.zipIdx.all (λy=>p y.2 y.1)
theorem eb {α:Type} {p:Nat->α->Bool} {xs:List α}:fZ p xs=true↔∀(k:Nat) (x:α),xs[k]?=some x->p k x=true:=by
 unfold fZ
 rw[YX]
 constructor
 .intro h k x hx
  exact h (x,k) (by rw[aa5];simpa using hx)
 rintro h ⟨x,k⟩ hm
 rw[aa5] at hm
 exact h k x (by simpa using hm)
theorem LE {α:Type} {p q:Nat->α->Bool} {xs:List α} (h:∀(k:Nat) (x:α),xs[k]?=some x->p k x=q k x):fZ p xs=fZ q xs:=by
 rw[aaJ,eb,eb]
 constructor
 .intro g k x hx;rw[<-h k x hx];exact g k x hx
 intro g k x hx;rw[h k x hx];exact g k x hx
theorem Jg {α:Type} {p q:Nat->α->Bool} {xs:List α}:(fZ p xs&&fZ q xs)=fZ (λk x=>p k x&&q k x) xs:=by
 rw[aaJ,v0,eb,eb,eb]
 constructor
 .rintro⟨h1,h2⟩ k x hx;simp[h1 k x hx,h2 k x hx]
 intro h
 exact⟨λk x hx=>by have:=h k x hx;simp at this;exact this.1,λk x hx=>by have:=h k x hx;simp at this;exact this.2⟩
theorem Jf {α:Type} {p:α->Bool} {xs:List α}:fZ (λ_ x=>p x) xs=xs.all p:=by
 rw[aaJ,eb,YX]
 constructor
 .intro h x hx
  obtain⟨k,hk,rfl⟩:=List.getElem_of_mem hx
  exact h k _ (YO hk)
 intro h k x hx;exact h x (YS hx)
theorem jW {α:Type} {L:Int->Option (cK Int Bool)} (xs:List α) (p:Nat->α->Bool) (c:Option Bool) (hl:xs.length<=9223372036854775806)
 (hs:∀(k:Nat) (x:α),xs[k]?=some x->k<xs.length->L (k:Int)=bif p k x then some (.next ((k+1:Nat):Int)) else some (.done false)) (he:L (xs.length:Int)=dn c):
 iter L FU 0=bif fZ p xs then c else some false:=allK xs p c hl hs he
theorem zT {α:Type} {xs:List α} {k:Nat} (hk:k<xs.length) (h0:0<k) (hl:xs.length<=9223372036854775806):∃y,xs[k-1]?=some y/\ix xs (WR ((k:Int)-1))=some y:=by
 have h1:k-1<xs.length:=by omega
 refine⟨xs[k-1],YO h1,?_⟩
 rw[bP oaa,show((k:Int)-1)=((k-1:Nat):Int) from by omega,bk,YO h1]
def lc {α:Type} (key:α->Int) (xs:List α) (k:Nat) (x:α):Bool:=match k with
 |0=>true
 |j+1=>match xs[j]? with
  |some y=>!leB (key x) (key y)
  |none=>false
def asc (xs:List Int):Bool:=fZ (lc id xs) xs
theorem gj (a b c:Int):bE a b c=some (inR a b c):=by
 unfold bE inR
 cases leB b a<;>rfl
theorem wO (a b c:Int):nX a b c=some (inR a b c):=by
 unfold nX inR
 cases leB b a<;>rfl
theorem NZ {xs:List Int} (h:xs.length<=1048576):nK xs=some (asc xs):=by
 have key:∀(n m:Nat) (j:Nat),j+n=xs.length->1<=j->n<m->∃b,iter (jS xs) m (j:Int)=some b/\(b=true↔∀k x,j<=k->xs[k]?=some x->lc id xs k x=true):=by
  intro n
  induction n with
  |zero=>
   intro m j hj h1 hm
   cases m with
   |zero=>omega
   |succ m=>
    simp only[iter,jS]
    rw[show ltB (j:Int) (xs.length:Int)=false from by simp[ltB];omega]
    refine⟨true,rfl,λ_ k x hk hx=>?_,λ_=>rfl⟩
    have:=(YP.1 hx).1
    omega
  |succ n ih=>
   intro m j hj h1 hm
   cases m with
   |zero=>omega
   |succ m=>
    have hjl:j<xs.length:=by omega
    obtain⟨y,hy,hi⟩:=zT hjl oaa oaa
    simp only[iter,jS]
    rw[dm hjl,hi,bk,YO hjl]
    simp only[au]
    obtain⟨i,rfl⟩:∃i,j=i+1:=⟨j-1,by omega⟩
    simp only[aaV] at hy
    cases hle:leB xs[i+1] y with
    |true=>
     refine⟨false,rfl,(λh=>by cases h),λhh=>?_⟩
     have:=hh (i+1) _ (YW _) (YO hjl)
     simp[lc,hy,hle] at this
    |false=>
     simp only[cond_false]
     rw[cp (show i+1<9223372036854775807 by omega)]
     obtain⟨b,hb,hi⟩:=ih m (i+1+1) oaa oaa oaa
     refine⟨b,hb,hi.trans ⟨λhh k x hk hx=>?_,λhh k x hk hx=>hh k x oaa hx⟩⟩
     by_cases e:k=i+1
     .subst e
      rw[YO hjl] at hx;cases hx
      simp[lc,hy,hle]
     exact hh k x oaa hx
 unfold nK
 cases hx:xs with
 |nil=>
  have:FU=(FU-1)+1:=by have:=kj;omega
  rw[this,iter]
  simp[jS,dn,ltB,asc,fZ]
 |cons a l=>
  rw[<-hx]
  obtain⟨b,hb,hi⟩:=key (xs.length-1) FU 1 (by have:0<xs.length:=(by rw[hx];simp);omega) (YW _) (by have:=kj;omega)
  rw[show(1:Int)=((1:Nat):Int) from rfl,hb]
  congr 1
  rw[aaJ,hi,asc,eb]
  constructor
  .intro hh k x hk
   cases k with
   |zero=>rfl
   |succ k=>exact hh _ x oaa hk
  intro hh k x _ hk;exact hh k x hk
def mf (k:Int):Bool:=inR k 1 2147483646
theorem J8 (k:Int):gA k=some (mf k):=by simp only[gA,gj,aaE,mf]
theorem key_s (k:Int):sR k=some (mf k):=by simp only[sR,wO,aaE,mf]
def FF (x:du):Bool:=inR x.d8 0 3&&inR x.bI 0 99
theorem W1 (x:du):gB x=some (FF x):=by
 simp only[gB,gj,aaE,FF];cases inR x.d8 0 3<;>rfl
theorem sid_s (x:du):iO x=some (FF x):=by
 simp only[iO,wO,aaE,FF];cases inR x.d8 0 3<;>rfl
def yr (x:qf):Bool:=FF x.ID&&(mf x.eR&&inR x.df 0 999999)
theorem UA (x:qf):nm x=some (yr x):=by
 simp only[nm,W1,J8,gj,aaE,yr];cases FF x.ID<;>cases mf x.eR<;>rfl
def uC (x:aP):Bool:=FF x.ID&&(mf x.eR&&inR x.cQ 0 999999)
theorem WX (x:aP):fg x=some (uC x):=by
 simp only[fg,W1,J8,gj,aaE,uC];cases FF x.ID<;>cases mf x.eR<;>rfl
theorem rec_s (x:aP):gv x=some (uC x):=by
 simp only[gv,sid_s,key_s,wO,aaE,uC];cases FF x.ID<;>cases mf x.eR<;>rfl
def n9 (x:cL):Bool:=inR x.fJ 0 2&&(inR x.dt 0 4&&inR x.di 0 3)
theorem Tz (x:cL):ni x=some (n9 x):=by
 simp only[ni,gj,aaE,n9];cases inR x.fJ 0 2<;>cases inR x.dt 0 4<;>rfl
def oc (x:cd):Bool:=inR x.hP 1 6&&inR x.f7 0 (WR ((mW .i64 1 x.hP)-1))
theorem Ih (x:cd):jw x=some (oc x):=by
 simp only[jw,gj,aaE,oc]
 cases h:inR x.hP 1 6 with
 |false=>rfl
 |true=>rw[show leB 0 x.hP=true from by rw[bu] at h;simp[leB];omega];rfl
def kr (x:dh):Bool:=leB 0 x.aC&&(leB 0 x.d4&&(leB x.d4 x.cB&&leB x.cB 100000))
theorem CO (x:dh):iV x=some (kr x):=by
 simp only[iV,aaE,kr];cases leB 0 x.aC<;>cases leB 0 x.d4<;>cases leB x.d4 x.cB<;>rfl
theorem VY (x:dh):oZ x=some (kr x):=by
 have:kr x=(leB 0 x.aC&&(inR x.cB 0 100000&&inR x.d4 0 x.cB)):=by
  rw[aaJ];simp[kr,inR,leB];omega
 rw[this]
 simp only[oZ,wO,aaE];cases leB 0 x.aC<;>cases inR x.cB 0 100000<;>rfl
def HJ (n:Nat):Bool:=!ltB 60 (n:Int)
def CA (xs:List bm):Bool:=xs.all λx=>HJ x.a8.length
theorem WM {xs:List bm} (h:xs.length<=1048576):sM xs=some (CA xs):=
 Q7 xs (λx=>HJ x.a8.length) oaa (λk x hx hk=>by
  simp only[rA,dm hk,bk,hx,cp (show k<9223372036854775807 by omega),HJ,au]
  cases ltB 60 (x.a8.length:Int)<;>rfl) (by simp[rA,dn])
def Em (r:aX) (k:Nat) (x:an):Bool:=inR x.cQ (WR (r.bb+1)) (WR (WR (r.bb+8)-1))&&(lc an.cQ r.aO k x&&HJ x.a8.length)
def s8 (r:aX):Bool:=eqB r.bb (WR ((r.bj.length:Int)+1))&&(leB (r.bj.length:Int) 24&&(CA r.bj&&(leB (r.aO.length:Int) 8&&fZ (Em r) r.aO)))
theorem vL (a b:Int):ltB a b=!leB b a:=by rw[aaJ];simp[ltB,leB]
theorem TN {r:aX} (h1:r.bj.length<=1048576) (h2:r.aO.length<=1048576):jg r=some (s8 r):=by
 have hL:iter (ja r) FU 0=bif fZ (Em r) r.aO then some true else some false:=by
  refine jW r.aO (Em r) (some true) oaa (λk x hx hk=>?_) (by simp[ja])
  simp only[ja,dm hk,bk,hx,cp (show k<9223372036854775807 by omega),gj,Em,HJ,au]
  cases k with
  |zero=>
   simp only[lc,show ltB 0 ((0:Nat):Int)=false from by simp[ltB]]
   cases ltB 60 (x.a8.length:Int)<;>cases inR x.cQ (WR (r.bb+1)) (WR (WR (r.bb+8)-1))<;>rfl
  |succ k=>
   obtain⟨y,hy,hi⟩:=zT hk oaa oaa
   simp only[aaV] at hy
   simp only[lc,hy,hi,show ltB 0 ((k+1:Nat):Int)=true from by simp[ltB],aaE]
   cases ltB 60 (x.a8.length:Int)<;>cases inR x.cQ (WR (r.bb+1)) (WR (WR (r.bb+8)-1))<;>cases leB x.cQ y.cQ<;>rfl
 simp only[jg,WM h1,aaE,hL,s8,vL 24,vL 8]
 cases eqB r.bb (WR ((r.bj.length:Int)+1))<;>cases leB (r.bj.length:Int) 24<;>cases CA r.bj<;>cases leB (r.aO.length:Int) 8<;>cases fZ (Em r) r.aO<;>rfl
def o7 (d:aw):Bool:=yr d.cZ&&(inR d.aG 0 3&&(inR d.aE 0 5&&(inR d.ag 0 999999&&(inR d.aF 0 999999&&(inR d.aV 0 2147483646&&((!inR d.aG 2 3||mf d.aV)&&(inR d.di 0 3&&s8 d.aT)))))))
theorem st23 (n:Int):inR n 2 3=(eqB n 2||eqB n 3):=by rw[aaJ];simp[inR,leB,eqB];omega
theorem RH {d:aw} (h1:d.aT.bj.length<=1048576) (h2:d.aT.aO.length<=1048576):m9 d=some (o7 d):=by
 simp only[m9,UA,gj,J8,TN h1 h2,aaE,o7,st23]
 cases yr d.cZ<;>cases inR d.aG 0 3<;>cases inR d.aE 0 5<;>try rfl
 cases inR d.ag 0 999999<;>cases inR d.aF 0 999999<;>cases inR d.aV 0 2147483646<;>try rfl
 cases eqB d.aG 2<;>cases eqB d.aG 3<;>cases mf d.aV<;>cases inR d.di 0 3<;>rfl
open Go.Proofs
attribute [local simp] bB aQ bk
theorem A2 {α:Type} {step:Int×Int->Option (cK (Int×Int) Int)} (xs:List α) (f:Int->α->Int) (hl:xs.length<=9223372036854775806)
 (hs:∀(k:Nat) (x:α) (a:Int),xs[k]?=some x->k<xs.length->step (a,(k:Int))=some (.next (f a x,((k+1:Nat):Int)))) (he:∀a,step (a,(xs.length:Int))=some (.done a)) (a0:Int):
 iter step FU (a0,0)=some (xs.foldl f a0):=by
 have:=fP (step:=step) xs (λk (v:Int)=>(v,(k:Int))) (λv x=>some (.next (f v x))) some hl
  (λk x s hx hk=>by rw[hs k x s hx hk];rfl) (λs=>by rw[he];rfl) a0
 refine Eq.trans (show iter step FU (a0,0)=_ from this) ?_
 clear this he hs
 induction xs generalizing a0 with
 |nil=>rfl
 |cons x xs ih=>rw[kN,aaX];exact ih (by simp at hl;omega) _
def Ef (xs:List an):Int:=xs.foldl (λa x=>WR (a+(x.a8.length:Int))) 0
theorem nb_i {xs:List an} (h:xs.length<=1048576):nL xs=some (Ef xs):=by
 unfold nL
 rw[A2 xs (λa x=>WR (a+(x.a8.length:Int))) oaa (λk x a hx hk=>by
  simp only[nM,dm hk,bk,hx,cp (show k<9223372036854775807 by omega),au]) (λa=>by simp[nM])]
 rfl
def KH (q:dh):Int:=bif kr q then WR (q.cB-q.d4) else 0
theorem WY (q:dh):jO q=some (KH q):=by simp only[jO,CO,aaE,KH];cases kr q<;>rfl
theorem rem_s (q:dh):mw q=some (KH q):=by simp only[mw,VY,aaE,KH];cases kr q<;>rfl
def yU (p:bz):Bool:=inR p.jf 1 1000&&(inR p.jc 1 4&&inR p.dQ 1 100000)
def pL (p:bz):Bool:=yU p&&fZ (λk x=>inR x 0 3&&lc id p.bv k x) p.bv
theorem Yr {p:bz} (h:ez p):iI p=some (pL p):=by
 have hl:=h.1
 have hL:iter (gJ p) FU 0=bif fZ (λ_ x=>inR x 0 3) p.bv then some (asc p.bv) else some false:=by
  refine jW p.bv (λ_ x=>inR x 0 3) _ oaa (λk x hx hk=>?_) (by simp[gJ,NZ hl])
  simp only[gJ,dm hk,bk,hx,cp (show k<9223372036854775807 by omega),gj,au]
  cases inR x 0 3<;>rfl
 simp only[iI,gj,aaE,hL,pL,yU,<-Jg,asc]
 cases inR p.jf 1 1000<;>cases inR p.jc 1 4<;>cases inR p.dQ 1 100000<;>cases fZ (λ_ x=>inR x 0 3) p.bv<;>rfl
theorem Ys {p:bz} (h:ez p):iP p=some (pL p):=by
 have hl:=h.1
 have hL:iter (gM p) FU 0=bif fZ (λk x=>inR x 0 3&&lc id p.bv k x) p.bv then some (yU p) else some false:=by
  refine jW p.bv _ _ oaa (λk x hx hk=>?_) ?_
  .simp only[gM,dm hk,bk,hx,cp (show k<9223372036854775807 by omega),wO,au]
   cases k with
   |zero=>
    simp only[lc,show ltB 0 ((0:Nat):Int)=false from by simp[ltB]]
    cases inR x 0 3<;>rfl
   |succ k=>
    obtain⟨y,hy,hi⟩:=zT hk oaa oaa
    simp only[aaV] at hy
    simp only[lc,hy,hi,hx,bk,show ltB 0 ((k+1:Nat):Int)=true from by simp[ltB],aaE,id]
    cases inR x 0 3<;>cases leB x y<;>rfl
  simp only[gM,bB,wO,yU,au]
  cases inR p.jf 1 1000<;>cases inR p.jc 1 4<;>rfl
 simp only[iP,hL,pL]
 cases yU p<;>cases fZ (λk x=>inR x 0 3&&lc id p.bv k x) p.bv<;>rfl
def unB (w:bh) (k:Nat) (x:an):Bool:=eqB x.cQ (WR (WR (w.bb-(w.aD.length:Int))+(k:Int)))&&HJ x.a8.length
def o8 (w:bh):Bool:=inR w.bb 1 100000&&(leB (w.aD.length:Int) 8&&(leB 1 (WR (w.bb-(w.aD.length:Int)))&&fZ (unB w) w.aD))
theorem KW {w:bh} (h:kf w):kO w=some (o8 w):=by
 have hl:=h.1
 have hL:iter (ky w) FU 0=bif fZ (unB w) w.aD then some true else some false:=by
  refine jW w.aD (unB w) _ oaa (λk x hx hk=>?_) (by simp[ky])
  simp only[ky,dm hk,bk,hx,cp (show k<9223372036854775807 by omega),unB,HJ,au]
  cases eqB x.cQ (WR (WR (w.bb-(w.aD.length:Int))+(k:Int)))<;>cases ltB 60 (x.a8.length:Int)<;>rfl
 simp only[kO,gj,aaE,hL,o8,vL]
 cases inR w.bb 1 100000<;>cases leB (w.aD.length:Int) 8<;>cases leB 1 (WR (w.bb-(w.aD.length:Int)))<;>cases fZ (unB w) w.aD<;>rfl
def KT (a b:List Int):Bool:=strB (xM a) (xM b)
theorem WL (a b:List Int):sx a b=some (KT a b):=rfl
def K4 (s:ae) (x:an):Bool:=match s.ax[(x.cQ-1).toNat]? with
 |some y=>KT x.a8 y.a8
 |none=>false
def CU (s:ae):Bool:=leB (s.ax.length:Int) 24&&(CA s.ax&&(o8 s.aq&&leB s.aq.bb (WR ((s.ax.length:Int)+1))))
def BS (s:ae):Bool:=leB (Ef s.aq.aD) (KH s.bC)
def J9 (s:ae):Bool:=(!eqB s.aG 1||mf s.aV)&&(!ltB 0 s.bi||mf s.aO.eR)
def og (s:ae):Bool:=uC s.be&&(pL s.gT&&(n9 s.eo&&(o8 s.aq&&(kr s.bC&&(inR s.aG 0 1&&(J9 s&&(inR s.bi 0 999999&&(inR s.ag 0 999999&&(inR s.aF 0 999999&&(inR s.aV 0 2147483646&&
 (inR s.aE 0 5&&(inR s.c9 0 5&&(inR s.cR 0 3&&(leB (s.ax.length:Int) 24&&(CA s.ax&&(leB s.aq.bb (WR ((s.ax.length:Int)+1))&&(s.aq.aD.all (K4 s)&&BS s)))))))))))))))))
theorem un_ix {s:ae} (hs:CU s=true) {k:Nat} {x:an} (hx:s.aq.aD[k]?=some x):∃y,ix s.ax (WR (x.cQ-1))=some y/\s.ax[(x.cQ-1).toNat]?=some y:=by
 simp only[CU,o8,v0,eb,bu] at hs
 obtain⟨h1,h2,⟨⟨h3,h3'⟩,h4,h5,h6⟩,h7⟩:=hs
 have hk:=(YP.1 hx).1
 have h8:=h6 k x hx
 simp only[unB,v0] at h8
 have h4':(s.aq.aD.length:Int)<=8:=by simpa [leB] using h4
 have h1':(s.ax.length:Int)<=24:=by simpa [leB] using h1
 rw[bP oaa] at h5
 rw[bP oaa] at h7
 have h9:=h8.1
 rw[bP (n:=s.aq.bb-_) oaa,bP oaa] at h9
 have h9':x.cQ=s.aq.bb-s.aq.aD.length+k:=by simpa [eqB] using h9
 have h5':1<=s.aq.bb-(s.aq.aD.length:Int):=by simpa [leB] using h5
 have h7':s.aq.bb<=(s.ax.length:Int)+1:=by simpa [leB] using h7
 have hlt:(x.cQ-1).toNat<s.ax.length:=by omega
 refine⟨s.ax[(x.cQ-1).toNat],?_,YO hlt⟩
 have hm:x.cQ-1=(((x.cQ-1).toNat:Nat):Int):=by omega
 rw[bP oaa]
 generalize (x.cQ-1).toNat=m at hm hlt ⊢
 rw[hm,bk,YO hlt]
theorem Yy {s:ae} (h:eu s) (hs:CU s=true):iter (f8 s) FU 0=some (s.aq.aD.all (K4 s)&&BS s):=by
 have hl:=h.2.2.1
 have:=jW (L:=f8 s) s.aq.aD (λ_ x=>K4 s x) (some (BS s)) oaa (λk x hx hk=>by
  obtain⟨y,h1,h2⟩:=un_ix hs hx
  simp only[f8,dm hk,bk,hx,h1,WL,cp (show k<9223372036854775807 by omega),K4,h2,au]
  cases KT x.a8 y.a8<;>rfl) (by simp[f8,iJ,nb_i hl,WY,BS])
 rw[this,Jf]
 cases s.aq.aD.all (K4 s)<;>rfl
theorem st01 (n:Int):inR n 0 1=(eqB n 0||eqB n 1):=by rw[aaJ];simp[inR,leB,eqB];omega
theorem Bu {s:ae} (h:eu s):iC s=some (og s):=by
 have hz:=λhs=>Yy h hs
 simp only[iC,WX,Yr h.1,Tz,KW h.2.2,CO,J8,gj,WM h.2.1.1,aaE,og,J9,st01,vL 24,vL (WR ((s.ax.length:Int)+1))]
 simp only[CU] at hz
 revert hz
 generalize iter (f8 s) FU 0=z
 cases uC s.be
 .intro _;rfl
 cases pL s.gT
 .intro _;rfl
 cases n9 s.eo
 .intro _;rfl
 cases o8 s.aq
 .intro _;rfl
 cases kr s.bC
 .intro _;rfl
 cases eqB s.aG 0<;>cases eqB s.aG 1<;>try (intro _;rfl)
 all_goals
  cases mf s.aV<;>cases ltB 0 s.bi<;>cases mf s.aO.eR<;>try (intro _;rfl)
 all_goals
  cases inR s.bi 0 999999<;>cases inR s.ag 0 999999<;>cases inR s.aF 0 999999<;>cases inR s.aV 0 2147483646<;>try (intro _;rfl)
 all_goals
  cases inR s.aE 0 5<;>cases inR s.c9 0 5<;>cases inR s.cR 0 3<;>try (intro _;rfl)
 all_goals
  cases leB (s.ax.length:Int) 24<;>cases CA s.ax<;>cases leB s.aq.bb (WR ((s.ax.length:Int)+1))<;>intro hz<;>first|rfl|exact hz rfl
open Go.Proofs
attribute [local simp] bB aQ bk
def Ut (a:av):Int:=a.ay.foldl (λs x=>WR (s+x.ei)) 0
theorem YC {a:av} (h:mE a):nH a=some (Ut a):=by
 have:=h.1
 unfold nH
 rw[A2 a.ay (λs x=>WR (s+x.ei)) oaa (λk x s hx hk=>by
  simp only[nJ,dm hk,bk,hx,cp (show k<9223372036854775807 by omega),au]) (λs=>by simp[nJ])]
 rfl
def KJ (a:av) (k:Nat) (x:aY):Bool:=!ltB x.aC 0&&(inR x.ei 1 100000&&lc aY.aC a.ay k x)
def Wq (a:av):Bool:=eqB (WR (WR (a.bK+a.dW)+Ut a)) a.iz
def lj (a:av):Bool:=inR a.iz 0 100000&&(inR a.bK 0 a.iz&&(inR a.dW 0 a.iz&&(leB (a.ay.length:Int) 8&&(fZ (KJ a) a.ay&&Wq a))))
theorem xj {a:av} (h:mE a):gO a=some (lj a):=by
 have hl:=h.1
 have hL:iter (jv a) FU 0=bif fZ (KJ a) a.ay then some (Wq a) else some false:=by
  refine jW a.ay (KJ a) _ oaa (λk x hx hk=>?_) (by simp[jv,YC h,Wq])
  simp only[jv,dm hk,bk,hx,cp (show k<9223372036854775807 by omega),gj,KJ,au]
  cases k with
  |zero=>
   simp only[lc,show ltB 0 ((0:Nat):Int)=false from by simp[ltB]]
   cases ltB x.aC 0<;>cases inR x.ei 1 100000<;>rfl
  |succ k=>
   obtain⟨y,hy,hi⟩:=zT hk oaa oaa
   simp only[aaV] at hy
   simp only[lc,hy,hi,show ltB 0 ((k+1:Nat):Int)=true from by simp[ltB],aaE]
   cases ltB x.aC 0<;>cases inR x.ei 1 100000<;>cases leB x.aC y.aC<;>rfl
 simp only[gO,gj,aaE,hL,lj,vL 8]
 cases inR a.iz 0 100000<;>cases inR a.bK 0 a.iz<;>cases inR a.dW 0 a.iz<;>cases leB (a.ay.length:Int) 8<;>cases fZ (KJ a) a.ay<;>rfl
def kq (a:av) (i:Int):Int:=match a.ay.find? (λx=>eqB x.aC i) with
 |some x=>x.ei
 |none=>0
theorem Vq {α:Type} (p:α->Bool) (xs:List α):(ou p 0 xs= -1/\xs.find? p=none)\/∃x,ltB (ou p 0 xs) 0=false/\ix xs (ou p 0 xs)=some x/\xs.find? p=some x:=by
 rcases Ge p xs 0 with⟨h1,h2⟩|⟨j,h1,x,h2,h3,h4⟩
 .exact .inl ⟨h1,by rw[aba];intro x hx;simp[h2 x hx]⟩
 right
 have h1':ou p 0 xs=(j:Int):=by simpa using h1
 refine⟨x,by rw[h1'];simp[ltB],by rw[h1',bk,h2],?_⟩
 have hj:=(YP.1 h2)
 rw[List.find?_eq_some_iff_getElem]
 have hjl:=hj.1
 refine⟨h3,j,hjl,hj.2,λi hi=>?_⟩
 have hil:i<xs.length:=Nat.lt_trans hi hjl
 have:xs[i]∈xs.take j:=List.mem_take_iff_getElem.2 ⟨i,by omega,rfl⟩
 simp[h4 _ this]
theorem KM {a:av} (h:mE a) (i:Int):nD a i=some (kq a i):=by
 have:=h.1
 have hf:=A0 (L:=iK a i) a.ay (λx=>eqB x.aC i) oaa (λk x hx hk=>by
  simp only[iK,dm hk,bk,hx,cp (show k<9223372036854775807 by omega),au]
  cases eqB x.aC i<;>rfl) (by simp[iK,dn])
 unfold nD fO kq
 rw[hf]
 rcases Vq (λx:aY=>eqB x.aC i) a.ay with⟨e1,e2⟩|⟨x,e1,e2,e3⟩
 .rw[e1,e2];simp[ltB]
 simp only[e1,e2,e3,au]
def y6 (a:av) (q:dh):Bool:=lj a&&(kr q&&eqB (kq a q.aC) q.cB)
theorem H4 {a:av} (h:mE a) (q:dh):fE a q=some (y6 a q):=by
 simp only[fE,xj h,CO,KM h,aaE,y6];cases lj a<;>cases kr q<;>rfl
theorem my {α ρ:Type} {L:Int->Option (cK Int ρ)} (xs:List α) (p:Nat->α->Bool) (f:ρ) (c:Option ρ) (hl:xs.length<=9223372036854775806)
 (hs:∀(k:Nat) (x:α),xs[k]?=some x->k<xs.length->L (k:Int)=bif p k x then some (.next ((k+1:Nat):Int)) else some (.done f)) (he:L (xs.length:Int)=dn c):
 iter L FU 0=bif fZ p xs then c else some f:=by
 have:=fP (step:=L) xs.zipIdx (λk (_:Unit)=>(k:Int)) (λ_ y=>bif p y.2 y.1 then some (.next ()) else some (.done f)) (λ_=>c) (by simpa using hl)
  (λk y s hy hk=>by
   have hk':k<xs.length:=by simpa using hk
   have:y=(xs[k],k):=by rw[YO hk] at hy;simpa using hy.symm
   subst this
   rw[hs k xs[k] (YO hk') hk'];cases p k xs[k]<;>rfl) (λs=>by rw[aa9,he]) ()
 refine Eq.trans (show iter L FU 0=_ from this) ?_
 have key:∀ys:List (α×Nat),kN (λ(_:Unit) y=>bif p y.2 y.1 then some (.next ()) else some (cK.done f)) (λ_=>c) ys ()=bif ys.all (λy=>p y.2 y.1) then c else some f:=by
  intro ys
  induction ys with
  |nil=>rfl
  |cons x xs ih=>rw[kN];cases hp:p x.2 x.1<;>simp[hp,ih]
 exact key _
theorem Sn {l:List Int} (h:l.length<=1048576) (v:Int):Aq l v=some (l.any λx=>eqB x v):=
 Ji l (λx=>eqB x v) oaa (λk x hx hk=>by
  simp only[y3,dm hk,bk,hx,cp (show k<9223372036854775807 by omega),au]
  cases eqB x v<;>rfl) (by simp[y3,dn])
theorem RY (a b:Int):eqB a b=eqB b a:=by rw[aaJ];simp[eqB];exact eq_comm
theorem has_i {l:List Int} (h:l.length<=1048576) (v:Int):gm l v=some (l.any λx=>eqB x v):=by
 have hf:=A0 (L:=gp l v) l (λx=>eqB x v) oaa (λk x hx hk=>by
  simp only[gp,dm hk,bk,hx,cp (show k<9223372036854775807 by omega),RY v x,au]
  cases eqB x v<;>rfl) (by simp[gp,dn])
 unfold gm kn
 rw[hf]
 simp only[aaE]
 rw[D3 oaa]
def ew (m:aU) (i:Int):Bool:=inR i 0 ((m.aZ.length:Int)-1)
theorem uL {m:aU} (h:m.aZ.length<=1048576) (i:Int):jF m i=some (ew m i):=by
 simp only[jF,gj,Hi h,aaE,ew]
def zg (m:aU) (x:Int) (i:Nat):Bool:=match m.aZ[x.toNat]? with
 |some d=>d.b8.any λy=>eqB y (i:Int)
 |none=>false
def nbB (m:aU) (i:Nat) (ns:List Int) (k:Nat) (x:Int):Bool:=ew m x&&(!eqB x (i:Int)&&(lc id ns k x&&zg m x i))
def xg (m:aU) (i:Nat) (c:eY):Bool:=inR c.fJ 0 2&&fZ (nbB m i c.b8) c.b8
def oI (m:aU):Bool:=inR (m.aZ.length:Int) 1 6&&fZ (xg m) m.aZ
theorem CG {m:aU} {x:Int} (h:ew m x=true):∃d,d∈m.aZ/\ix m.aZ x=some d/\m.aZ[x.toNat]?=some d:=by
 simp only[ew,bu] at h
 have hlt:x.toNat<m.aZ.length:=by omega
 refine⟨m.aZ[x.toNat],aaS hlt,?_,YO hlt⟩
 have hm:x=(x.toNat:Int):=by omega
 generalize x.toNat=m at hm hlt ⊢
 rw[hm,bk,YO hlt]
theorem map_i {m:aU} (h:gR m):sD m=some (oI m):=by
 have hl:=h.1
 have h2:∀(i:Nat) (c:eY),c∈m.aZ->i<m.aZ.length->iter (nh m (i:Int) c) FU 0=bif fZ (λk x=>!eqB x (i:Int)&&(ew m x&&zg m x i)) c.b8 then some (.next ((i+1:Nat):Int)) else some (.done false):=by
  intro i c hc hi
  have hn:=(h.2 c hc).1
  refine my c.b8 (λk x=>!eqB x (i:Int)&&(ew m x&&zg m x i)) (cK.done false) _ oaa (λk x hx hk=>?_) (by simp[nh,cp (show i<9223372036854775807 by omega)])
  simp only[nh,dm hk,bk,hx,cp (show k<9223372036854775807 by omega),uL hl,ti,au]
  cases eqB x (i:Int) with
  |true=>rfl
  |false=>
   cases hcb:ew m x with
   |false=>rfl
   |true=>
    obtain⟨d,d1,d2,d3⟩:=CG hcb
    simp only[d2,has_i (h.2 d d1).1,zg,d3,au]
    cases(d.b8.any λy=>eqB y (i:Int))<;>rfl
 have hL:iter (nf m) FU 0=bif fZ (xg m) m.aZ then some true else some false:=by
  refine my m.aZ (xg m) false (some true) oaa (λk x hx hk=>?_) (by simp[nf])
  have hm:=YS hx
  simp only[nf,dm hk,bk,hx,gj,NZ (h.2 x hm).1,h2 k x hm hk,xg,au]
  have:fZ (nbB m k x.b8) x.b8=(asc x.b8&&fZ (λj y=>!eqB y (k:Int)&&(ew m y&&zg m y k)) x.b8):=by
   rw[asc,Jg]
   exact LE λj y _=>by simp only[nbB];ac_rfl
  rw[this]
  cases inR x.fJ 0 2<;>cases asc x.b8<;>cases fZ (λj y=>!eqB y (k:Int)&&(ew m y&&zg m y k)) x.b8<;>rfl
 simp only[sD,gj,aaE,hL,oI]
 cases inR (m.aZ.length:Int) 1 6<;>cases fZ (xg m) m.aZ<;>rfl
theorem map_s {m:aU} (h:gR m):sS m=some (oI m):=by
 have hl:=h.1
 have h2:∀(i:Nat) (c:eY),c∈m.aZ->i<m.aZ.length->iter (nV m (i:Int) c) FU 0=bif fZ (nbB m i c.b8) c.b8 then some (.next ((i+1:Nat):Int)) else some (.done false):=by
  intro i c hc hi
  have hn:=(h.2 c hc).1
  refine my c.b8 (nbB m i c.b8) (cK.done false) _ oaa (λk x hx hk=>?_) (by simp[nV,cp (show i<9223372036854775807 by omega)])
  simp only[nV,dm hk,bk,hx,cp (show k<9223372036854775807 by omega),wO,Hi hl,nbB,au]
  cases hcb:ew m x with
  |false=>rw[show inR x 0 ((m.aZ.length:Int)-1)=false from hcb];rfl
  |true=>
   rw[show inR x 0 ((m.aZ.length:Int)-1)=true from hcb]
   obtain⟨d,d1,d2,d3⟩:=CG hcb
   cases k with
   |zero=>
    simp only[lc,show ltB 0 ((0:Nat):Int)=false from by simp[ltB],d2,Sn (h.2 d d1).1,zg,d3,au]
    cases eqB x (i:Int)<;>cases(d.b8.any λy=>eqB y (i:Int))<;>rfl
   |succ k=>
    obtain⟨y,hy,hi⟩:=zT hk oaa oaa
    simp only[aaV] at hy
    simp only[lc,hy,hi,show ltB 0 ((k+1:Nat):Int)=true from by simp[ltB],d2,Sn (h.2 d d1).1,zg,d3,id,au]
    cases eqB x (i:Int)<;>cases leB x y<;>cases(d.b8.any λy=>eqB y (i:Int))<;>rfl
 have hL:iter (nU m) FU 0=bif fZ (xg m) m.aZ then some (inR (m.aZ.length:Int) 1 6) else some false:=by
  refine my m.aZ (xg m) false _ oaa (λk x hx hk=>?_) (by simp[nU,wO])
  have hm:=YS hx
  simp only[nU,dm hk,bk,hx,wO,h2 k x hm hk,xg,au]
  cases inR x.fJ 0 2<;>cases fZ (nbB m k x.b8) x.b8<;>rfl
 simp only[sS,hL,oI]
 cases inR (m.aZ.length:Int) 1 6<;>cases fZ (xg m) m.aZ<;>rfl
open Go.Proofs
attribute [local simp] bB aQ bk
def Fm (d:aw) (s:ae):Bool:=(eqB d.cZ.ID.d8 s.be.ID.d8&&(eqB d.cZ.ID.bI s.be.ID.bI&&true))&&eqB d.cZ.eR s.be.eR
def Cr (n:ab) (i:Nat) (d:aw):Bool:=match n.aj[i]?,n.aB[i]? with
 |some s,some a=>o7 d&&(og s&&(lj a&&(Fm d s&&(ew n.bX d.aE&&(ew n.bX s.aE&&(eqB s.bC.aC (i:Int)&&y6 a s.bC))))))
 |_,_=>false
def flB (n:ab) (f:a9):Bool:=inR f.aJ 0 ((n.ah.length:Int)-1)&&ew n.bX f.aE
def Fb (n:ab):Bool:=inR n.bp 0 (WR ((mW .i64 1 (n.bX.aZ.length:Int))-1))&&(inR n.gZ 0 100000&&leB 0 n.Lost)
def pJ (n:ab):Bool:=oI n.bX&&(oc n.eD&&(!eqB n.eD.f7 0&&(leB (n.ah.length:Int) 4&&(eqB (n.aj.length:Int) (n.ah.length:Int)&&(eqB (n.aB.length:Int) (n.ah.length:Int)&&
 (fZ (Cr n) n.ah&&(leB (n.aA.length:Int) 200&&(n.aA.all (flB n)&&Fb n))))))))
theorem flt_i {n:ab} (h:lb n):iter (il n) FU 0=some (n.aA.all (flB n)&&Fb n):=by
 have hl:=h.2.2.2.2.1
 have:=jW (L:=il n) n.aA (λ_ f=>flB n f) (some (Fb n)) oaa (λk x hx hk=>by
  simp only[il,dm hk,bk,hx,cp (show k<9223372036854775807 by omega),gj,Hi h.2.1.1,uL h.1.1,flB,au]
  cases inR x.aJ 0 ((n.ah.length:Int)-1)<;>cases ew n.bX x.aE<;>rfl) (by
  simp only[il,bB,gj,Fb,show leB 0 (n.bX.aZ.length:Int)=true from by simp[leB],au]
  cases inR n.bp 0 (WR ((mW .i64 1 (n.bX.aZ.length:Int))-1))<;>cases inR n.gZ 0 100000<;>rfl)
 rw[this,Jf]
 cases n.aA.all (flB n)<;>rfl
section
variable {n:ab} (h:lb n) (e1:n.aj.length=n.ah.length) (e2:n.aB.length=n.ah.length)
include h e1 e2
omit h in
theorem at_i {k:Nat} (hk:k<n.ah.length):∃s a,s∈n.aj/\a∈n.aB/\n.aj[k]?=some s/\n.aB[k]?=some a:=
 ⟨n.aj[k]'(by omega),n.aB[k]'(by omega),aaS _,aaS _,YO _,YO _⟩
theorem mem_i {k:Nat} {d:aw} (hd:n.ah[k]?=some d):jG n (k:Int)=some (Cr n k d):=by
 have hk:=(YP.1 hd).1
 obtain⟨s,a,s1,a1,s2,a2⟩:=at_i e1 e2 hk
 have od:=h.2.1.2 d (YS hd)
 have os:=h.2.2.1.2 s s1
 have oa:=h.2.2.2.1.2 a a1
 simp only[jG,bk,hd,s2,a2,RH od.2.1 od.1.1,Bu os,xj oa,uL h.1.1,H4 oa,aaE,Cr,Fm]
 cases o7 d<;>cases og s<;>cases lj a<;>try rfl
 cases(eqB d.cZ.ID.d8 s.be.ID.d8&&(eqB d.cZ.ID.bI s.be.ID.bI&&true))<;>cases eqB d.cZ.eR s.be.eR<;>try rfl
 cases ew n.bX d.aE<;>cases ew n.bX s.aE<;>cases eqB s.bC.aC (k:Int)<;>rfl
theorem XQ:iter (ik n) FU 0=some (fZ (Cr n) n.ah&&(leB (n.aA.length:Int) 200&&(n.aA.all (flB n)&&Fb n))):=by
 have hl:=h.2.1.1
 have:=jW (L:=ik n) n.ah (Cr n) (some (leB (n.aA.length:Int) 200&&(n.aA.all (flB n)&&Fb n))) oaa (λk x hx hk=>by
  simp only[ik,dm hk,mem_i h e1 e2 hx,cp (show k<9223372036854775807 by omega),au]
  cases Cr n k x<;>rfl) (by
  simp only[ik,bB,cond_false,flt_i h,vL 200]
  cases leB (n.aA.length:Int) 200<;>rfl)
 rw[this]
 cases fZ (Cr n) n.ah<;>rfl
end
theorem CJ {a b:Nat} (h:eqB (a:Int) (b:Int)=true):a=b:=by
 have:(a:Int)=b:=by simpa [eqB] using h
 omega
theorem Bi {n:ab} (h:lb n):fo n=some (pJ n):=by
 simp only[fo,map_i h.1,Ih,aaE,pJ,vL 4]
 cases oI n.bX<;>cases oc n.eD<;>cases eqB n.eD.f7 0<;>cases leB (n.ah.length:Int) 4<;>try rfl
 cases e1:eqB (n.aj.length:Int) (n.ah.length:Int)<;>cases e2:eqB (n.aB.length:Int) (n.ah.length:Int)<;>try rfl
 rw[XQ h (CJ e1) (CJ e2)];rfl
attribute [local simp] bB bk
theorem Gg {α:Type} {by_:Nat} {L:Int×List α->Option (cK (Int×List α) (List α))} (xs:List α) (hb:by_<=100000) (hl:xs.length<=1048576)
 (hs:∀(k:Nat) (x:α),xs[k]?=some x->k<xs.length->L ((k:Int),xs.take k)=bif em by_ (xs.take k++[x]).length then some (.next (((k+1:Nat):Int),xs.take k++[x])) else none)
 (he:L ((xs.length:Nat),xs)=some (.done xs)):iter L FU (0,[])=some xs:=by
 have:=fP (step:=L) xs (λk (_:Unit)=>((k:Int),xs.take k)) (λ_ _=>some (.next ())) (λ_=>some xs) oaa
  (λk x _ hx hk=>by
   rw[hs k x hx hk,ec hb (by simp;omega)]
   have e:xs.take (k+1)=xs.take k++[x]:=by rw[aa0,hx];rfl
   simp[e]) (λ_=>by rw[ZC,he];rfl) ()
 rw[DH xs (λ_ _=>rfl)] at this
 exact this
theorem zk {α:Type} (z:α) (xs:List α):cpL (YV ((xs.length:Int)).toNat z) xs=xs:=by simp[cpL]
theorem gQ {b n:Nat} (hb:b<=100000) (hn:n<=1048576):pD b (n:Int) (n:Int)=true:=by
 have h:b*n<=100000*1048576:=abf hb hn
 have h2:(b:Int)*(n:Int)<=104857600000:=by rw[<-Int.natCast_mul];omega
 simp only[pD,decide_eq_true_eq];omega
theorem ox {α:Type} {f:α->Option α} {L:Int×List α->Option (cK (Int×List α) (List α))} (z:α) (xs:List α) (hl:xs.length<=1048576) (hf:∀x∈xs,f x=some x)
 (hs:∀(k:Nat) (v:List α),L ((k:Int),v)=bif ltB (k:Int) (xs.length:Int) then(aaC (ix xs (k:Int)) λx=>aaC (f x) λr=>aaC (ix v (k:Int)) λ_=>some (.next (WR ((k:Int)+1),v.set ((k:Int)).toNat r))) else some (.done v)):
 iter L FU (0,YV ((xs.length:Int)).toNat z)=some xs:=by
 have:=PN (step:=L) id z xs oaa
  (λk x v hx hv=>by
   have hk:=(YP.1 hx).1
   rw[hs]
   simp[dm hk,hx,hf x (YS hx),cp (show k<9223372036854775807 by omega),YO (show k<v.length by omega)])
  (λv=>by rw[hs];simp)
 simpa using this
theorem FL {xs:List bm} (h:okL rI xs):rR xs=some xs:=by
 rw[rR,Gg (by_:=24) (L:=o6 xs) xs oaa h.1 (λk x hx hk=>by
  simp[o6,dm hk,hx,cp (show k<9223372036854775807 by have:=h.1;omega),ec (by_:=1) (n:=x.a8.length) oaa (by have:=(h.2 x (YS hx)).1;omega)]) (by simp[o6])]
 rfl
theorem KX {xs:List an} (h:okL fR xs):ux xs=some xs:=by
 rw[ux,Gg (by_:=32) (L:=qE xs) xs oaa h.1 (λk x hx hk=>by
  simp[qE,dm hk,hx,cp (show k<9223372036854775807 by have:=h.1;omega),ec (by_:=1) (n:=x.a8.length) oaa (by have:=(h.2 x (YS hx)).1;omega)]) (by simp[qE])]
 rfl
theorem T8 {w:bh} (h:kf w):vr w=some w:=by rw[vr,KX h];rfl
theorem Ye {r:aX} (h:fF r):Av r=some r:=by rw[Av,KX h.1,aaE,FL h.2];rfl
theorem Yb {p:bz} (h:ez p):uy p=some p:=by
 rw[uy,ZR,ec oaa (by have:=h.1;omega)];rfl
theorem Yo {s:ae} (h:eu s):Ay s=some s:=by rw[Ay,Yb h.1,aaE,FL h.2.1,aaE,T8 h.2.2];rfl
theorem WI {d:aw} (h:eO d):xf d=some d:=by rw[xf,Ye h];rfl
theorem V1 {x:aK} (h:nP x):Aw x=some x:=by
 rw[Aw,ZR,ec oaa (by have:=h.1;omega)];rfl
theorem R7 {f:a9} (h:mP f):vu f=some f:=by rw[vu,V1 h];rfl
theorem SA {xs:List Int} (h:xs.length<=1048576):qI xs=some xs:=by rw[qI,gQ oaa h,zk];rfl
theorem uJ {xs:List Int} (h:xs.length<=1048576):eK xs=some xs:=by rw[eK,gQ oaa h,zk];rfl
theorem Vw {xs:List aY} (h:xs.length<=1048576):fH xs=some xs:=by rw[fH,gQ oaa h,zk];rfl
theorem Uc {xs:List aR} (h:xs.length<=1048576):fN xs=some xs:=by rw[fN,gQ oaa h,zk];rfl
theorem El {xs:List bm} (h:okL rI xs):lX xs=some xs:=by
 rw[lX,gQ oaa h.1,ox (f:=λx=>aaC (eK x.a8) λr=>some (⟨r⟩:bm)) (L:=ot xs) (⟨[]⟩:bm) xs h.1 (λx hx=>by rw[uJ (h.2 x hx).1];rfl) (λk v=>by
  simp only[ot];cases ltB (k:Int) (xs.length:Int)<;>simp[abc])]
 rfl
theorem yS {xs:List an} (h:okL fR xs):jY xs=some xs:=by
 rw[jY,gQ oaa h.1,ox (f:=λx=>aaC (eK x.a8) λr=>some (⟨x.cQ,r⟩:an)) (L:=oo xs) bG xs h.1 (λx hx=>by rw[uJ (h.2 x hx).1];rfl) (λk v=>by
  simp only[oo];cases ltB (k:Int) (xs.length:Int)<;>simp[abc])]
 rfl
theorem OU {r:aX} (h:fF r):lY r=some r:=by rw[lY,yS h.1,aaE,El h.2];rfl
theorem LU {d:aw} (h:eO d):kT d=some d:=by rw[kT,OU h];rfl
theorem VX {p:bz} (h:ez p):kC p=some p:=by rw[kC,SA h.1];rfl
theorem Bt {w:bh} (h:kf w):kW w=some w:=by rw[kW,yS h];rfl
theorem vp {s:ae} (h:eu s):gr s=some s:=by rw[gr,VX h.1,aaE,El h.2.1,aaE,Bt h.2.2];rfl
theorem AH {a:av} (h:mE a):eN a=some a:=by rw[eN,Vw h.1];rfl
theorem MK {x:b5} (h:sO x):qx x=some x:=by rw[qx,uJ h.1];rfl
theorem TI {x:aK} (h:nP x):uX x=some x:=by rw[uX,MK h];rfl
theorem F7 {f:a9} (h:mP f):pu f=some f:=by rw[pu,TI h];rfl
theorem XM {m:aU} (h:gR m):zQ m=some m:=by
 rw[zQ,gQ oaa h.1,ox (f:=λx=>aaC (qI x.b8) λr=>some (⟨x.fJ,r⟩:eY)) (L:=wG m) Ng m.aZ h.1 (λx hx=>by rw[SA (h.2 x hx).1];rfl) (λk v=>by
  simp only[wG];cases ltB (k:Int) (m.aZ.length:Int)<;>simp[abc])]
 rfl
theorem Tk {n:ab} (h:lb n):fr n=some n:=by
 obtain⟨h1,h2,h3,h4,h5⟩:=h
 rw[fr,XM h1,aaE,fy,gQ oaa h2.1,ox (L:=gK n.ah) _ _ h2.1 (λx hx=>LU (h2.2 x hx)) (λk v=>rfl),cond_true,aaE,aaE,
  eT,gQ oaa h3.1,ox (L:=gh n.aj) _ _ h3.1 (λx hx=>vp (h3.2 x hx)) (λk v=>rfl),cond_true,aaE,aaE,
  eS,gQ oaa h4.1,ox (L:=ge n.aB) _ _ h4.1 (λx hx=>AH (h4.2 x hx)) (λk v=>rfl),cond_true,aaE,aaE,
  fA,gQ oaa h5.1,ox (L:=gL n.aA) _ _ h5.1 (λx hx=>F7 (h5.2 x hx)) (λk v=>rfl),cond_true,aaE,aaE]
open Go.Proofs
attribute [local simp] bB aQ bk
theorem BI (n a b:Int):bE n a b=some (inR n a b):=by unfold bE inR;cases leB a n<;>rfl
theorem QI (x m:Int):(aaG x m)%m=x%m:=by
 have h:=Int.mul_tdiv_add_tmod x m
 have h2:x%m=(m*x.tdiv m+x.tmod m)%m:=by rw[h]
 rw[h2,Int.mul_add_emod_self_left]
theorem Ur {m:Int} (x:Int) (hm:0<m): -m<aaG x m/\aaG x m<m:=⟨Int.lt_tmod_of_pos x hm,Int.tmod_lt_of_pos x hm⟩
theorem VC {r m:Int} (h1: -m<r) (h2:r<0):r%m=r+m:=by
 rw[<-Int.add_emod_right r m,abl oaa oaa]
theorem NY (x:Int) {m:Int} (h1:1<=m) (h2:m<=1000000000000):PG x m=some (x%m):=by
 obtain⟨a,b⟩:=Ur x (show 0<m by omega)
 have hr:inR m 1 1000000000000=true:=bu.2 ⟨h1,h2⟩
 have hz:(!eqB m 0)=true:=by simp[eqB];omega
 simp only[PG,BI,hr,hz,au]
 rw[<-QI x m]
 by_cases h:aaG x m<0
 .rw[show ltB (aaG x m) 0=true from lt0_t h,VC a h]
  simp only[au]
  rw[bP oaa]
 rw[show ltB (aaG x m) 0=false from lt0_f oaa,abl oaa b]
 simp only[au]
abbrev hM:Int:=2147483647
def qh (v x:Int):Int:=(v*1000003+x%hM+13)%hM
theorem tY (v x:Int):0<=qh v x/\qh v x<hM:=⟨abe _ (by decide),abb _ (by decide)⟩
theorem Yd {v x:Int} (h0:0<=v) (h1:v<hM):aaG (WR (WR (WR (v*1000003)+x%hM)+13)) hM=qh v x:=by
 have a:=abe x (show hM≠0 by decide)
 have b:=abb x (show 0<hM by decide)
 unfold hM at*
 rw[bP (n:=v*1000003) oaa,bP (n:=v*1000003+x%2147483647) oaa,bP (n:=v*1000003+x%2147483647+13) oaa,aaR oaa]
 rfl
theorem u5 {v x:Int} (h0:0<=v) (h1:v<hM):lC v x=some (qh v x):=by
 rw[lC,NY x oaa oaa]
 simp only[aaE]
 rw[Yd h0 h1]
def NW (v:Int) (xs:List Int):Int:=xs.foldl qh v
theorem JU {v:Int} (h0:0<=v) (h1:v<hM):∀(xs:List Int),0<=NW v xs/\NW v xs<hM
 |[]=>⟨h0,h1⟩
 |x::xs=>JU (tY v x).1 (tY v x).2 xs
theorem Gf:∀(xs:List Int) (v:Int),0<=v->v<hM->kN (λ(s x:Int)=>aaC (lC s x) λr=>some (cK.next (ρ:=Int) r)) some xs v=some (NW v xs)
 |[],v,_,_=>rfl
 |x::xs,v,h0,h1=>by
  rw[kN,u5 h0 h1]
  exact Gf xs _ (tY v x).1 (tY v x).2
def eQ (k:Int) (xs:List Int):Int:=qh (NW (qh 11 k) xs) k
theorem rD (k:Int) (xs:List Int):0<=eQ k xs/\eQ k xs<hM:=tY _ _
theorem d6 {xs:List Int} (hl:xs.length<=1048576) (k:Int):eJ k xs=some (eQ k xs):=by
 have:=fP (step:=lT xs) xs (λk (s:Int)=>(s,(k:Int))) (λs x=>aaC (lC s x) λr=>some (cK.next r)) some oaa
  (λk x s hx hk=>by
   simp only[lT,dm hk,bk,hx,cp (show k<9223372036854775807 by omega),au]
   cases lC s x<;>rfl) (λs=>by simp[lT]) (qh 11 k)
 rw[eJ,u5 (by decide) (by decide)]
 simp only[aaE]
 have h2:=tY 11 k
 rw[show iter (lT xs) FU (qh 11 k,0)=_ from this,Gf xs _ h2.1 h2.2]
 have h3:=JU h2.1 h2.2 xs
 simp only[aaE]
 rw[u5 h3.1 h3.2]
 rfl
open Go.Proofs
attribute [local simp] bB aQ bk
def dk (k x:Int):Int:=if eQ k [9,x]=0 then 1 else eQ k [9,x]
theorem tj (k x:Int):oi k x=some (dk k x):=by
 rw[oi,d6 (by simp)]
 simp only[aaE,dk]
 by_cases h:eQ k [9,x]=0
 .rw[h];simp
 rw[show eqB (eQ k [9,x]) 0=false from eqB_f.2 h];simp[h]
def N9 (k:Int) (xs:List Int):Int:=xs.foldl dk k
theorem Gj:∀(xs:List Int) (v:Int),kN (λ(s x:Int)=>some (cK.next (ρ:=Int) (dk s x))) some xs v=some (N9 v xs)
 |[],v=>rfl
 |x::xs,v=>by rw[kN];exact Gj xs _
theorem wx {p:kJ} (hl:p.Steps.length<=1048576) (k:Int):pj k p=some (N9 k p.Steps):=by
 have:=fP (step:=jQ p.Steps) p.Steps (λj (s:Int)=>(s,(j:Int))) (λs x=>some (cK.next (dk s x))) some oaa
  (λj x s hx hj=>by simp[jQ,dm hj,hx,cp (show j<9223372036854775807 by omega),tj]) (λs=>by simp[jQ]) k
 rw[pj,uY,show iter (jQ p.Steps) FU (k,0)=_ from this,Gj]
 rfl
def TT (k e:Int):Int:=N9 k [1,3,e]
theorem uT (k e:Int):qH k e=some (TT k e):=by
 rw[qH,tl]
 simp only[aaE]
 rw[wx (by simp)];rfl
def okB (xs:List Int):Prop:=∀x∈xs,yT x
theorem WR_u8 {x:Int} (h:yT x):WR x=x:=bP (by simp only[yT] at h;omega)
theorem FN:∀(xs acc:List Int),okB xs->acc.length+xs.length<=100000->kN (λ(s:List Int) (x:Int)=>bif em 8 (s++[WR x]).length then some (cK.next (ρ:=List Int) (s++[WR x])) else none) some xs acc=some (acc++xs)
 |[],acc,_,_=>by simp[kN]
 |x::xs,acc,h,hl=>by
  simp only[YY] at hl
  rw[kN,show em 8 (acc++[WR x]).length=true from iD (by simp;omega) (by simp;omega),WR_u8 (h x (.head _))]
  simp only[cond_true]
  rw[FN xs (acc++[x]) (λy hy=>h y (.tail _ hy)) (by simp;omega)]
  simp
theorem Gc {xs:List Int} (hb:okB xs) (hl:xs.length<=50000):qp xs=some ((xs.length:Int)::xs):=by
 have:=fP (step:=jN xs) xs (λj (s:List Int)=>((j:Int),s)) (λ(s:List Int) (x:Int)=>bif em 8 (s++[WR x]).length then some (cK.next (ρ:=List Int) (s++[WR x])) else none) some oaa
  (λj x s hx hj=>by
   simp only[jN,dm hj,bk,hx,cp (show j<9223372036854775807 by omega),au]
   cases em 8 (s++[WR x]).length<;>rfl) (λs=>by simp[jN]) [(xs.length:Int)]
 have hm:pD 8 0 (WR ((xs.length:Int)+1))=true:=by
  rw[bP oaa];simp only[pD,decide_eq_true_eq];omega
 rw[qp,hm]
 simp only[cond_true]
 rw[show((YV ((0:Int)).toNat 0)++[(xs.length:Int)])=[(xs.length:Int)] from rfl,show em 8 [(xs.length:Int)].length=true from iD (by simp) (by simp)]
 simp only[cond_true]
 rw[show iter (jN xs) FU (0,[(xs.length:Int)])=_ from this,FN xs _ hb (by simp;omega)]
 rfl
def IO (m:b5):Bool:=inR m.ea 0 1&&(inR m.ks 1 100000&&(leB (m.a8.length:Int) 60&&inR m.tL 0 2147483646))
theorem yH (m:b5):mq m=some (IO m):=by
 simp only[mq,BI,aaE,IO]
 by_cases h0:m.ea=0
 .rw[h0,show inR 0 0 1=true from bu.2 oaa]
  simp only[aQ,cond_true]
  cases inR m.ks 1 100000<;>cases leB (m.a8.length:Int) 60<;>rfl
 by_cases h1:m.ea=1
 .rw[h1,show inR 1 0 1=true from bu.2 oaa,show eqB 1 0=false from eqB_f.2 oaa]
  simp only[aQ,au]
  cases inR m.ks 1 100000<;>cases leB (m.a8.length:Int) 60<;>rfl
 rw[show eqB m.ea 0=false from eqB_f.2 h0,show eqB m.ea 1=false from eqB_f.2 h1,show inR m.ea 0 1=false from by
  cases h:inR m.ea 0 1 with
  |false=>rfl
  |true=>have:=bu.1 h;omega]
 rfl
def mac (k:Int) (m:b5):Int:=eQ k ([m.ea,m.ks]++((m.a8.length:Int)::m.a8))
theorem Fl {m:b5} (hb:okB m.a8) (hl:m.a8.length<=50000) (k:Int):uV k m=some (eqB m.tL (mac k m)):=by
 rw[uV,mL,Gc hb hl]
 simp only[aaE]
 rw[show em 8 ([m.ea,m.ks]++((m.a8.length:Int)::m.a8)).length=true from iD (by simp;omega) (by simp;omega),d6 (by simp;omega)]
 rfl
theorem Lp {m:b5} (h:IO m=true):m.a8.length<=60:=by
 simp only[IO,v0] at h
 have:=sb h.2.2.1
 omega
def EX (k:Int) (p:aK):Bool:=IO p.cj&&(eqB p.cj.ea 1&&eqB p.cj.tL (mac (TT k p.aF) p.cj))
theorem Cm {p:aK} (hb:okB p.cj.a8) (k:Int):qw k p=some (EX k p):=by
 rw[qw,yH]
 simp only[aaE,EX,uT]
 cases hv:IO p.cj
 .rfl
 rw[Fl hb (ZY (Lp hv) oaa)]
 cases eqB p.cj.ea 1<;>rfl
def d1 (k:Int) (i:Nat) (x:Int):Int:=(x-eQ k [(i:Int)]%256)%256
def Dx (k:Int) (xs:List Int):List Int:=xs.mapIdx (λi x=>d1 k i x)
theorem RE (k:Int) (xs:List Int):(Dx k xs).length=xs.length:=by simp[Dx]
theorem Vd (k:Int) (xs:List Int):okB (Dx k xs):=by
 intro x hx
 obtain⟨i,hi⟩:=Y4 hx
 simp only[Dx,aaU] at hi
 cases h:xs[i]? with
 |none=>rw[h] at hi;cases hi
 |some y=>
  rw[h] at hi;simp at hi;subst hi
  simp only[yT,d1]
  omega
theorem Ly (n:Int):IntKind.u8.wrap n=n%256:=by rw[IntKind.wrap_u8]
theorem JV {xs:List Int} (hb:okB xs) (hl:xs.length<=50000) (k:Int):zC k xs=some (Dx k xs):=by
 have hc:eK xs=some xs:=by
  have hm:pD 1 (xs.length:Int) (xs.length:Int)=true:=by simp only[pD,decide_eq_true_eq];omega
  rw[eK,hm]
  simp[cpL]
 have goal:Wp (iter (wr k xs) FU (0,xs)) (λr=>r=Dx k xs):=by
  refine Wp.iterF (λs=>∃i:Nat,i<=xs.length/\s.1=(i:Int)/\s.2.length=xs.length/\(∀j,j<i->s.2[j]?=(Dx k xs)[j]?)/\(∀j,i<=j->s.2[j]?=xs[j]?)) (λs=>((xs.length:Int)-s.1).toNat) ⟨0,by omega,rfl,rfl,by omega,λ_ _=>rfl⟩ (by simp;omega) ?_
  rintro⟨v2,v3⟩ ⟨i,hi,rfl,h3,h4,h5⟩
  simp only at h3 h4 h5
  simp only[wr]
  refine Wp.cond (λhlt=>?_) (λhlt=>?_)
  .have hlt:=ko hlt
   have hil:i<xs.length:=by omega
   refine Wp.ix oaa oaa λx hx hxi=>?_
   refine Wp.eq (d6 (by simp) _) (Wp.ix oaa oaa λx' _ _=>Wp.some ?_)
   simp only[aaH] at hxi
   have hxi':xs[i]?=some x:=by rw[<-h5 i (YW _)];exact hxi
   have hr:=rD k [(i:Int)]
   have e1:aaG (eQ k [(i:Int)]) 256=eQ k [(i:Int)]%256:=aaR hr.1
   have e2:IntKind.u8.wrap (x-IntKind.u8.wrap (aaG (eQ k [(i:Int)]) 256))=d1 k i x:=by
    rw[Ly,Ly,e1,d1]
    omega
   have e3:WR ((i:Int)+1)=((i+1:Nat):Int):=by rw[bP oaa];rfl
   rw[e2,e3]
   refine⟨⟨i+1,by omega,rfl,by simpa using h3,λj hj=>?_,λj hj=>?_⟩,?_⟩
   .simp only[aaH]
    rw[aaq]
    by_cases hij:i=j
    .subst hij
     rw[if_pos rfl,if_pos oaa]
     simp only[Dx,aaU,hxi',aaY]
    rw[if_neg hij];exact h4 j oaa
   .simp only[aaH]
    rw[aaq,if_neg oaa]
    exact h5 j oaa
   simp only;omega
  have hlt:=nO hlt
  refine Wp.some (aaQ λj=>?_)
  by_cases hj:j<xs.length
  .exact h4 j oaa
  rw[aaN oaa,aaN (by rw[RE];omega)]
 obtain⟨r,h1,h2⟩:=goal.ex
 rw[zC,hc]
 simp only[aaE]
 rw[h1,h2];rfl
attribute [local simp] bB aQ bk
def e1 (k:Int) (i:Nat) (x:Int):Int:=(x+eQ k [(i:Int)]%256)%256
def AW (k:Int) (xs:List Int):List Int:=xs.mapIdx (λi x=>e1 k i x)
@[simp] theorem encL_len (k:Int) (xs:List Int):(AW k xs).length=xs.length:=by simp[AW]
theorem NJ (k:Int) (xs:List Int):okB (AW k xs):=by
 intro x hx
 obtain⟨i,hi⟩:=Y4 hx
 simp only[AW,aaU] at hi
 cases h:xs[i]? with
 |none=>rw[h] at hi;cases hi
 |some y=>rw[h] at hi;simp at hi;subst hi;simp only[yT,e1];omega
theorem Ve {xs:List Int} (h:okB xs) (k:Int):Dx k (AW k xs)=xs:=by
 apply aaQ
 intro i
 simp only[Dx,AW,aaU,Option.map_map]
 cases hx:xs[i]? with
 |none=>rfl
 |some x=>
  have:=h x (YS hx)
  simp only[yT] at this
  simp only[aaY,Function.comp,d1,e1,Option.some.injEq]
  omega
theorem JW {xs:List Int} (hb:okB xs) (hl:xs.length<=50000) (k:Int):zD k xs=some (AW k xs):=by
 have hc:eK xs=some xs:=uJ oaa
 have goal:Wp (iter (wu k xs) FU (0,xs)) (λr=>r=AW k xs):=by
  refine Wp.iterF (λs=>∃i:Nat,i<=xs.length/\s.1=(i:Int)/\s.2.length=xs.length/\(∀j,j<i->s.2[j]?=(AW k xs)[j]?)/\(∀j,i<=j->s.2[j]?=xs[j]?)) (λs=>((xs.length:Int)-s.1).toNat) ⟨0,by omega,rfl,rfl,by omega,λ_ _=>rfl⟩ (by simp;omega) ?_
  rintro⟨v2,v3⟩ ⟨i,hi,rfl,h3,h4,h5⟩
  simp only at h3 h4 h5
  simp only[wu]
  refine Wp.cond (λhlt=>?_) (λhlt=>?_)
  .have hlt:=ko hlt
   have hil:i<xs.length:=by omega
   refine Wp.ix oaa oaa λx hx hxi=>?_
   refine Wp.eq (d6 (by simp) _) (Wp.ix oaa oaa λx' _ _=>Wp.some ?_)
   simp only[aaH] at hxi
   have hxi':xs[i]?=some x:=by rw[<-h5 i (YW _)];exact hxi
   have hr:=rD k [(i:Int)]
   have t1:aaG (eQ k [(i:Int)]) 256=eQ k [(i:Int)]%256:=aaR hr.1
   have t2:IntKind.u8.wrap (x+IntKind.u8.wrap (aaG (eQ k [(i:Int)]) 256))=e1 k i x:=by
    rw[Ly,Ly,t1,e1]
    omega
   have t3:WR ((i:Int)+1)=((i+1:Nat):Int):=by rw[bP oaa];rfl
   rw[t2,t3]
   refine⟨⟨i+1,by omega,rfl,by simpa using h3,λj hj=>?_,λj hj=>?_⟩,?_⟩
   .simp only[aaH]
    rw[aaq]
    by_cases hij:i=j
    .subst hij
     rw[if_pos rfl,if_pos oaa]
     simp only[AW,aaU,hxi',aaY]
    rw[if_neg hij];exact h4 j oaa
   .simp only[aaH]
    rw[aaq,if_neg oaa]
    exact h5 j oaa
   simp only;omega
  have hlt:=nO hlt
  refine Wp.some (aaQ λj=>?_)
  by_cases hj:j<xs.length
  .exact h4 j oaa
  rw[aaN oaa,aaN (by rw[encL_len];omega)]
 obtain⟨r,h1,h2⟩:=goal.ex
 rw[zD,hc]
 simp only[aaE]
 rw[h1,h2];rfl
theorem SU {b:List Int} (hb:okB b) (hl:b.length<=50000) (k d c:Int):mL k d c b=some (eQ k ([d,c]++((b.length:Int)::b))):=by
 rw[mL,Gc hb hl]
 simp only[aaE]
 rw[show em 8 ([d,c]++((b.length:Int)::b)).length=true from iD (by simp;omega) (by simp;omega),d6 (by simp;omega)]
 rfl
def GN (k c:Int) (b:List Int):b5:=⟨1,c,AW (dk k (2*c+1)) b,mac k ⟨1,c,AW (dk k (2*c+1)) b,0⟩⟩
def iQ (root g e:Int) (x:an):aK:=⟨g,e,GN (TT root e) x.cQ x.a8⟩
theorem T6 {x:an} (h0:0<=x.cQ) (h1:x.cQ<=1000000) (hb:okB x.a8) (hl:x.a8.length<=50000) (root g e:Int):rv root g e x=some (iQ root g e x):=by
 simp only[rv,uT,DU,aaE,bP (n:=2*x.cQ) oaa,bP (n:=2*x.cQ+1) oaa,tj,JW hb hl,SU (NJ _ _) (show(AW _ x.a8).length<=50000 by simpa using hl)]
 rfl
theorem hM_le (k:Int) (xs:List Int):inR (eQ k xs) 0 2147483646=true:=by have:=rD k xs;rw[bu];unfold hM at this;omega
theorem Wb {c:Int} {b:List Int} (h0:1<=c) (h1:c<=100000) (hl:b.length<=60) (k:Int):IO (GN k c b)=true:=by
 simp only[IO,GN,encL_len,mac];rw[hM_le];simp[inR,leB];omega
theorem Yl {x:an} (h0:1<=x.cQ) (h1:x.cQ<=100000) (hl:x.a8.length<=60) (root g e:Int):EX root (iQ root g e x)=true:=by
 simp only[EX,iQ,Wb h0 h1 hl];simp[GN,mac,eqB]
def lE (root g e:Int) (x:aK):an×Bool:=
 if x.ag=g/\x.aF=e/\EX root x=true then(⟨x.cj.ks,Dx (dk (TT root e) (2*x.cj.ks+1)) x.cj.a8⟩,true) else(bG,false)
theorem Qg {p:aK} (hb:okB p.cj.a8) (k g e:Int):ro k g e p=some (lE k g e p)/\True:=by
 simp only[ro,Cm hb,uT,aaE,lE]
 cases hg:eqB p.ag g
 .rw[if_neg (λh=>Cd hg h.1)];exact⟨by first|rfl|trivial,by first|rfl|trivial⟩
 cases he:eqB p.aF e
 .rw[if_neg (λh=>Cd he h.2.1)];exact⟨by first|rfl|trivial,by first|rfl|trivial⟩
 cases hv:EX k p
 .rw[if_neg (λh=>by cases h.2.2)];exact⟨by first|rfl|trivial,by first|rfl|trivial⟩
 have he:=fx he
 rw[if_pos ⟨fx hg,he,rfl⟩]
 simp only[EX,v0] at hv
 obtain⟨h1,h2,h3⟩:=hv
 have hlen:=Lp h1
 have hd:=fx h2
 have hm:=fx h3
 have hcnt:1<=p.cj.ks/\p.cj.ks<=100000:=by
  simp only[IO,v0] at h1
  exact bu.1 h1.2.1
 rw[he] at hm
 have ek:eqB p.cj.tL (mac (TT k e) p.cj)=true:=by rw[hm];simp
 simp only[u6,tj,JV hb (show p.cj.a8.length<=50000 by omega),h1,h2,ek,show leB p.cj.ks 0=false from leB_f.2 oaa,hd,bP (n:=2*p.cj.ks) oaa,bP (n:=2*p.cj.ks+1) oaa,au]
 refine⟨?_,?_⟩<;>first|trivial|rfl|(rw[aQ];rfl)
theorem Bk {x:an} (h0:1<=x.cQ) (h1:x.cQ<=100000) (hb:okB x.a8) (hl:x.a8.length<=60) (root g e:Int):lE root g e (iQ root g e x)=(x,true):=by
 rw[lE,if_pos ⟨rfl,rfl,Yl h0 h1 hl _ _ _⟩]
 simp[iQ,GN,Ve hb]
def Ua (root:Int) (m:aR):Int:=eQ (N9 root [1,2]) [23,m.aS,m.aE,m.ag,m.aF,m.bI]
def kG (root:Int) (m:aR):aR:={m with tL:=Ua root m}
def lN (root:Int) (m:aR):Bool:=eqB m.tL (Ua root m)
theorem Ub (root:Int) (m:aR):rx root m=some (Ua root m):=by simp[rx,nE,wx,d6,Ua]
theorem Iy (root:Int) (m:aR):mJ root m=some (kG root m):=by simp[mJ,Ub,kG]
theorem M7 (root:Int) (m:aR):iW root m=some (lN root m):=by simp[iW,Ub,lN]
@[simp] theorem vSig_sign (root:Int) (m:aR):lN root (kG root m)=true:=by simp[lN,kG,Ua,eqB]
def ey (m:aR):Bool:=inR m.aS 1 8&&(inR m.aE 0 5&&(inR m.ag 0 999999&&(inR m.aF 0 999999&&inR m.bI 0 1000000000000)))
theorem OB (m:aR):kP m=some (ey m):=by
 simp only[kP,gj,aaE,ey]
 cases inR m.aS 1 8<;>cases inR m.aE 0 5<;>cases inR m.ag 0 999999<;>cases inR m.aF 0 999999<;>rfl
def msk (k r:Int):Int:=eQ k [1,r]%1000000
theorem Mp (k r:Int):0<=msk k r/\msk k r<1000000:=by unfold msk;omega
theorem WU (k r:Int):lU k r=some (msk k r):=by simp[lU,d6,msk,aaR (rD k [1,r]).1]
def unm (k r a:Int):Int:=(a%1000000-msk k r)%1000000
theorem Ux (k r a:Int):0<=unm k r a/\unm k r a<=999999:=by unfold unm;omega
theorem W3 (k r a:Int):jP k r a=some (unm k r a):=by
 have:=Mp k r
 simp only[jP,NY _ (show(1:Int)<=1000000 by omega) oaa,WU,aaE,unm];rw[bP oaa]
def Kk (x:Int):Int:=if x=0 then 1 else x
def vec (k r q:Int):dH:=bif inR q 0 999999 then⟨r,(q+msk k r)%1000000,eQ k [2,r,q],eQ k [3,r],Kk (eQ k [4,r,q])⟩ else c7
theorem Oj (k:Int) (xs:List Int):1<=Kk (eQ k xs)/\Kk (eQ k xs)<=2147483646:=by have:=rD k xs;unfold hM Kk at*;split<;>omega
theorem W4 (k r q:Int):kR k r q=some (vec k r q):=by
 simp only[kR,gj,aaE,vec]
 cases hq:inR q 0 999999
 .rfl
 rw[bu] at hq
 have h1:=Mp k r
 simp only[WU,d6 (show [2,r,q].length<=1048576 by simp),d6 (show [3,r].length<=1048576 by simp),d6 (show [4,r,q].length<=1048576 by simp),au]
 rw[bP oaa,aaR oaa]
 by_cases h:eQ k [4,r,q]=0
 .rw[h];simp[Kk]
 rw[show eqB (eQ k [4,r,q]) 0=false from eqB_f.2 h];simp[Kk,h]
theorem IN {k r q:Int} (h0:0<=q) (h1:q<=999999):unm k r ((q+msk k r)%1000000)=q:=by have:=Mp k r;unfold unm;omega
def jm (k last:Int) (v:dH):Int:=
 if v.tL≠eQ k [2,v.gN,unm k v.gN v.lp] then 1 else if unm k v.gN v.lp<=last then 2 else if last<unm k v.gN v.lp-1000 then 3 else 0
theorem Wt {last:Int} (hl: -9000000000000<=last/\last<=9000000000000) (k:Int) (v:dH):oT k last v=some (jm k last v):=by
 have hu:=Ux k v.gN v.lp
 simp only[oT,W3,d6 (show [2,v.gN,unm k v.gN v.lp].length<=1048576 by simp),aaE,jm]
 rw[bP oaa]
 by_cases h1:v.tL=eQ k [2,v.gN,unm k v.gN v.lp]
 .rw[show eqB v.tL (eQ k [2,v.gN,unm k v.gN v.lp])=true from eqB_t.2 h1]
  simp only[ne_eq,h1,not_true_eq_false,if_false,au]
  by_cases h2:unm k v.gN v.lp<=last
  .rw[show leB (unm k v.gN v.lp) last=true from leB_t.2 h2,if_pos h2];rfl
  rw[show leB (unm k v.gN v.lp) last=false from leB_f.2 oaa,if_neg h2]
  by_cases h3:last<unm k v.gN v.lp-1000
  .rw[show ltB (last+1000) (unm k v.gN v.lp)=true from ltB_t.2 oaa,if_pos h3];rfl
  rw[show ltB (last+1000) (unm k v.gN v.lp)=false from ltB_f.2 oaa,if_neg h3];rfl
 rw[show eqB v.tL (eQ k [2,v.gN,unm k v.gN v.lp])=false from eqB_f.2 h1]
 simp[h1]
theorem BA {k r q:Int} (h0:0<=q) (h1:q<=999999) (last:Int):jm k last (vec k r q)=if q<=last then 2 else if last<q-1000 then 3 else 0:=by
 have hq:inR q 0 999999=true:=bu.2 ⟨h0,h1⟩
 simp only[vec,hq,cond_true,jm,IN h0 h1,ne_eq,not_true_eq_false,if_false]
def vQ (id:du) (q:Int):Int:=eQ 29 [id.d8,id.bI,q]
theorem Xi (id:du) (q:Int):mY id q=some (vQ id q):=by simp[mY,d6,vQ]
attribute [local simp] bB aQ bk
theorem K8 {α:Type} (p:α->Bool):∀(xs:List α) (i:Nat),i<(xs.takeWhile p).length->∃x,xs[i]?=some x/\p x=true
 |[],i,h=>by simp at h
 |x::xs,i,h=>by
  rw[aa3] at h
  cases hp:p x<;>rw[hp] at h
  .simp at h
  cases i with
  |zero=>exact⟨x,rfl,hp⟩
  |succ i=>exact K8 p xs i (by simpa using h)
theorem K6 {α:Type} (p:α->Bool):∀(xs:List α) (x:α),xs[(xs.takeWhile p).length]?=some x->p x=false
 |[],x,h=>by simp at h
 |y::xs,x,h=>by
  rw[aa3] at h
  cases hp:p y<;>rw[hp] at h
  .simp at h;subst h;exact hp
  exact K6 p xs x (by simpa using h)
theorem K7 {α:Type} (p:α->Bool) (xs:List α):(xs.takeWhile p).length<=xs.length:=(List.takeWhile_prefix p).length_le
theorem E4 {α:Type} {L:Int->Option (cK Int Int)} (xs:List α) (p:α->Bool) (hl:xs.length<=1048576)
 (h1:∀(k:Nat) (x:α),xs[k]?=some x->L k=bif p x then some (.next (WR ((k:Int)+1))) else some (.done k)) (h0:L xs.length=some (.done xs.length)):iter L FU 0=some (((xs.takeWhile p).length:Nat):Int):=by
 have hle:=K7 p xs
 have:Wp (iter L FU 0) (λr=>r=(((xs.takeWhile p).length:Nat):Int)):=by
  refine Wp.iterF (λs=>∃i:Nat,s=(i:Int)/\i<=(xs.takeWhile p).length) (λs=>((xs.length:Int)-s).toNat) ⟨0,rfl,by omega⟩ oaa ?_
  rintro _ ⟨i,rfl,hi⟩
  by_cases e:i<(xs.takeWhile p).length
  .obtain⟨x,hx,hp⟩:=K8 p xs i e
   rw[h1 i x hx,hp]
   exact⟨⟨i+1,by rw[bP oaa];rfl,by omega⟩,by simp only[bP (show-9223372036854775808<=(i:Int)+1/\(i:Int)+1<=9223372036854775807 by omega)];omega⟩
  have e:i=(xs.takeWhile p).length:=by omega
  by_cases hn:i<xs.length
  .obtain⟨x,hx⟩:∃x,xs[i]?=some x:=⟨_,YO hn⟩
   rw[h1 i x hx,K6 p xs x (by rw[<-e];exact hx)]
   subst e;rfl
  have:i=xs.length:=by omega
  subst this
  rw[h0]
  show(xs.length:Int)=_
  omega
 obtain⟨r,hr,rfl⟩:=this.ex
 exact hr
def before (q:Int) (x:an):Bool:=ltB x.cQ q
def rC (x:an) (xs:List an):List an:=xs.takeWhile (before x.cQ)++[x]++xs.dropWhile (before x.cQ)
def tT:List an->Int->List bm->aX
 |[],n,dl=>⟨n,[],dl⟩
 |x::xs,n,dl=>if x.cQ=n/\dl.length<24 then tT xs (n+1) (dl++[⟨x.a8⟩]) else⟨n,x::xs,dl⟩
def yN (r:aX) (x:an):Bool:=!s8 r||(ltB 60 (x.a8.length:Int)||(!inR x.cQ r.bb (r.bb+7)||(r.aO.any (λy=>eqB y.cQ x.cQ)||leB 24 (r.bj.length:Int))))
def iu (r:aX) (x:an):aX:=
 bif yN r x then r else
  let o:=tT (rC x r.aO) r.bb r.bj
  bif leB 24 (o.bj.length:Int) then {o with aO:=[]} else o
theorem F1 {L:aX->Option (cK aX aX)}
 (hL:∀v:aX,v.aO.length<=1000->v.bj.length<=24->0<=v.bb->v.bb<=2000000->L v=match v.aO with
  |[]=>some (.done v)
  |x::xs=>if x.cQ=v.bb/\v.bj.length<24 then some (.next ⟨v.bb+1,xs,v.bj++[⟨x.a8⟩]⟩) else some (.done v)):
 ∀(xs:List an) (n:Int) (dl:List bm) (fu:Nat),xs.length<=1000->dl.length<=24->0<=n->n+xs.length<=2000000->xs.length<fu->iter L fu ⟨n,xs,dl⟩=some (tT xs n dl)
 |[],n,dl,fu,h1,h2,h3,h4,h5=>by
  cases fu with
  |zero=>omega
  |succ fu=>rw[iter,hL _ h1 h2 h3 (by simpa using h4)];rfl
 |x::xs,n,dl,fu,h1,h2,h3,h4,h5=>by
  simp only[YY] at h1 h4 h5
  cases fu with
  |zero=>omega
  |succ fu=>
   rw[iter,hL ⟨n,x::xs,dl⟩ (by simpa using h1) h2 h3 (by simp only;omega),tT]
   simp only
   by_cases e:x.cQ=n/\dl.length<24
   .rw[if_pos e,if_pos e]
    exact F1 hL xs (n+1) _ fu oaa (by simp;omega) oaa oaa oaa
   rw[if_neg e,if_neg e]
theorem TB {r:aX} (h:r.aO.length<=1048576) (q:Int):yM r q=some (r.aO.any (λy=>eqB y.cQ q)):=
 Ji (L:=oV r q) r.aO (λy=>eqB y.cQ q) oaa (λk x hx hk=>by
  simp[oV,dm hk,hx];cases eqB x.cQ q<;>simp[cp (show k<9223372036854775807 by omega)]) (by simp[oV])
theorem xH {r:aX} (h:s8 r=true):r.bb=(r.bj.length:Int)+1/\r.bj.length<=24/\r.aO.length<=8:=by
 simp only[s8,v0] at h
 obtain⟨h1,h2,h3,h4,h5⟩:=h
 have h2:=sb h2
 have h4:=sb h4
 have h1:=fx h1
 rw[bP oaa] at h1
 omega
theorem wP (x:an) (xs:List an):(rC x xs).length=xs.length+1:=by
 have:(xs.takeWhile (before x.cQ)).length+(xs.dropWhile (before x.cQ)).length=xs.length:=by rw[<-Y8,aa2]
 simp[rC];omega
theorem L2_i:∀v:aX,v.aO.length<=1000->v.bj.length<=24->0<=v.bb->v.bb<=2000000->kA v=match v.aO with
 |[]=>some (.done v)
 |x::xs=>if x.cQ=v.bb/\v.bj.length<24 then some (.next ⟨v.bb+1,xs,v.bj++[⟨x.a8⟩]⟩) else some (.done v):=by
 rintro⟨n,p,dl⟩ h1 h2 h3 h4
 cases p with
 |nil=>simp[kA]
 |cons x xs=>
  simp only[YY] at h1 h2
  have i0:ix (x::xs) 0=some x:=by simp[ix,leB]
  have hlt:ltB 0 (((x::xs).length:Nat):Int)=true:=ltB_t.2 (by simp only[YY];omega)
  simp only[kA,i0,hlt,au]
  by_cases e:x.cQ=n
  .by_cases e2:dl.length<24
   .rw[if_pos ⟨e,e2⟩,eqB_t.2 e,show ltB (dl.length:Int) 24=true from ltB_t.2 oaa]
    have a1:em 24 (dl++[(⟨x.a8⟩:bm)]).length=true:=ec oaa (by simp;omega)
    have a2:it (x::xs) 1 (((x::xs).length:Nat):Int)=true:=by simp[it];omega
    simp only[a1,a2,bP (n:=n+1) (by simp only at h3 h4;omega),au]
    rfl
   rw[if_neg (λh=>e2 h.2),eqB_t.2 e,show ltB (dl.length:Int) 24=false from ltB_f.2 oaa];rfl
  rw[if_neg (λh=>e h.1),eqB_f.2 e];rfl
theorem FQ {α:Type} (b:Bool) (x y:α):(bif b then some x else some y)=some (bif b then x else y):=by cases b<;>rfl
theorem Vy (a b c d e:Bool):(bif !a then some true else bif b then some true else bif !c then some true else bif d then some true else some e)=some (!a||(b||(!c||(d||e)))):=by cases a<;>cases b<;>cases c<;>cases d<;>rfl
theorem N6 {α:Type} (xs ys:List α) (z x:α):((cpD ((xs++ys)++[z]) (xs.length+1) (((xs++ys)++[z]).drop xs.length)).set xs.length x)=xs++[x]++ys:=by
 have e1:((xs++ys)++[z]).drop xs.length=ys++[z]:=by rw[Zr,abn]
 have e2:((xs++ys)++[z]).drop (xs.length+1)=(ys++[z]).drop 1:=by rw[<-ZX,e1]
 have e3:((xs++ys)++[z]).take (xs.length+1)=xs++(ys++[z]).take 1:=by rw[Zr,List.take_append,aar oaa];simp
 rw[cpD,e1,e2,e3,cpL]
 cases ys with
 |nil=>simp
 |cons y ys=>simp[List.set_append]
theorem Yz {r:aX} (h:fF r) {x:an}:nr r x=some (iu r x):=by
 have hw:s8 r=true->inR x.cQ r.bb (WR (WR (r.bb+8)-1))=inR x.cQ r.bb (r.bb+7):=λhv=>by
  have:=xH hv
  rw[bP (n:=r.bb+8) oaa,bP oaa,show r.bb+8-1=r.bb+7 by omega]
 have hl:(bif !s8 r then some true else(bif ltB 60 (x.a8.length:Int) then some true else(bif !(inR x.cQ r.bb (WR (WR (r.bb+8)-1))) then some true else(bif r.aO.any (λy=>eqB y.cQ x.cQ) then some true else some (leB 24 (r.bj.length:Int))))))=some (yN r x):=by
  rw[Vy]
  cases hv:s8 r
  .simp[yN,hv]
  rw[hw hv];simp[yN,hv]
 simp only[nr,OU h,TN h.2.1 h.1.1,gj,TB h.1.1,aaE,hl]
 rw[iu]
 cases hlt:yN r x
 .simp only[yN,Y2,aaM] at hlt
  obtain⟨l1,l2,l3,l4,l5⟩:=hlt
  have hv:=xH l1
  have l2:=nO l2
  have l5:=tD l5
  have hw2:=K7 (before x.cQ) r.aO
  have hrun:=E4 (L:=kz x r) r.aO (before x.cQ) oaa (λk y hy=>by
   have hk:=(YP.1 hy).1
   simp[kz,dm hk,hy,before]) (by simp[kz])
  generalize hm:(r.aO.takeWhile (before x.cQ)).length=m at*
  have hxs:(cpD (r.aO++[bG]) (m+1) ((r.aO++[bG]).drop m)).set m (⟨x.cQ,x.a8⟩:an)=rC x r.aO:=by
   have:=N6 (r.aO.takeWhile (before x.cQ)) (r.aO.dropWhile (before x.cQ)) bG x
   rw[aa2,hm] at this
   exact this
  have w1:WR ((m:Int)+1)=((m+1:Nat):Int):=cp oaa
  have a1:it (r.aO++[bG]) ((m+1:Nat):Int) (((r.aO++[bG]).length:Nat):Int)=true:=by simp[it];omega
  have a2:it (r.aO++[bG]) (m:Int) (((r.aO++[bG]).length:Nat):Int)=true:=by simp[it];omega
  have a3:em 32 (r.aO++[bG]).length=true:=ec oaa (by simp;omega)
  obtain⟨y,_,hy⟩:=SD (xs:=cpD (r.aO++[bG]) (m+1) ((r.aO++[bG]).drop m)) (i:=(m:Int)) oaa (by simp;omega)
  simp only[hrun,w1,aaH,a1,a2,a3,uJ (show x.a8.length<=1048576 by omega),hy,au]
  rw[hxs,F1 L2_i (rC x r.aO) r.bb r.bj FU (by rw[wP];omega) oaa oaa (by rw[wP];omega) (by have:=kj;rw[wP];omega)]
  simp only[aaE,FQ]
 rfl
attribute [local simp] bB aQ bk
def eC (d:aw):aR:=kG d.aV ⟨5,d.aE,d.ag,d.aF,0,c7,0⟩
def gV (d:aw):aR:={fG with aS:=1,aE:=d.aE}
def dR (d:aw):bg:=
 bif ltB 0 d.di then⟨{d with di:=d.di-1},[]⟩ else bif eqB d.aG 1 then⟨{d with di:=3},[gV d]⟩ else bif eqB d.aG 2&&!d.bM then⟨{d with di:=3},[eC d]⟩ else⟨d,[]⟩
def dOn (d:aw):bg:=bif eqB d.aG 0 then⟨{d with aG:=1,di:=3},[gV d]⟩ else⟨d,[]⟩
def km (d:aw):bg:=⟨{d with bM:=false,di:=3},[eC d]⟩
def qg (d:aw) (c:Int):bg:=
 bif eqB c d.aE||!inR c 0 5 then⟨d,[]⟩ else bif eqB d.aG 2&&ltB d.aF 999999 then km {d with aE:=c,aF:=d.aF+1} else⟨{d with aE:=c},[]⟩
def yA (d:aw) (m:aR):bg:=
 bif eqB (jm d.cZ.eR d.cZ.df m.cO) 0 then
  ⟨{d with cZ:={d.cZ with df:=unm d.cZ.eR m.cO.gN m.cO.lp},ag:=m.ag,aV:=(vec d.cZ.eR m.cO.gN (unm d.cZ.eR m.cO.gN m.cO.lp)).eR},
   [⟨3,d.aE,m.ag,0,eQ d.cZ.eR [3,m.cO.gN],c7,0⟩]⟩
 else⟨d,[]⟩
def ia (d:aw) (m:aR):bg:=
 bif !ey m||(!eqB m.aE d.aE||eqB d.aG 0) then⟨d,[]⟩ else
 bif eqB m.aS 2&&eqB d.aG 1 then yA d m else
 bif eqB m.aS 4&&(eqB d.aG 1&&(mf d.aV&&(eqB m.ag d.ag&&lN d.aV m))) then⟨{d with aG:=2,aF:=m.aF,bM:=true},[]⟩ else
 bif eqB m.aS 6&&(eqB d.aG 2&&(eqB m.ag d.ag&&(eqB m.aF d.aF&&lN d.aV m))) then⟨{d with bM:=true},[]⟩ else
 bif eqB m.aS 7&&(eqB d.aG 3&&ltB d.aF 999999) then km {d with aG:=2,aF:=d.aF+1} else
 bif eqB m.aS 7&&eqB d.aG 2 then km d else⟨d,[]⟩
def qW (d:aw) (r:aX):aR:=kG d.aV ⟨8,d.aE,d.ag,d.aF,r.bb,c7,0⟩
def js (d:aw) (x:aK):bg:=
 let o:=lE d.aV d.ag d.aF x
 bif eqB d.aG 2&&o.2 then⟨{d with aT:=iu d.aT o.1},[qW d (iu d.aT o.1)]⟩ else⟨d,[]⟩
def sh (d:aw):aw:=bif eqB d.aG 2 then {d with aG:=3} else d
theorem X3 {d:aw} (h:eO d):Ax d=some ⟨d,[]⟩:=by simp[Ax,WI h]
theorem TA (d:aw):py d=some (eC d):=by simp[py,Iy,eC]
theorem WZ {d:aw} (h:eO d) {l:List aR} (hl:l.length<=1048576):cm d l=some ⟨d,l⟩:=by simp[cm,LU h,Uc hl]
theorem pY {d:aw} (h:eO d):cm d []=some ⟨d,[]⟩:=WZ h (by simp)
theorem Et {d:aw} (h:eO d) (m:aR):cm d [m]=some ⟨d,[m]⟩:=WZ h (by simp)
theorem YB {d:aw} (h:eO d) (hw:d.di<=3):sJ d=some (dR d):=by
 have h2:∀w,eO {d with di:=w}:=λ_=>h
 simp only[sJ,pY h,pY (h2 _),Et (h2 _),lV,TA,aaE,dR]
 cases hb:ltB 0 d.di
 .cases eqB d.aG 1<;>cases eqB d.aG 2<;>cases hp:d.bM<;>rfl
 have:=ko hb
 rw[bP oaa];rfl
theorem on_s {d:aw} (h:eO d):Aj d=some (dOn d):=by
 simp only[Aj,X3 h,WI h,aaE,y4,EN,dOn]
 cases eqB d.aG 0<;>rfl
theorem on_i {d:aw} (h:eO d):wy d=some (dOn d):=by
 simp only[wy,pY h,Et (d:={d with aG:=1,di:=3}) h,aaE,lV,dOn]
 cases eqB d.aG 0<;>rfl
theorem Q9 {d:aw} (h:eO d):gY d=some (km d):=by
 simp only[gY,TA,aaE,Et (d:={d with bM:=false,di:=3}) h];rfl
theorem XR {d:aw} (h:eO d) (he:0<=d.aF/\d.aF<=999999) (c:Int):pk d c=some (qg d c):=by
 simp only[pk,pY h,pY (d:={d with aE:=c}) h,Q9 (d:={d with aE:=c,aF:=WR (d.aF+1)}) h,aaE,gj,qg,vL]
 rw[bP oaa]
 cases eqB c d.aE<;>cases inR c 0 5<;>cases eqB d.aG 2<;>cases leB 999999 d.aF<;>rfl
theorem tok_i (k r last:Int):∃t,qt k r last=some t:=by
 simp only[qt,gj,aaE,d6 (show [5,r,last].length<=1048576 by simp)]
 cases inR last 0 999999<;>exact⟨_,rfl⟩
theorem ask_i {d:aw} (h:eO d) (hc:yr d.cZ=true) (m:aR):lA d m=some (yA d m):=by
 obtain⟨t,ht⟩:=tok_i d.cZ.eR m.cO.gN d.cZ.df
 have hl: -9000000000000<=d.cZ.df/\d.cZ.df<=9000000000000:=by
  simp only[yr,v0,bu] at hc;omega
 simp only[lA,lG,UA,hc,Wt hl,W3,W4,d6 (show [3,m.cO.gN].length<=1048576 by simp),ht,yA,au]
 cases h0:eqB (jm d.cZ.eR d.cZ.df m.cO) 0
 .cases h2:eqB (jm d.cZ.eR d.cZ.df m.cO) 2<;>cases h3:eqB (jm d.cZ.eR d.cZ.df m.cO) 3<;>simp[h0,pY h]
 simp only[h0,au]
 rw[Et (d:={d with cZ:={d.cZ with df:=unm d.cZ.eR m.cO.gN m.cO.lp},ag:=m.ag,aV:=(vec d.cZ.eR m.cO.gN (unm d.cZ.eR m.cO.gN m.cO.lp)).eR}) h]
 rfl
theorem AY {a b c:Int} (h:eqB a b=true) (hn:b≠c):eqB a c=false:=by rw[eqB_t] at h;rw[eqB_f];omega
theorem sig_i {d:aw} (h:eO d) (hc:yr d.cZ=true) (he:0<=d.aF/\d.aF<=999999) (m:aR):ny d m=some (ia d m):=by
 have a1:gY d=some (km d):=Q9 h
 have a2:gY {d with aG:=2,aF:=WR (d.aF+1)}=some (km {d with aG:=2,aF:=d.aF+1}):=by rw[bP oaa];exact Q9 (d:={d with aG:=2,aF:=d.aF+1}) h
 have a3:cm {d with aG:=2,aF:=m.aF,bM:=true} []=some ⟨{d with aG:=2,aF:=m.aF,bM:=true},[]⟩:=pY (d:={d with aG:=2,aF:=m.aF,bM:=true}) h
 have a4:∀b,cm {d with bM:=b} []=some ⟨{d with bM:=b},[]⟩:=λb=>pY (d:={d with bM:=b}) h
 simp only[ny,OB,ask_i h hc,J8,M7,a1,a2,a4,pY h,aaE,ia]
 cases ey m<;>cases eqB m.aE d.aE<;>cases eqB d.aG 0<;>try rfl
 simp only[aaT,au]
 cases h2:eqB m.aS 2
 .cases h4:eqB m.aS 4
  .cases h6:eqB m.aS 6
   .cases h7:eqB m.aS 7
    .rfl
    cases eqB d.aG 3<;>cases ltB d.aF 999999<;>cases eqB d.aG 2<;>rfl
   rw[AY h6 (show(6:Int)≠7 by omega)]
   cases eqB d.aG 2<;>cases eqB m.ag d.ag<;>cases eqB m.aF d.aF<;>cases lN d.aV m<;>rfl
  rw[AY h4 (show(4:Int)≠6 by omega),AY h4 (show(4:Int)≠7 by omega)]
  cases eqB d.aG 1<;>cases mf d.aV<;>cases eqB m.ag d.ag<;>cases lN d.aV m<;>first|(simp only[a3,pY h,aaO,aaP,aa6,aa7,au];done)|(simp[a3,pY h];done)
 rw[AY h2 (show(2:Int)≠4 by omega),AY h2 (show(2:Int)≠6 by omega),AY h2 (show(2:Int)≠7 by omega)]
 cases eqB d.aG 1<;>rfl
def WW (x:aK):Prop:=okB x.cj.a8
theorem K5 {r:aX} (h:fF r) (x:an):fF (iu r x):=by
 rw[iu]
 cases hlt:yN r x
 .simp only[yN,Y2,aaM] at hlt
  obtain⟨l1,l2,l3,l4,l5⟩:=hlt
  have hv:=xH l1
  have l2:=nO l2
  have hi:okL fR (rC x r.aO):=by
   refine⟨by rw[wP];omega,λy hy=>?_⟩
   simp only[rC,YR,ZS] at hy
   rcases hy with(hy|hy)|hy
   .exact h.1.2 y (abk _ hy)
   .subst hy;exact⟨by omega,λ_ _=>trivial⟩
   exact h.1.2 y (aa8 _ hy)
  have hd:∀(xs:List an) (n:Int) (dl:List bm),okL fR xs->(∀p∈dl,rI p)->dl.length<=24->fF (tT xs n dl):=by
   intro xs
   induction xs with
   |nil=>exact λn dl h1 h2 h3=>⟨h1,by show dl.length<=1048576;omega,h2⟩
   |cons y ys ih=>
    intro n dl h1 h2 h3
    rw[tT];split
    .exact ih _ _ ⟨by have:=h1.1;simp at this;omega,λz hz=>h1.2 z (by simp[hz])⟩ (λp hp=>by
      rcases YR.1 hp with hp|hp
      .exact h2 p hp
      simp at hp;subst hp;exact h1.2 y (by simp)) (by simp;omega)
    exact⟨h1,by show dl.length<=1048576;omega,h2⟩
  have:=hd _ r.bb r.bj hi h.2.2 oaa
  simp only[cond_false]
  cases leB 24 (((tT (rC x r.aO) r.bb r.bj).bj.length:Nat):Int)
  .exact this
  exact⟨⟨by simp,by simp⟩,this.2⟩
 exact h
theorem rad_i {d:aw} (h:eO d) {x:aK} (hx:WW x):oQ d x=some (js d x):=by
 simp only[oQ,(Qg hx _ _ _).1,pY h,Yz h,Iy,aaE,js]
 cases eqB d.aG 2
 .rfl
 cases(lE d.aV d.ag d.aF x).2
 .rfl
 simp only[aaO,au]
 rw[Et (d:={d with aT:=iu d.aT (lE d.aV d.ag d.aF x).1}) (K5 h _)]
 rfl
theorem XA {d:aw} (h:eO d):rj d=some (sh d):=by
 have a:∀v,kT {d with aG:=v}=some {d with aG:=v}:=λv=>LU (d:={d with aG:=v}) h
 simp only[rj,a,aaE,sh];cases eqB d.aG 2<;>rfl
attribute [local simp] bB aQ bk
theorem N2 {α:Type} (p:α->Bool) (x:α) (d:List α) (hx:p x=true):∀(t:List α) (i:Nat),(∀y∈t,p y=false)->ou p (i:Int) (t++x::d)=((i+t.length:Nat):Int)
 |[],i,_=>by simp[ou,hx]
 |y::t,i,h=>by
  rw[Zm,ou,h y (by simp),cond_false]
  have:=N2 p x d hx t (i+1) (λz hz=>h z (by simp[hz]))
  rw[show((i+1:Nat):Int)=(i:Int)+1 by omega] at this
  rw[this];simp;omega
theorem N3 {α:Type} (p:α->Bool):∀(t:List α) (i:Int),(∀y∈t,p y=false)->ou p i t= -1
 |[],i,_=>rfl
 |y::t,i,h=>by rw[ou,h y (by simp),cond_false];exact N3 p t _ λz hz=>h z (by simp[hz])
def Da:List aY->Int->Int->List aY
 |[],i,n=>[⟨i,n⟩]
 |x::xs,i,n=>if x.aC<i then x::Da xs i n else if x.aC=i then⟨i,x.ei+n⟩::xs else⟨i,n⟩::x::xs
def Jw:List aY->Int->Int->List aY
 |[],i,n=>[]
 |x::xs,i,n=>if x.aC=i then(if n<x.ei then⟨i,x.ei-n⟩::xs else xs) else x::Jw xs i n
def vx (h:List aY):Int:=(h.map aY.ei).sum
structure vz (a:av):Prop where
 t:0<=a.iz/\a.iz<=100000
 v:0<=a.bK/\a.bK<=a.iz
 s:0<=a.dW/\a.dW<=a.iz
 l:a.ay.length<=8
 r:∀x∈a.ay,0<=x.aC/\1<=x.ei/\x.ei<=100000
 o:a.ay.Pairwise λx y=>x.aC<y.aC
 e:a.bK+a.dW+vx a.ay=a.iz
theorem Gv {α:Type} {key:α->Int}:∀{xs:List α},(∀(k:Nat) (x y:α),xs[k]?=some x->xs[k+1]?=some y->key x<key y)->xs.Pairwise λx y=>key x<key y
 |[],_=>.nil
 |[x],_=>by simp
 |x::y::xs,h=>by
  have ih:=Gv (xs:=y::xs) (key:=key) λk a b h1 h2=>h (k+1) a b (by simpa using h1) (by simpa using h2)
  have hxy:=h 0 x y rfl rfl
  refine List.Pairwise.cons (λz hz=>?_) ih
  rcases YU.1 hz with e|hz
  .subst e;exact hxy
  exact Int.lt_trans hxy (abj ih hz)
theorem FJ {α:Type} {key:α->Int} {xs:List α} (h:∀(k:Nat) (x:α),xs[k]?=some x->lc key xs k x=true):xs.Pairwise λx y=>key x<key y:=by
 refine Gv λk x y h1 h2=>?_
 have:=h (k+1) y h2
 simp only[lc,h1,Zf] at this
 exact leB_f.1 this
theorem CN {α:Type} {key:α->Int} {xs:List α} (h:xs.Pairwise λx y=>key x<key y) {k:Nat} {x:α} (hx:xs[k]?=some x):lc key xs k x=true:=by
 cases k with
 |zero=>rfl
 |succ k=>
  have hl:=(YP.1 hx).1
  simp only[lc,YO (show k<xs.length by omega),Zf]
  rw[leB_f]
  have:=List.pairwise_iff_getElem.1 h k (k+1) oaa hl oaa
  rwa [(YP.1 hx).2] at this
theorem WN:∀(h:List aY) (s:Int),(∀x∈h,0<=x.ei/\x.ei<=100000)->0<=s->s+100000*h.length<=9000000000000->h.foldl (λs x=>WR (s+x.ei)) s=s+vx h
 |[],s,_,_,_=>by simp[vx]
 |x::h,s,hx,h0,h1=>by
  have hh:=hx x (by simp)
  simp only[YY] at h1
  rw[aaX,bP oaa,WN h _ (λy hy=>hx y (by simp[hy])) oaa oaa]
  simp[vx];omega
theorem O7 {a:av} (l:a.ay.length<=8) (r:∀x∈a.ay,0<=x.aC/\1<=x.ei/\x.ei<=100000):Ut a=vx a.ay:=by
 rw[Ut,WN _ _ (λx hx=>by have:=r x hx;omega) oaa oaa];omega
theorem s6:∀{h:List aY},(∀x∈h,0<=x.aC/\1<=x.ei/\x.ei<=100000)->0<=vx h/\vx h<=100000*h.length/\∀x∈h,x.ei<=vx h
 |[],_=>by simp[vx]
 |x::h,r=>by
  have ih:=s6 (h:=h) λy hy=>r y (by simp[hy])
  have hx:=r x (by simp)
  have e:vx (x::h)=x.ei+vx h:=by simp[vx]
  rw[e]
  refine⟨by omega,by simp only[YY];omega,λy hy=>?_⟩
  rcases YU.1 hy with e|hy
  .subst e;omega
  have:=ih.2.2 y hy;omega
theorem CC {a:av}:lj a=true↔vz a:=by
 constructor
 .intro h
  simp only[lj,v0,bu,eb] at h
  obtain⟨h1,h2,h3,h4,h5,h6⟩:=h
  have h4:=sb h4
  have r:∀x∈a.ay,0<=x.aC/\1<=x.ei/\x.ei<=100000:=λx hx=>by
   obtain⟨k,hk⟩:=Y4 hx
   have:=h5 k x hk
   simp only[KJ,v0,Zf,bu] at this
   have h0:=nO this.1
   omega
  have hs:=s6 r
  refine⟨h1,h2,h3,by omega,r,FJ λk x hk=>?_,?_⟩
  .have:=h5 k x hk
   simp only[KJ,v0] at this
   exact this.2.2
  have h6:=fx h6
  rw[O7 oaa r,bP (n:=a.bK+a.dW) oaa,bP oaa] at h6
  exact h6
 rintro⟨h1,h2,h3,h4,r,h5,h6⟩
 have hs:=s6 r
 simp only[lj,v0,bu,eb]
 refine⟨h1,h2,h3,leB_t.2 oaa,λk x hk=>?_,eqB_t.2 ?_⟩
 .have hx:=r x (YS hk)
  simp only[KJ,v0,Zf,bu]
  exact⟨ltB_f.2 oaa,by omega,CN h5 hk⟩
 rw[O7 oaa r,bP (n:=a.bK+a.dW) oaa,bP oaa]
 exact h6
theorem vz.ok {a:av} (h:vz a):mE a:=⟨by have:=h.l;omega,λ_ _=>trivial⟩
theorem RG {h:List aY} (o:h.Pairwise λx y=>x.aC<y.aC) (i:Int):
 (∃t m d,h=t++⟨i,m⟩::d/\(∀x∈t,x.aC<i)/\∀x∈d,i<x.aC)\/(∃t d,h=t++d/\(∀x∈t,x.aC<i)/\∀x∈d,i<x.aC):=by
 induction h with
 |nil=>exact .inr ⟨[],[],rfl,by simp,by simp⟩
 |cons x h ih=>
  have hx:=λy hy=>abj o (a':=y) hy
  by_cases h1:x.aC<i
  .rcases ih (aaK.1 o).2 with⟨t,m,d,e,h2,h3⟩|⟨t,d,e,h2,h3⟩
   .exact .inl ⟨x::t,m,d,by rw[e];rfl,λy hy=>by rcases YU.1 hy with e|hy;(subst e;exact h1);exact h2 y hy,h3⟩
   exact .inr ⟨x::t,d,by rw[e];rfl,λy hy=>by rcases YU.1 hy with e|hy;(subst e;exact h1);exact h2 y hy,h3⟩
  by_cases h2:x.aC=i
  .exact .inl ⟨[],x.ei,h,by rw[<-h2];rfl,by simp,λy hy=>by have:=hx y hy;omega⟩
  refine .inr ⟨[],x::h,rfl,by simp,λy hy=>?_⟩
  rcases YU.1 hy with e|hy
  .subst e;omega
  have:=hx y hy;omega
theorem Nq {t d:List aY} {i m n:Int} (h:∀x∈t,x.aC<i):Da (t++⟨i,m⟩::d) i n=t++⟨i,m+n⟩::d:=by
 induction t with
 |nil=>simp[Da]
 |cons x t ih=>rw[Zm,Da,if_pos (h x (by simp)),ih λy hy=>h y (by simp[hy])];rfl
theorem Nr {t d:List aY} {i n:Int} (h:∀x∈t,x.aC<i) (h2:∀x∈d,i<x.aC):Da (t++d) i n=t++⟨i,n⟩::d:=by
 induction t with
 |nil=>cases d with
  |nil=>rfl
  |cons y d=>have:=h2 y (by simp);rw[ZR,Da,if_neg oaa,if_neg oaa];rfl
 |cons x t ih=>rw[Zm,Da,if_pos (h x (by simp)),ih λy hy=>h y (by simp[hy])];rfl
theorem Ny {t d:List aY} {i m n:Int} (h:∀x∈t,x.aC<i):Jw (t++⟨i,m⟩::d) i n=t++(if n<m then⟨i,m-n⟩::d else d):=by
 induction t with
 |nil=>simp[Jw]
 |cons x t ih=>rw[Zm,Jw,if_neg (by have:=h x (by simp);omega),ih λy hy=>h y (by simp[hy])];rfl
theorem oF {a:av} {t d:List aY} {i m:Int} (e:a.ay=t++⟨i,m⟩::d) (h:∀x∈t,x.aC<i):kq a i=m:=by
 rw[kq,e,List.find?_append,show t.find? (λx=>eqB x.aC i)=none from by rw[aba];intro x hx;have:=h x hx;simp[eqB];omega]
 simp[eqB]
theorem ui {a:av} {i:Int} (h:∀x∈a.ay,x.aC≠i):kq a i=0:=by
 rw[kq,show a.ay.find? (λx=>eqB x.aC i)=none from by rw[aba];intro x hx;have:=h x hx;simp[eqB];omega]
theorem tw_at {t d:List aY} {i:Int} (h:∀x∈t,x.aC<i) (h2:∀x∈d,i<=x.aC):((t++d).takeWhile λx=>ltB x.aC i)=t:=by
 rw[List.takeWhile_append_of_pos (λx hx=>ltB_t.2 (h x hx))]
 cases d with
 |nil=>simp
 |cons y d=>rw[aa3,show ltB y.aC i=false from ltB_f.2 (h2 y (by simp))];simp
theorem NN {L:Int->Option (cK Int Int)} {a:av} {i:Int} (ok:vz a) (hL:∀v1,L v1=bif ltB v1 (a.ay.length:Int) then(aaC (ix a.ay v1) λx2=>bif eqB x2.aC i then(dn (some v1)) else(some (.next (WR (v1+1))))) else(dn (some (-1)))):
 iter L FU 0=some (ou (λx=>eqB x.aC i) 0 a.ay):=by
 have:=ok.l
 exact A0 (L:=L) a.ay (λx=>eqB x.aC i) oaa (λk x hx hk=>by
  simp only[hL,dm hk,bk,hx,cp (show k<9223372036854775807 by omega),au]
  cases eqB x.aC i<;>rfl) (by simp[hL,dn])
theorem Ss {t d:List aY} {i m:Int} (h1:∀x∈t,x.aC<i):ou (λx=>eqB x.aC i) 0 (t++(⟨i,m⟩:aY)::d)=(t.length:Int):=by
 have:=N2 (λx:aY=>eqB x.aC i) ⟨i,m⟩ d (by simp) t 0 (λy hy=>eqB_f.2 (by have:=h1 y hy;omega))
 simpa using this
theorem Su {t d:List aY} {i:Int} (h1:∀x∈t,x.aC<i) (h2:∀x∈d,i<x.aC):ou (λx=>eqB x.aC i) 0 (t++d)= -1:=
 N3 _ _ _ λy hy=>eqB_f.2 (by rcases YR.1 hy with hy|hy;(have:=h1 y hy;omega);have:=h2 y hy;omega)
theorem Sr {a:av} {t d:List aY} {x:aY} (e:a.ay=t++x::d) (hl:t.length+1+d.length<=8):lB a (t.length:Int)=some {a with ay:=t++d}:=by
 have a2:it (t++x::d) 0 (t.length:Int)=true:=by simp[it];omega
 have a3:it (t++x::d) ((t.length+1:Nat):Int) (((t++x::d).length:Nat):Int)=true:=by simp[it];omega
 have e2:(t++x::d).drop (t.length+1)=d:=by rw[<-ZX,abn];rfl
 have a4:em 16 (t++d).length=true:=ec oaa (by simp;omega)
 have a5:em 16 t.length=true:=ec oaa oaa
 simp only[lB,e,a2,cp (show t.length<9223372036854775807 by omega),a3,cond_true,aaH,e2,List.take_left,ZR,a4,a5]
def full (a:av) (i:Int):Bool:=leB 8 (a.ay.length:Int)&&!a.ay.any λx=>eqB x.aC i
def lK (x y:Int):Int:=if y<x then y else x
def iy (a:av) (i n:Int):av×Int:=
 bif ltB i 0||(!inR n 1 100000||(eqB a.bK 0||full a i)) then(a,0) else({a with bK:=a.bK-lK n a.bK,ay:=Da a.ay i (lK n a.bK)},lK n a.bK)
def wh (a:av) (i n:Int):av:=bif ltB 0 n then {a with dW:=a.dW+n,ay:=Jw a.ay i n} else a
theorem min_s (x y:Int):MG x y=some (lK x y):=by
 rw[MG,lK];by_cases h:y<x
 .rw[ltB_t.2 h,if_pos h];rfl
 rw[ltB_f.2 oaa,if_neg h];rfl
theorem Ol (x y:Int):Md x y=some (lK x y):=min_s x y
def wW (x y:Int):Int:=if x<y then y else x
theorem max_s (x y:Int):sMax x y=some (wW x y):=by
 rw[sMax,wW];by_cases h:x<y
 .rw[ltB_t.2 h,if_pos h];rfl
 rw[ltB_f.2 oaa,if_neg h];rfl
theorem SW (x y:Int):Sq x y=some (wW x y):=max_s x y
theorem any_A {t d:List aY} {i m:Int}:((t++(⟨i,m⟩:aY)::d).any λx=>eqB x.aC i)=true:=by simp
theorem WF {t d:List aY} {i:Int} (h1:∀x∈t,x.aC<i) (h2:∀x∈d,i<x.aC):((t++d).any λx=>eqB x.aC i)=false:=by
 rw[Z8];intro y hy
 rcases YR.1 hy with hy|hy
 .have:=h1 y hy;simp[eqB];omega
 have:=h2 y hy;simp[eqB];omega
theorem Qr {a:av} (ok:vz a) (i n:Int):zH a i n=some (iy a i n):=by
 have hv:=CC.2 ok
 have hd:=ok.v
 have ht:=ok.t
 have hl:=ok.l
 have hfind:fO a i=some (ou (λx=>eqB x.aC i) 0 a.ay):=NN ok λv=>rfl
 simp only[zH,AH ok.ok,xj ok.ok,hv,hfind,gj,Ol,iy,au]
 cases h1:ltB i 0<;>cases h2:inR n 1 100000<;>cases h3:eqB a.bK 0<;>try rfl
 rw[bu] at h2
 have h3:=Cd h3
 have hmin:1<=lK n a.bK/\lK n a.bK<=100000/\lK n a.bK<=a.bK:=by unfold lK;split<;>omega
 simp only[bP (n:=a.bK-lK n a.bK) oaa,Zk,au]
 rcases RG ok.o i with⟨t,m,d,e,k1,k2⟩|⟨t,d,e,k1,k2⟩
 .have hm:m<=100000/\1<=m:=by have:=ok.r ⟨i,m⟩ (by rw[e];simp);simp only at this;omega
  rw[full,e,Ss k1,any_A,Nq k1,show leB 0 (t.length:Int)=true from leB_t.2 oaa]
  have hx:(t++(⟨i,m⟩:aY)::d)[t.length]?=some ⟨i,m⟩:=by simp
  simp only[bk,hx,aaH,bP (n:=m+lK n a.bK) oaa,aa6,au]
  simp
 have htl:t.length+d.length<=8:=by have:=congrArg abi e;simp at this;omega
 rw[full,e,Su k1 k2,WF k1 k2,Nr k1 k2,show leB 0 (-1)=false from by simp[leB]]
 cases h4:leB 8 (((t++d).length:Nat):Int)
 .have hlt:(t++d).length<8:=by have:=tD h4;omega
  have hrun:=E4 (L:=sH i a) a.ay (λx=>ltB x.aC i) oaa (λk x hx=>by
   have hk:=(YP.1 hx).1
   simp[sH,dm hk,hx]) (by simp[sH])
  rw[e,tw_at k1 (λx hx=>by have:=k2 x hx;omega)] at hrun
  have hs:=N6 t d cI (⟨i,lK n a.bK⟩:aY)
  have b1:em 16 (t++d++[cI]).length=true:=ec oaa (by simp at hlt ⊢;omega)
  have b2:it (t++d++[cI]) ((t.length+1:Nat):Int) (((t++d++[cI]).length:Nat):Int)=true:=by simp[it];omega
  have b3:it (t++d++[cI]) (t.length:Int) (((t++d++[cI]).length:Nat):Int)=true:=by simp[it];omega
  obtain⟨y,_,hy⟩:=SD (xs:=cpD (t++d++[cI]) (t.length+1) ((t++d++[cI]).drop t.length)) (i:=(t.length:Int)) oaa (by simp;omega)
  simp only[hrun,cp (show t.length<9223372036854775807 by omega),aaH,b1,b2,b3,hy,hs,aa7,au]
  simp
 rfl
theorem GH {a:av} (ok:vz a) (i:Int):0<=kq a i/\kq a i<=100000:=by
 rcases RG ok.o i with⟨t,m,d,e,h1,h2⟩|⟨t,d,e,h1,h2⟩
 .rw[oF e h1];have:=ok.r ⟨i,m⟩ (by rw[e];simp);simp only at this;omega
 rw[ui (λx hx=>by rw[e] at hx;rcases YR.1 hx with hx|hx;(have:=h1 x hx;omega);have:=h2 x hx;omega)];omega
theorem Vc {a:av} (ok:vz a) {i n:Int} (hn:0<=n/\n<=kq a i):HO a i n=some (wh a i n,true):=by
 have hv:=CC.2 ok
 have ht:=ok.t
 have hs:=ok.s
 have hl:=ok.l
 have hr:=GH ok i
 have hfind:fO a i=some (ou (λx=>eqB x.aC i) 0 a.ay):=NN ok λv=>rfl
 have hin:inR n 0 (kq a i)=true:=bu.2 hn
 simp only[HO,AH ok.ok,xj ok.ok,hv,hfind,KM ok.ok,gj,hin,wh,au]
 rcases RG ok.o i with⟨t,m,d,e,h1,h2⟩|⟨t,d,e,h1,h2⟩
 .rw[oF e h1] at hn
  have hm:m<=100000/\1<=m:=by have:=ok.r ⟨i,m⟩ (by rw[e];simp);simp only at this;omega
  have htl:t.length+1+d.length<=8:=by have:=congrArg abi e;simp at this;omega
  have hx:(t++(⟨i,m⟩:aY)::d)[t.length]?=some ⟨i,m⟩:=by simp
  have hset:∀z:aY,(t++(⟨i,m⟩:aY)::d).set t.length z=t++z::d:=λz=>by simp
  have hx2:∀z:aY,(t++z::d)[t.length]?=some z:=λz=>by simp
  rw[e,Ss h1,show ltB (t.length:Int) 0=false from ltB_f.2 oaa,Ny h1]
  simp only[bk,hx,hset,hx2,aaH,bP (n:=m-n) oaa,bP (n:=a.dW+n) oaa,au]
  cases h0:ltB 0 n
  .have h0:=nO h0
   have hn0:n=0:=by omega
   subst hn0
   rw[show m-0=m by omega,eqB_f.2 (show m≠0 by omega),show a.dW+0=a.dW by omega]
   simp only[<-e,au]
  have h0:=ko h0
  by_cases hb:n<m
  .rw[if_pos hb,eqB_f.2 (show m-n≠0 by omega)];simp only[au]
  rw[if_neg hb,eqB_t.2 (show m-n=0 by omega)]
  simp only[Sr (a:={a with dW:=a.dW+n,ay:=t++(⟨i,m-n⟩:aY)::d}) rfl htl,au]
 have h0:n=0:=by
  rw[ui (λx hx=>by rw[e] at hx;rcases YR.1 hx with hx|hx;(have:=h1 x hx;omega);have:=h2 x hx;omega)] at hn
  omega
 subst h0
 rw[e,Su h1 h2]
 simp[ltB]
attribute [local simp] bB aQ bk
structure WOK (w:bh):Prop where
 n:1<=w.bb/\w.bb<=100000
 l:w.aD.length<=8
 f:1<=w.bb-w.aD.length
 u:∀(k:Nat) (x:an),w.aD[k]?=some x->x.cQ=w.bb-w.aD.length+k/\x.a8.length<=60
theorem WOK.ok {w:bh} (h:WOK w):kf w:=⟨by have:=h.l;omega,λx hx=>by
 obtain⟨k,hk⟩:=Y4 hx
 exact⟨by have:=(h.u k x hk).2;omega,λ_ _=>trivial⟩⟩
theorem sr {n:Nat}:HJ n=true↔n<=60:=by simp[HJ,ltB];omega
theorem IQ {w:bh}:o8 w=true↔WOK w:=by
 constructor
 .intro h
  simp only[o8,v0,bu,eb,unB,sr] at h
  obtain⟨h1,h2,h3,h4⟩:=h
  have h2:=sb h2
  have h3:=sb h3
  rw[bP oaa] at h3
  refine⟨h1,by omega,h3,λk x hx=>?_⟩
  have hk:=(YP.1 hx).1
  have:=h4 k x hx
  have e:=fx this.1
  rw[bP (n:=w.bb-(w.aD.length:Int)) oaa,bP oaa] at e
  exact⟨e,this.2⟩
 rintro⟨h1,h2,h3,h4⟩
 simp only[o8,v0,bu,eb,unB,sr]
 refine⟨h1,leB_t.2 oaa,leB_t.2 (by rw[bP oaa];omega),λk x hx=>?_⟩
 have hk:=(YP.1 hx).1
 have:=h4 k x hx
 exact⟨eqB_t.2 (by rw[bP (n:=w.bb-(w.aD.length:Int)) oaa,bP oaa];exact this.1),this.2⟩
def fY (xs:List an):Int:=(xs.map λx=>(x.a8.length:Int)).sum
theorem AB:∀{xs:List an},(∀x∈xs,x.a8.length<=60)->0<=fY xs/\fY xs<=60*xs.length
 |[],_=>by simp[fY]
 |x::xs,h=>by
  have ih:=AB (xs:=xs) λy hy=>h y (by simp[hy])
  have:=h x (by simp)
  have e:fY (x::xs)=x.a8.length+fY xs:=by simp[fY]
  rw[e];simp only[YY];omega
theorem Ti {xs:List an} (h:∀x∈xs,x.a8.length<=60) (hl:xs.length<=1000):Ef xs=fY xs:=by
 have key:∀(xs:List an) (s:Int),(∀x∈xs,x.a8.length<=60)->0<=s->s+60*xs.length<=9000000000->xs.foldl (λa x=>WR (a+(x.a8.length:Int))) s=s+fY xs:=by
  intro xs
  induction xs with
  |nil=>intro s _ _ _;simp[fY]
  |cons x xs ih=>
   intro s h h0 h1
   have hx:=h x (by simp)
   simp only[YY] at h1
   rw[aaX,bP oaa,ih _ (λy hy=>h y (by simp[hy])) oaa oaa]
   simp[fY];omega
 have:=key xs 0 h oaa oaa
 rw[Ef,this];omega
theorem WOK.d {w:bh} (h:WOK w):∀x∈w.aD,x.a8.length<=60:=λx hx=>by
 obtain⟨k,hk⟩:=Y4 hx;exact(h.u k x hk).2
structure QOK (q:dh):Prop where
 i:0<=q.aC
 u:0<=q.d4
 g:q.d4<=q.cB
 m:q.cB<=100000
theorem KC {q:dh}:kr q=true↔QOK q:=by
 simp only[kr,v0,leB_t]
 exact⟨λ⟨a,b,c,d⟩=>⟨a,b,c,d⟩,λ⟨a,b,c,d⟩=>⟨a,b,c,d⟩⟩
theorem CP {q:dh} (h:QOK q):KH q=q.cB-q.d4:=by
 rw[KH,KC.2 h];obtain⟨a,b,c,d⟩:=h
 simp only[cond_true];rw[bP oaa]
structure SP (s:ae):Prop where
 ok:eu s
 rcd:uC s.be=true
 plan:pL s.gT=true
 page:n9 s.eo=true
 win:WOK s.aq
 q:QOK s.bC
 st:0<=s.aG/\s.aG<=1
 k1:s.aG=1->mf s.aV=true
 k2:0<s.bi->mf s.aO.eR=true
 ps:0<=s.bi/\s.bi<=999999
 gn:0<=s.ag/\s.ag<=999999
 ep:0<=s.aF/\s.aF<=999999
 rk:0<=s.aV/\s.aV<=2147483646
 ce:0<=s.aE/\s.aE<=5
 qu:0<=s.c9/\s.c9<=5
 rt:0<=s.cR/\s.cR<=3
 sl:s.ax.length<=24
 sd:∀p∈s.ax,p.a8.length<=60
 nx:s.aq.bb<=s.ax.length+1
 un:∀x∈s.aq.aD,K4 s x=true
 pd:fY s.aq.aD<=s.bC.cB-s.bC.d4
theorem An {s:ae} (ok:eu s):og s=true↔SP s:=by
 constructor
 .intro h
  simp only[og,v0,bu,IQ,KC,YX,CA,sr,BS,J9] at h
  obtain⟨h1,h2,h3,h4,h5,h6,⟨h7,h8⟩,h9,h10,h11,h12,h13,h14,h15,h16,h17,h18,h19,h20⟩:=h
  have h16:=sb h16
  have h18:=sb h18
  have h20:=sb h20
  rw[bP oaa] at h18
  rw[CP h5,Ti h4.d (by have:=h4.l;omega)] at h20
  refine⟨ok,h1,h2,h3,h4,h5,h6,λe=>?_,λe=>?_,h9,h10,h11,h12,h13,h14,h15,by omega,h17,h18,h19,h20⟩
  .rw[eqB_t.2 e] at h7;simpa using h7
  rw[ltB_t.2 e] at h8;simpa using h8
 rintro⟨_,h1,h2,h3,h4,h5,h6,h7,h8,h9,h10,h11,h12,h13,h14,h15,h16,h17,h18,h19,h20⟩
 simp only[og,v0,bu,IQ,KC,YX,CA,sr,BS,J9]
 refine⟨h1,h2,h3,h4,h5,h6,⟨?_,?_⟩,h9,h10,h11,h12,h13,h14,h15,leB_t.2 oaa,h17,leB_t.2 (by rw[bP oaa];omega),h19,leB_t.2 (by rw[CP h5,Ti h4.d (by have:=h4.l;omega)];omega)⟩
 .cases e:eqB s.aG 1
  .rfl
  exact h7 (fx e)
 cases e:ltB 0 s.bi
 .rfl
 exact h8 (ko e)
def mS (s:ae) (b:List Int):ae×Bool:=bif leB 24 (s.ax.length:Int)||ltB 60 (b.length:Int) then(s,false) else({s with ax:=s.ax++[⟨b⟩]},true)
theorem sub_s {s:ae} (h:eu s) {b:List Int}:o5 s b=some (mS s b):=by
 simp only[o5,Yo h,aaE,mS,EL,ZR]
 cases h1:leB 24 (s.ax.length:Int)<;>cases h2:ltB 60 (b.length:Int)<;>try rfl
 have h1:=tD h1
 have h2:=nO h2
 simp only[aaT,ec (by_:=1) (n:=b.length) oaa oaa,ec (by_:=24) (n:=(s.ax++[(⟨b⟩:bm)]).length) oaa (by simp;omega),au]
theorem sub_i {s:ae} (h:eu s) {b:List Int}:tq s b=some (mS s b):=by
 simp only[tq,vp h,aaE,mS]
 cases h1:leB 24 (s.ax.length:Int)<;>cases h2:ltB 60 (b.length:Int)<;>try rfl
 have h1:=tD h1
 have h2:=nO h2
 simp only[aaT,uJ (show b.length<=1048576 by omega),ec (by_:=24) (n:=(s.ax++[(⟨b⟩:bm)]).length) oaa (by simp;omega),au]
def xT (s:ae) (m:aR):bT:=
 let q:=s.be.cQ+1
 let v:=vec s.be.eR (vQ s.be.ID q) q
 bif eqB s.be.cQ 999999 then⟨s,[]⟩ else⟨{s with be:={s.be with cQ:=q},aO:=v,bi:=q},[⟨2,m.aE,q,0,0,v,0⟩]⟩
def jK (s:ae) (k:Int):aR:=kG s.aV ⟨k,s.aE,s.ag,s.aF,0,c7,0⟩
def mH (s:ae) (c:Int):ae:=⟨s.be,s.gT,1,c7,0,s.bi,s.aO.eR,s.aF+1,c,0,eB,s.ax,s.aq,s.cR,s.bC⟩
def qk (s:ae) (m:aR):bT:=
 bif leB s.bi 0||(!eqB m.ag s.bi||(!eqB m.bI s.aO.xW||leB 999999 s.aF)) then⟨s,[]⟩ else⟨mH s m.aE,[jK (mH s m.aE) 4]⟩
def f6 (s:ae) (m:aR):Bool:=eqB s.aG 1&&(eqB m.ag s.ag&&lN s.aV m)
def oG (s:ae) (m:aR):ae:={s with aF:=m.aF,aE:=m.aE,c9:=0,eo:=eB,cR:=0}
def md (s:ae) (m:aR):bT:=
 bif !f6 s m||(ltB m.aF s.aF||(eqB m.aF s.aF&&!eqB m.aE s.aE)) then⟨s,[]⟩ else⟨oG s m,[jK (oG s m) 6]⟩
def lO (w:bh) (k:Int):bh:=bif ltB w.bb k then w else⟨w.bb,w.aD.filter λx=>leB k x.cQ⟩
def uM (q:dh) (n:Int):dh:=bif inR n 0 (q.cB-q.d4) then {q with d4:=q.d4+n} else q
def jJ (s:ae) (k:Int):ae:={s with c9:=0,aq:=lO s.aq k,bC:=uM s.bC (fY s.aq.aD-fY (lO s.aq k).aD)}
def um (s:ae) (m:aR):bT:=bif !f6 s m||ltB s.aq.bb m.bI then⟨s,[]⟩ else⟨jJ s m.bI,[]⟩
def sUp (s:ae) (m:aR):bT:=
 bif !ey m then⟨s,[]⟩ else bif eqB m.aS 1 then xT s m else bif eqB m.aS 3 then qk s m else bif eqB m.aS 5 then md s m else bif eqB m.aS 8 then um s m else⟨s,[]⟩
def lg (s:ae):ae:={s with aO:=c7,bi:=0,c9:=0,eo:=eB,cR:=0}
theorem TS {s:ae} (h:eu s) {l:List aR} (hl:l.length<=1048576):db s l=some ⟨s,l⟩:=by simp[db,vp h,Uc hl]
theorem xB {s:ae} (h:eu s):db s []=some ⟨s,[]⟩:=TS h (by simp)
theorem Im {s:ae} (h:eu s) (m:aR):db s [m]=some ⟨s,[m]⟩:=TS h (by simp)
theorem Xu {s:ae} (h:eu s):A6 s=some (lg s):=by simp[A6,vp h,lg]
theorem OS {r:aP} (h:uC r=true):0<=r.cQ/\r.cQ<=999999:=by
 simp only[uC,v0,bu] at h;omega
theorem att_i {s:ae} (h:SP s) (m:aR):nq s m=some (xT s m):=by
 have hr:=OS h.rcd
 simp only[nq,Xi,pQ,WX,h.rcd,W4,xB h.ok,bP (n:=s.be.cQ+1) oaa,xT,au]
 cases he:eqB s.be.cQ 999999
 .simp only[aQ,eqB_f.2 (show s.be.cQ+1≠s.be.cQ by omega),aaP,aaO,au]
  rw[Im (s:={s with be:={s.be with cQ:=s.be.cQ+1},aO:=vec s.be.eR (vQ s.be.ID (s.be.cQ+1)) (s.be.cQ+1),bi:=s.be.cQ+1}) h.ok]
  rfl
 simp only[aQ,aaP,au]
theorem Yg {s:ae} (h:SP s) (m:aR):ly s m=some (qk s m):=by
 have he:=h.ep
 have hh:eu (mH s m.aE):=h.ok
 have a:∀x,db ⟨s.be,s.gT,1,c7,0,s.bi,s.aO.eR,s.aF+1,m.aE,0,eB,s.ax,s.aq,s.cR,s.bC⟩ [x]=some ⟨mH s m.aE,[x]⟩:=λx=>Im hh x
 simp only[ly,om,xB h.ok,lZ,Iy,aaE,bP (n:=s.aF+1) oaa,a,qk]
 cases leB s.bi 0<;>cases eqB m.ag s.bi<;>cases eqB m.bI s.aO.xW<;>cases leB 999999 s.aF<;>rfl
theorem VW {s:ae} (h:SP s) (m:aR):jz s m=some (md s m):=by
 have hh:eu (oG s m):=h.ok
 have a:∀x,db {s with aF:=m.aF,aE:=m.aE,c9:=0,eo:=eB,cR:=0} [x]=some ⟨oG s m,[x]⟩:=λx=>Im hh x
 simp only[jz,M7,xB h.ok,lZ,Iy,aaE,a,md,f6]
 cases eqB s.aG 1<;>cases eqB m.ag s.ag<;>cases lN s.aV m<;>cases ltB m.aF s.aF<;>cases eqB m.aF s.aF<;>cases eqB m.aE s.aE<;>rfl
attribute [local simp] bB aQ bk
theorem NM {w:bh} (h:WOK w) (p:an->Bool):okL fR (w.aD.filter p):=
 ⟨by have:=aaZ p w.aD;have:=h.l;omega,λx hx=>h.ok.2 x (ZZ.1 hx).1⟩
theorem Xc {w:bh} (h:WOK w) (k:Int):kv w k=some (lO w k):=by
 have hl:=h.l
 simp only[kv,Bt h.ok,aaE,lO]
 cases ltB w.bb k
 .have:=fP (step:=gz w k) w.aD (λi s=>((i:Int),s)) (wk 32 (λx=>leB k x.cQ) (λx=>x)) some oaa
   (λi x s hx hi=>by
    simp only[gz,dm hi,bk,hx,cp (show i<9223372036854775807 by omega),wk,au]
    cases leB k x.cQ<;>simp
    cases em 32 (s.length+1)<;>rfl) (λs=>by simp[gz]) ([]:List an)
  rw[xn oaa _ _ _ _ (by simp;omega)] at this
  simp only[show iter (gz w k) FU (0,[])=_ from this,ZR,List.map_id',yS (NM h _),au]
 rfl
theorem Ps {q:dh} (h:QOK q) (n:Int):∃b,oP q n=some (uM q n,b):=by
 obtain⟨a,b,c,d⟩:=h
 simp only[oP,CO,KC.2 ⟨a,b,c,d⟩,gj,bP (n:=q.cB-q.d4) oaa,uM,au]
 cases hn:inR n 0 (q.cB-q.d4)
 .exact⟨false,rfl⟩
 rw[bu] at hn
 simp only[bP (n:=q.d4+n) oaa,au];exact⟨true,rfl⟩
theorem GU (p:an->Bool):∀xs:List an,fY xs=fY (xs.filter p)+fY (xs.filter λx=>!p x)
 |[]=>rfl
 |x::xs=>by
  have ih:=GU p xs
  have e:∀ys,fY (x::ys)=x.a8.length+fY ys:=λys=>by simp[fY]
  rw[aaW,aaW,e]
  cases p x<;>simp[e]<;>omega
theorem II (n:Int):∀(xs:List an) (s:Int),(∀x∈xs,x.a8.length<=60)->0<=s->s+60*xs.length<=9000000000->
 xs.foldl (λa x=>bif ltB x.cQ n then WR (a+(x.a8.length:Int)) else a) s=s+fY (xs.filter λx=>ltB x.cQ n)
 |[],s,_,_,_=>by simp[fY]
 |x::xs,s,h,h0,h1=>by
  have hx:=h x (by simp)
  simp only[YY] at h1
  rw[aaX,aaW]
  cases ltB x.cQ n
  .simp only[cond_false]
   exact II n xs s (λy hy=>h y (by simp[hy])) h0 oaa
  simp only[cond_true]
  rw[bP oaa,II n xs _ (λy hy=>h y (by simp[hy])) oaa oaa]
  simp[fY];omega
theorem Hk {w:bh} (h:WOK w) {k:Int} (hk:ltB w.bb k=false):fY w.aD-fY (lO w k).aD=fY (w.aD.filter λx=>ltB x.cQ k):=by
 rw[lO,hk,GU (λx=>leB k x.cQ) w.aD]
 simp only[cond_false]
 have:(λx:an=>ltB x.cQ k)=λx=>!leB k x.cQ:=by funext x;rw[vL]
 rw[this];omega
theorem UV {w:bh} (h:WOK w) (k:Int):kf (lO w k):=by
 rw[lO];cases ltB w.bb k
 .exact NM h _
 exact h.ok
theorem ack_i {s:ae} (h:SP s) (m:aR):mr s m=some (um s m):=by
 have hu:=h.win.d
 have hl:=h.win.l
 have hrun:iter (jy s m) FU (0,0)=some (fY (s.aq.aD.filter λx=>ltB x.cQ m.bI)):=by
  rw[A2 s.aq.aD (λa x=>bif ltB x.cQ m.bI then WR (a+(x.a8.length:Int)) else a) oaa (λk x a hx hk=>by
   simp only[jy,dm hk,bk,hx,cp (show k<9223372036854775807 by omega),au]
   cases ltB x.cQ m.bI<;>rfl) (λa=>by simp[jy]),II m.bI s.aq.aD 0 hu oaa oaa]
  simp
 obtain⟨b,hb⟩:=Ps h.q (fY (s.aq.aD.filter λx=>ltB x.cQ m.bI))
 simp only[mr,M7,xB h.ok,hrun,hb,Xc h.win,aaE,um,f6]
 cases eqB s.aG 1<;>cases eqB m.ag s.ag<;>cases lN s.aV m<;>try rfl
 cases hk:ltB s.aq.bb m.bI
 .have ho:eu (jJ s m.bI):=⟨h.ok.1,h.ok.2.1,UV h.win _⟩
  have:=xB ho
  rw[jJ,Hk h.win hk] at this
  simp only[aaO,abh,jJ,Hk h.win hk,this,au]
 rfl
theorem up_i {s:ae} (h:SP s) (m:aR):nz s m=some (sUp s m):=by
 simp only[nz,OB,xB h.ok,att_i h,Yg h,VW h,ack_i h,aaE,sUp]
 cases ey m<;>cases eqB m.aS 1<;>cases eqB m.aS 3<;>cases eqB m.aS 5<;>cases eqB m.aS 8<;>rfl
attribute [local simp] bB aQ bk
theorem rV (t d:List aY):vx (t++d)=vx t+vx d:=by simp[vx,List.sum_append]
@[simp] theorem sumR_cons (x:aY) (d:List aY):vx (x::d)=x.ei+vx d:=by simp[vx]
theorem TH {t d:List aY} {i m m':Int} (h:(t++⟨i,m⟩::d).Pairwise λx y=>x.aC<y.aC):(t++⟨i,m'⟩::d).Pairwise λx y=>x.aC<y.aC:=by
 rw[aaL,aaK] at h ⊢
 obtain⟨h1,⟨h2,h3⟩,h4⟩:=h
 exact⟨h1,⟨λy hy=>h2 y hy,h3⟩,λx hx y hy=>by
  rcases YU.1 hy with e|hy
  .subst e;exact h4 x hx ⟨i,m⟩ (by simp)
  exact h4 x hx y (by simp[hy])⟩
theorem Yc {t d:List aY} {i m:Int} (h:(t++d).Pairwise λx y=>x.aC<y.aC) (h1:∀x∈t,x.aC<i) (h2:∀x∈d,i<x.aC):(t++(⟨i,m⟩:aY)::d).Pairwise λx y=>x.aC<y.aC:=by
 rw[aaL] at h ⊢
 obtain⟨a,b,c⟩:=h
 exact⟨a,aaK.2 ⟨λy hy=>h2 y hy,b⟩,λx hx y hy=>by
  rcases YU.1 hy with e|hy
  .subst e;exact h1 x hx
  exact c x hx y hy⟩
theorem If {t d:List aY} {i:Int} (h1:∀x∈t,x.aC<i) (h2:∀x∈d,i<x.aC):∀x∈t++d,x.aC≠i:=λx hx=>by
 rcases YR.1 hx with hx|hx
 .have:=h1 x hx;omega
 have:=h2 x hx;omega
theorem vf {a:av} (ok:vz a) (i n:Int):
 vz (iy a i n).1/\kq (iy a i n).1 i=kq a i+(iy a i n).2/\0<=(iy a i n).2/\(iy a i n).2<=a.bK/\(iy a i n).1.bK=a.bK-(iy a i n).2/\(iy a i n).1.dW=a.dW/\(iy a i n).1.iz=a.iz:=by
 have hv:=ok.v
 have ht:=ok.t
 have hs:=ok.s
 have hl:=ok.l
 have he:=ok.e
 rw[iy]
 cases h1:ltB i 0<;>cases h2:inR n 1 100000<;>cases h3:eqB a.bK 0<;>cases h4:full a i<;>simp only[abh,Bool.or_true,aa1,Zk,au]<;>try exact⟨ok,by omega,by omega,by omega,by omega,by simp,by simp⟩
 rw[bu] at h2
 have h1:=nO h1
 have h3:=Cd h3
 have hmin:1<=lK n a.bK/\lK n a.bK<=100000/\lK n a.bK<=a.bK:=by unfold lK;split<;>omega
 generalize lK n a.bK=g at*
 rcases RG ok.o i with⟨t,m,d,e,k1,k2⟩|⟨t,d,e,k1,k2⟩
 .have hm:=ok.r ⟨i,m⟩ (by rw[e];simp)
  have hsum:=(s6 ok.r).2.2 ⟨i,m⟩ (by rw[e];simp)
  simp only at hm hsum
  rw[e,rV,sumR_cons] at he
  simp only at he
  have hs1:=s6 (h:=t) λx hx=>ok.r x (by rw[e];simp[hx])
  have hs2:=s6 (h:=d) λx hx=>ok.r x (by rw[e];simp[hx])
  have ho:=ok.o
  rw[e] at ho
  rw[oF e k1]
  simp only[e,Nq k1]
  have hll:(t++(⟨i,m+g⟩:aY)::d).length=a.ay.length:=by rw[e];simp
  refine⟨⟨ht,by simp only;omega,hs,by simp only;omega,λx hx=>?_,TH ho,by simp only[rV,sumR_cons];omega⟩,oF (t:=t) (d:=d) rfl k1,by omega,by omega,trivial,trivial,trivial⟩
  rcases YR.1 hx with hx|hx
  .exact ok.r x (by rw[e];simp[hx])
  rcases YU.1 hx with e'|hx
  .subst e';simp only;omega
  exact ok.r x (by rw[e];simp[hx])
 rw[ui (a:=a) (λx hx=>by rw[e] at hx;exact If k1 k2 x hx)]
 have hb:a.ay.length<8:=by
  rw[full,e,WF k1 k2] at h4
  simp only[Bool.not_false,aaO] at h4
  have:=tD h4
  rw[e];omega
 rw[e,rV] at he
 have ho:=ok.o
 rw[e] at ho
 simp only[e,Nr k1 k2]
 refine⟨⟨ht,by simp only;omega,hs,by simp only;rw[e] at hb;simp at hb ⊢;omega,λx hx=>?_,Yc ho k1 k2,by simp only[rV,sumR_cons];omega⟩,Eq.trans (oF (t:=t) (d:=d) rfl k1) oaa,by omega,by omega,trivial,trivial,trivial⟩
 rcases YR.1 hx with hx|hx
 .exact ok.r x (by rw[e];simp[hx])
 rcases YU.1 hx with e'|hx
 .subst e';simp only;omega
 exact ok.r x (by rw[e];simp[hx])
theorem RD {a:av} (ok:vz a) {i n:Int} (hn:0<=n/\n<=kq a i):
 vz (wh a i n)/\kq (wh a i n) i=kq a i-n/\(wh a i n).dW=a.dW+n/\(wh a i n).bK=a.bK/\(wh a i n).iz=a.iz:=by
 have hv:=ok.v
 have ht:=ok.t
 have hs:=ok.s
 have hl:=ok.l
 have he:=ok.e
 rw[wh]
 cases h0:ltB 0 n
 .have h0:=nO h0
  have:n=0:=by omega
  subst this
  simp only[cond_false]
  exact⟨ok,by omega,by omega,by simp,by simp⟩
 have h0:=ko h0
 simp only[cond_true]
 rcases RG ok.o i with⟨t,m,d,e,k1,k2⟩|⟨t,d,e,k1,k2⟩
 .rw[oF e k1] at hn ⊢
  have hm:=ok.r ⟨i,m⟩ (by rw[e];simp)
  simp only at hm
  rw[e,rV,sumR_cons] at he
  have hs1:=s6 (h:=t) λx hx=>ok.r x (by rw[e];simp[hx])
  have hs2:=s6 (h:=d) λx hx=>ok.r x (by rw[e];simp[hx])
  have ho:=ok.o
  rw[e] at ho
  have hll:t.length+1+d.length=a.ay.length:=by rw[e];simp;omega
  simp only at he
  simp only[e,Ny k1]
  by_cases hb:n<m
  .simp only[if_pos hb]
   refine⟨⟨ht,by simp only;omega,by simp only;omega,by simp;omega,λx hx=>?_,TH ho,by simp only[rV,sumR_cons];omega⟩,oF (t:=t) (d:=d) rfl k1,trivial,trivial,trivial⟩
   rcases YR.1 hx with hx|hx
   .exact ok.r x (by rw[e];simp[hx])
   rcases YU.1 hx with e'|hx
   .subst e';simp only;omega
   exact ok.r x (by rw[e];simp[hx])
  simp only[if_neg hb]
  have ho2:(t++d).Pairwise λx y=>x.aC<y.aC:=ho.sublist (by simp)
  refine⟨⟨ht,by simp only;omega,by simp only;omega,by simp;omega,λx hx=>ok.r x (by rw[e];rcases YR.1 hx with hx|hx<;>simp[hx]),ho2,by simp only[rV];omega⟩,?_,trivial,trivial,trivial⟩
  rw[ui (a:={a with dW:=a.dW+n,ay:=t++d}) (If k1 k2)];omega
 rw[ui (λx hx=>by rw[e] at hx;exact If k1 k2 x hx)] at hn
 omega
structure MOK (a:av) (q:dh):Prop where
 acc:vz a
 quo:QOK q
 res:kq a q.aC=q.cB
theorem xz {a:av} {q:dh}:y6 a q=true↔MOK a q:=by
 simp only[y6,v0,CC,KC,eqB_t]
 exact⟨λ⟨x,y,z⟩=>⟨x,y,z⟩,λ⟨x,y,z⟩=>⟨x,y,z⟩⟩
def jI (a:av) (q:dh) (n:Int):av×dh:=
 let r:=iy a q.aC n
 (r.1,{q with cB:=q.cB+r.2})
theorem Es {a:av} {q:dh} (h:MOK a q) (n:Int):MOK (jI a q n).1 (jI a q n).2/\q.cB<=(jI a q n).2.cB:=by
 obtain⟨h1,h2,h3,h4,h5,h6,h7⟩:=vf h.acc q.aC n
 have:=GH h1 q.aC
 have hr:=h.res
 obtain⟨a1,a2,a3,a4⟩:=h.quo
 exact⟨⟨h1,⟨a1,a2,by simp only[jI];omega,by simp only[jI];omega⟩,by simp only[jI];omega⟩,by simp only[jI];omega⟩
theorem Qp {a:av} {q:dh} (h:MOK a q) (n:Int):oR a q n=some (jI a q n):=by
 have h0:=(Es h n).1.quo
 have hq:=h.quo
 simp only[jI] at h0
 have hg:=h0.m
 have hg2:=h0.g
 simp only at hg hg2
 simp only[oR,Qr h.acc,H4 h.acc.ok,xz.2 h,bP (n:=q.cB+(iy a q.aC n).2) (by have:=hq.u;omega),ltB_f.2 hg,jI,au]
def nT (a:av) (q:dh):av×dh:=(wh a q.aC q.d4,⟨q.aC,q.cB-q.d4,0⟩)
theorem Qo {a:av} {q:dh} (h:MOK a q):MOK (nT a q).1 (nT a q).2/\(nT a q).1.dW=a.dW+q.d4/\(nT a q).1.iz=a.iz/\(nT a q).1.bK=a.bK:=by
 obtain⟨a1,a2,a3,a4⟩:=h.quo
 have hr:=h.res
 obtain⟨h1,h2,h3,h4,h5⟩:=RD h.acc (i:=q.aC) (n:=q.d4) oaa
 exact⟨⟨h1,⟨a1,by simp[nT],by simp only[nT];omega,by simp only[nT];omega⟩,by simp only[nT];omega⟩,h3,h5,h4⟩
theorem TR {a:av} {q:dh} (h:MOK a q):nC a q=some (nT a q):=by
 obtain⟨a1,a2,a3,a4⟩:=h.quo
 have hr:=h.res
 simp only[nC,H4 h.acc.ok,xz.2 h,Vc h.acc (i:=q.aC) (n:=q.d4) oaa,bP (n:=q.cB-q.d4) oaa,nT,au]
def gk (s:ae) (n:Int):Int:=wW 0 (fY s.aq.aD+n-(s.bC.cB-s.bC.d4))
theorem Tj {s:ae} (hw:WOK s.aq) (hq:QOK s.bC) {n:Int} (hn:0<=n/\n<=1000):nn s n=some (gk s n):=by
 have hs:=AB hw.d
 have hl:=hw.l
 obtain⟨a1,a2,a3,a4⟩:=hq
 simp only[nn,iJ,nb_i (show s.aq.aD.length<=1048576 by omega),Ti hw.d (show s.aq.aD.length<=1000 by omega),WY,CP ⟨a1,a2,a3,a4⟩,SW,aaE,gk,bP (n:=fY s.aq.aD+n) oaa,bP (n:=fY s.aq.aD+n-(s.bC.cB-s.bC.d4)) oaa]
def bS (s:ae) (a:av) (n:Int):ae×av:=
 bif leB (gk s n) 0 then(s,a) else
  let r:=jI a s.bC (wW (gk s n) s.gT.dQ)
  ({s with bC:=r.2},r.1)
theorem RX {s:ae} (h:SP s) {a:av} (hm:MOK a s.bC) {n:Int} (hn:0<=n/\n<=1000):qr s a n=some (bS s a n):=by
 simp only[qr,vp h.ok,Tj h.win h.q hn,AH hm.acc.ok,SW,Qp hm,aaE,bS]
 cases leB (gk s n) 0<;>rfl
def sent (w:bh) (b:List Int):bh:=⟨w.bb+1,w.aD++[⟨w.bb,b⟩]⟩
theorem Iu {w:bh} (h:WOK w) {b:List Int} (hn:w.bb<100000) (hl:w.aD.length<8) (hb:b.length<=60):WOK (sent w b):=by
 have h1:=h.n
 have h3:=h.f
 refine⟨by simp only[sent];omega,by simp[sent];omega,by simp[sent];omega,λk x hx=>?_⟩
 simp only[sent] at hx ⊢
 rw[Y8,aa4]
 by_cases hk:k<w.aD.length
 .rw[YZ hk] at hx
  have:=h.u k x hx
  omega
 have hk2:=(YP.1 hx).1
 simp at hk2
 have:k=w.aD.length:=by omega
 subst this
 simp at hx
 subst hx
 simp only
 omega
theorem Ym {w:bh} (h:WOK w) {b:List Int} (hn:w.bb<100000) (hl:w.aD.length<8) (hb:b.length<=60):pt w b=some (sent w b,⟨w.bb,b⟩,true):=by
 have h1:=h.n
 have hs:=Iu h hn hl hb
 have e:(⟨WR (w.bb+1),w.aD++[(⟨w.bb,b⟩:an)]⟩:bh)=sent w b:=by rw[bP oaa];rfl
 simp only[pt,Bt h.ok,uJ (show b.length<=1048576 by omega),ec (by_:=32) (n:=(w.aD++[(⟨w.bb,b⟩:an)]).length) oaa (by simp;omega),e,KW hs.ok,IQ.2 hs,au]
attribute [local simp] bB aQ bk
structure SG (s:ae) (a:av):Prop where
 sp:SP s
 b1:∀p∈s.ax,okB p.a8
 b2:∀x∈s.aq.aD,okB x.a8
 mo:MOK a s.bC
def mN (s:ae):Option bm:=bif leB s.aq.bb (s.ax.length:Int)&&ltB (s.aq.aD.length:Int) 8 then s.ax[(s.aq.bb-1).toNat]? else none
def fT:Nat->ae->av->List aK->ae×av×List aK
 |0,s,a,r=>(s,a,r)
 |k+1,s,a,r=>match mN s with
  |none=>(s,a,r)
  |some x=>
   let e:=bS s a (x.a8.length:Int)
   bif ltB 0 (gk e.1 (x.a8.length:Int)) then(e.1,e.2,r)
   else fT k {e.1 with aq:=sent e.1.aq x.a8} e.2 (r++[iQ e.1.aV e.1.ag e.1.aF ⟨e.1.aq.bb,x.a8⟩])
theorem iX {s:ae} (h:SP s) {x:bm} (e:mN s=some x):x∈s.ax/\ix s.ax (WR (s.aq.bb-1))=some x/\s.ax[(s.aq.bb-1).toNat]?=some x/\s.aq.bb<=s.ax.length/\s.aq.aD.length<8/\x.a8.length<=60:=by
 have hn:=h.win.n
 rw[mN] at e
 cases h1:leB s.aq.bb (s.ax.length:Int)<;>cases h2:ltB (s.aq.aD.length:Int) 8<;>rw[h1,h2] at e<;>try cases e
 have h1:=sb h1
 have h2:=ko h2
 have e:s.ax[(s.aq.bb-1).toNat]?=some x:=e
 have hm:=YS e
 refine⟨hm,?_,e,h1,by omega,h.sd x hm⟩
 rw[bP oaa,ix,leB_t.2 (show 0<=s.aq.bb-1 by omega)]
 exact e
theorem Eh {s:ae} (h:SP s) (e:mN s=none):(leB s.aq.bb (s.ax.length:Int)&&ltB (s.aq.aD.length:Int) 8)=false:=by
 have hn:=h.win.n
 cases h1:leB s.aq.bb (s.ax.length:Int)&&ltB (s.aq.aD.length:Int) 8
 .rfl
 rw[mN,h1] at e
 rw[v0] at h1
 have h1:=sb h1.1
 have e:s.ax[(s.aq.bb-1).toNat]?=none:=e
 rw[List.getElem?_eq_none_iff] at e
 omega
theorem qG {s:ae} {a:av} (h:SG s a) {n:Int} (hn:0<=n/\n<=60):SG (bS s a n).1 (bS s a n).2:=by
 rw[bS]
 cases leB (gk s n) 0
 .obtain⟨h1,h2⟩:=Es h.mo (wW (gk s n) s.gT.dQ)
  have hp:=h.sp.pd
  have hu:(jI a s.bC (wW (gk s n) s.gT.dQ)).2.d4=s.bC.d4:=rfl
  exact⟨{h.sp with q:=h1.quo,pd:=by simp only[cond_false] at hp ⊢;rw[hu];omega},h.b1,h.b2,h1⟩
 exact h
theorem QG (x:ByteArray):strB x x=true:=by simp[strB]
theorem xD {s:ae} {a:av} (h:SG s a) {x:bm} (e:mN s=some x) (hq:ltB 0 (gk s (x.a8.length:Int))=false):SG {s with aq:=sent s.aq x.a8} a:=by
 obtain⟨hm,_,hx,hn,hl,hb⟩:=iX h.sp e
 have hs:=h.sp.sl
 have hq:=nO hq
 have hnn:=h.sp.win.n
 have hpd:fY (s.aq.aD++[⟨s.aq.bb,x.a8⟩])<=s.bC.cB-s.bC.d4:=by
  have e1:fY (s.aq.aD++[⟨s.aq.bb,x.a8⟩])=fY s.aq.aD+x.a8.length:=by simp[fY]
  rw[gk,wW] at hq
  rw[e1]
  split at hq<;>omega
 refine⟨{h.sp with ok:=⟨h.sp.ok.1,h.sp.ok.2.1,(Iu h.sp.win oaa hl hb).ok⟩,win:=Iu h.sp.win oaa hl hb,nx:=by simp only[sent];omega,un:=λy hy=>?_,pd:=hpd},h.b1,λy hy=>?_,h.mo⟩
 .simp only[sent,YR,ZS] at hy
  rcases hy with hy|rfl
  .exact h.sp.un y hy
  simp only[K4,hx,KT];exact QG _
 simp only[sent,YR,ZS] at hy
 rcases hy with hy|rfl
 .exact h.b2 y hy
 exact h.b1 x hm
theorem iE (s:ae) (a:av) (n:Int):∃q,(bS s a n).1={s with bC:=q}:=by
 rw[bS];cases leB (gk s n) 0
 .exact⟨_,rfl⟩
 exact⟨s.bC,rfl⟩
theorem EJ:∀(k fu:Nat) (s:ae) (a:av) (r:List aK),SG s a->k<=2->k<fu->r.length+k<=1000->
 iter sI fu ((2:Int)-(k:Nat),r,s,a)=some ((fT k s a r).2.2,(fT k s a r).1,(fT k s a r).2.1)
 |0,fu,s,a,r,h,h1,h2,h3=>by
  cases fu with
  |zero=>omega
  |succ fu=>rw[iter];simp[sI,fT]
 |k+1,fu,s,a,r,h,h1,h2,h3=>by
  cases fu with
  |zero=>omega
  |succ fu=>
   have hlt:ltB ((2:Int)-((k+1:Nat):Int)) 2=true:=ltB_t.2 oaa
   have hc:(bif ltB (s.ax.length:Int) s.aq.bb then some true else some (leB 8 (s.aq.aD.length:Int)))=some (!(leB s.aq.bb (s.ax.length:Int)&&ltB (s.aq.aD.length:Int) 8)):=by
    rw[vL (s.ax.length:Int),vL (s.aq.aD.length:Int)]
    cases leB s.aq.bb (s.ax.length:Int)<;>cases leB 8 (s.aq.aD.length:Int)<;>rfl
   rw[iter]
   simp only[sI,hlt,hc,fT,au]
   cases e:mN s with
   |none=>rw[Eh h.sp e];rfl
   |some x=>
    obtain⟨hm,hx,_,hn,hl,hb⟩:=iX h.sp e
    have hcc:(leB s.aq.bb (s.ax.length:Int)&&ltB (s.aq.aD.length:Int) 8)=true:=by rw[leB_t.2 hn,ltB_t.2 oaa];rfl
    have he:=qG h (n:=(x.a8.length:Int)) oaa
    have hsl:=h.sp.sl
    have hnn:=h.sp.win.n
    simp only[hcc,hx,RX h.sp h.mo (n:=(x.a8.length:Int)) oaa,Tj he.sp.win he.sp.q (n:=(x.a8.length:Int)) oaa,au]
    cases hq:ltB 0 (gk (bS s a (x.a8.length:Int)).1 (x.a8.length:Int))
    .obtain⟨q,hk⟩:=iE s a (x.a8.length:Int)
     have e2:mN (bS s a (x.a8.length:Int)).1=some x:=by rw[hk];exact e
     have hg:=xD he e2 hq
     have hw:(bS s a (x.a8.length:Int)).1.aq=s.aq:=by rw[hk]
     have hww:=he.sp.win
     simp only[Ym hww (b:=x.a8) (by rw[hw];omega) (by rw[hw];omega) hb,T6 (x:=⟨(bS s a (x.a8.length:Int)).1.aq.bb,x.a8⟩) (by rw[hw];simp only;omega) (by rw[hw];simp only;omega) (h.b1 x hm) (by simp only;omega),ec (by_:=64) (n:=(r++[iQ (bS s a (x.a8.length:Int)).1.aV (bS s a (x.a8.length:Int)).1.ag (bS s a (x.a8.length:Int)).1.aF ⟨(bS s a (x.a8.length:Int)).1.aq.bb,x.a8⟩]).length) oaa (by simp;omega),bP (n:=(2:Int)-((k+1:Nat):Int)+1) oaa,au]
     rw[show(2:Int)-((k+1:Nat):Int)+1=2-(k:Nat) by omega]
     exact EJ k fu _ _ _ hg oaa oaa (by simp;omega)
    rfl
theorem Qz {s:ae} {a:av} (h:SG s a) (hs:s.aG=1):zK s a=some ⟨(fT 2 s a []).1,(fT 2 s a []).2.1,[],(fT 2 s a []).2.2⟩:=by
 have:=EJ 2 FU s a [] h oaa (by have:=kj;omega) (by simp)
 rw[show(2:Int)-((2:Nat):Int)=0 by omega] at this
 simp only[zK,vp h.sp.ok,AH h.mo.acc.ok,Bu h.sp.ok,(An h.sp.ok).2 h.sp,eqB_t.2 hs,this,au]
theorem EG:∀(k:Nat) (s:ae) (a:av) (r:List aK),SG s a->SG (fT k s a r).1 (fT k s a r).2.1
 |0,s,a,r,h=>h
 |k+1,s,a,r,h=>by
  rw[fT]
  cases e:mN s with
  |none=>exact h
  |some x=>
   obtain⟨hm,hx,_,hn,hl,hb⟩:=iX h.sp e
   have he:=qG h (n:=(x.a8.length:Int)) oaa
   simp only
   cases hq:ltB 0 (gk (bS s a (x.a8.length:Int)).1 (x.a8.length:Int))
   .obtain⟨q,hk⟩:=iE s a (x.a8.length:Int)
    exact EG k _ _ _ (xD he (by rw[hk];exact e) hq)
   exact he
attribute [local simp] bB aQ bk
theorem JL {α:Type} (xs:List α):(xs.filter λ_=>true)=xs:=List.filter_eq_self.2 (by simp)
def xX (s:ae):List aK:=bif eqB s.aG 1 then(s.aq.aD.take 2).map λx=>iQ s.aV s.ag s.aF x else []
theorem M6 {s:ae} (h:WOK s.aq) {x:an} (hx:x∈s.aq.aD):1<=x.cQ/\x.cQ<s.aq.bb/\x.cQ<=100000/\x.a8.length<=60:=by
 obtain⟨k,hk⟩:=Y4 hx
 have hl:=(YP.1 hk).1
 have:=h.u k x hk
 have h1:=h.f
 have h2:=h.n
 omega
theorem UX {s:ae} {a:av} (h:SG s a):pm s=some (xX s):=by
 simp only[pm,xX]
 cases eqB s.aG 1
 .rfl
 have hm:lK 2 (s.aq.aD.length:Int)=(((min 2 s.aq.aD.length:Nat)):Int):=by unfold lK;split<;>omega
 have hs:it s.aq.aD 0 (((min 2 s.aq.aD.length:Nat)):Int)=true:=by simp[it];omega
 have ht:s.aq.aD.take (min 2 s.aq.aD.length)=s.aq.aD.take 2:=by
  rcases Nat.le_total 2 s.aq.aD.length with h|h
  .rw[Zj h]
  rw[Nat.min_eq_right h,ZC,aar h]
 have hrun:=fP (step:=kS s (((min 2 s.aq.aD.length:Nat)):Int)) (s.aq.aD.take 2) (λi r=>((i:Int),r)) (wk 64 (λ_=>true) (λx=>iQ s.aV s.ag s.aF x)) some (by simp;omega)
  (λi x r hx hi=>by
   have hxm:x∈s.aq.aD:=Y9 (YS hx)
   have hu:=M6 h.sp.win hxm
   simp only[kS,aaH,ht,dm hi,bk,hx,T6 (x:=x) oaa oaa (h.b2 x hxm) oaa,cp (show i<9223372036854775807 by simp at hi;omega),wk,au]
   cases em 64 (r++[iQ s.aV s.ag s.aF x]).length<;>rfl) (λr=>by simp[kS,ht]) ([]:List aK)
 rw[xn oaa _ _ _ _ (by simp;omega)] at hrun
 have hrun:iter (kS s (((min 2 s.aq.aD.length:Nat)):Int)) FU (0,[])=_:=hrun
 simp only[Ol,hm,hs,hrun,ZR,JL,au]
def jq (m:aU) (a:Int):List Int:=(m.aZ.zipIdx.filter λy=>eqB y.1.fJ a).map λy=>(y.2:Int)
def LD (m:aU):List Int:=(YQ m.aZ.length).map λ(k:Nat)=>(k:Int)
def z6 (m:aU) (a t:Int):List Int:=bif eqB t 1&&ltB 0 (((jq m a).length:Nat):Int) then jq m a else bif inR t 1 4 then LD m else []
theorem Wz {α:Type} {xs:List α} {k:Nat} {y:α×Nat} (h:xs.zipIdx[k]?=some y):xs[k]?=some y.1/\y.2=k:=by
 rw[List.getElem?_zipIdx] at h
 cases hx:xs[k]? with
 |none=>rw[hx] at h;cases h
 |some x=>rw[hx] at h;simp at h;subst h;exact⟨rfl,rfl⟩
theorem Xe {m:aU} (h:m.aZ.length<=1000) (a:Int):Ai m a=some (jq m a):=by
 have hrun:=fP (step:=jU m a) m.aZ.zipIdx (λi r=>((i:Int),r)) (wk 8 (λy=>eqB y.1.fJ a) (λy=>(y.2:Int))) some (by simp;omega)
  (λi y r hy hi=>by
   obtain⟨hx,e⟩:=Wz hy
   have hi:i<m.aZ.length:=by simpa using hi
   simp only[jU,dm hi,bk,hx,cp (show i<9223372036854775807 by omega),wk,e,au]
   cases eqB y.1.fJ a
   .rfl
   cases em 8 (r++[(i:Int)]).length<;>rfl) (λr=>by simp[jU]) ([]:List Int)
 rw[xn oaa _ _ _ _ (by simp;omega)] at hrun
 rw[Ai,show iter (jU m a) FU (0,[])=_ from hrun]
 rfl
theorem Xd {m:aU} (h:m.aZ.length<=1000) (a:Int):uQ m a=some (jq m a):=Xe h a
theorem Sw (n:Nat):∀(v:List Int),v.length=n->(∀k:Nat,k<n->v[k]?=some (k:Int))->v=(YQ n).map λ(k:Nat)=>(k:Int):=by
 intro v hv h
 apply aaQ
 intro k
 by_cases hk:k<n
 .rw[h k hk];simp[hk]
 rw[aaN oaa,aaN (by simp;omega)]
theorem WE {L:Int×List Int->Option (cK (Int×List Int) (List Int))} (n:Nat) (hn:n<=1000)
 (hL:∀(k:Nat) (v:List Int),L ((k:Int),v)=bif ltB (k:Int) (n:Int) then(aaC (ix v (k:Int)) λ_=>some (.next (WR ((k:Int)+1),v.set ((k:Int)).toNat (k:Int)))) else some (.done v)):
 iter L FU (0,YV n 0)=some ((YQ n).map λ(k:Nat)=>(k:Int)):=by
 have:Wp (iter L FU (0,YV n 0)) (λr=>r=(YQ n).map λ(k:Nat)=>(k:Int)):=by
  refine Wp.iterF (λs=>∃i:Nat,i<=n/\s.1=(i:Int)/\s.2.length=n/\∀j:Nat,j<i->s.2[j]?=some (j:Int)) (λs=>((n:Int)-s.1).toNat) ⟨0,by omega,rfl,by simp,by omega⟩ (by simp;omega) ?_
  rintro⟨v2,v3⟩ ⟨i,hi,rfl,h3,h4⟩
  simp only at h3 h4
  rw[hL]
  refine Wp.cond (λhlt=>?_) (λhlt=>?_)
  .have hlt:=ko hlt
   refine Wp.ix oaa oaa λx hx hxi=>Wp.some ?_
   rw[bP oaa]
   refine⟨⟨i+1,by omega,by simp,by simpa using h3,λj hj=>?_⟩,by simp only;omega⟩
   simp only[aaH]
   rw[aaq]
   by_cases e:i=j
   .subst e;rw[if_pos rfl,if_pos oaa]
   rw[if_neg e];exact h4 j oaa
  have hlt:=nO hlt
  exact Wp.some (Sw n v3 h3 λk hk=>h4 k oaa)
 obtain⟨r,hr,rfl⟩:=this.ex
 exact hr
theorem VU {m:aU} (h:m.aZ.length<=1000) (a t:Int):qs m a t=some (z6 m a t):=by
 have hmk:pD 8 (m.aZ.length:Int) (m.aZ.length:Int)=true:=gQ oaa oaa
 have hr1:=WE (L:=pR m) m.aZ.length h (λk v=>by simp only[pR,abg,aaH])
 have hr2:=WE (L:=pS m) m.aZ.length h (λk v=>by simp only[pS,abg,aaH])
 simp only[qs,gj,Xd h,hmk,aaH,hr1,hr2,z6,LD,au]
 cases h1:eqB t 1
 .cases inR t 1 4<;>rfl
 have h1:=fx h1
 subst h1
 rw[show inR 1 1 4=true from by simp[inR,leB]]
 cases ltB 0 (((jq m a).length:Nat):Int)<;>rfl
def mQ (p:cL) (m:aU):cL×List Int:=
 bif ltB 0 p.di then({p with di:=p.di-1},[]) else
  let t:=bif ltB p.dt 4 then p.dt+1 else 1
  (⟨p.fJ,t,3⟩,z6 m p.fJ t)
structure POK (p:cL):Prop where
 a:0<=p.dt/\p.dt<=4
 w:0<=p.di/\p.di<=3
theorem Wm {p:cL} (hp:POK p) {m:aU} (h:m.aZ.length<=1000):sK p m=some (mQ p m):=by
 have h1:=hp.a
 have h2:=hp.w
 simp only[sK,VU h,aaE,mQ,bP (n:=p.di-1) oaa,bP (n:=p.dt+1) oaa,FQ]
def iB (m:aU) (c:Int):Int:=bif ew m c then(match m.aZ[c.toNat]? with|some x=>x.fJ|none=>0) else 0
def iM (c:Int):aR:={fG with aS:=7,aE:=c}
def BW (s:ae) (a:av) (m:aU):bZ:=
 let r:=mQ {s.eo with fJ:=iB m s.aE} m
 ⟨{s with eo:=r.1},a,r.2.map iM,[]⟩
theorem Qh {L:Int×List aR->Option (cK (Int×List aR) (List aR))} (xs:List Int) (hl:xs.length<=10000)
 (hL:∀(v:Int) (r:List aR),L (v,r)=bif ltB v (xs.length:Int) then(aaC (ix xs v) λx10=>bif em 88 (r++[{fG with aS:=7,aE:=x10}]).length then(some (.next (WR (v+1),(r++[{fG with aS:=7,aE:=x10}])))) else none) else(some (.done r))):
 iter L FU (0,[])=some (xs.map iM):=by
 have hrun:=fP (step:=L) xs (λi r=>((i:Int),r)) (wk 88 (λ_=>true) iM) some oaa
  (λi x r hx hi=>by
   simp only[hL,dm hi,bk,hx,cp (show i<9223372036854775807 by omega),wk,iM,au]
   cases em 88 (r++[{fG with aS:=7,aE:=x}]).length<;>rfl) (λr=>by simp[hL]) ([]:List aR)
 rw[xn oaa _ _ _ _ (by simp;omega)] at hrun
 refine Eq.trans (show iter L FU (0,[])=_ from hrun) (by rw[JL,ZR])
theorem GY {p:cL} {m:aU} (h:m.aZ.length<=1000):(mQ p m).2.length<=1000:=by
 have hc:(jq m p.fJ).length<=1000:=by
  simp only[jq,Y3]
  have:=aaZ (λy:eY×Nat=>eqB y.1.fJ p.fJ) m.aZ.zipIdx
  simp at this;omega
 rw[mQ];cases ltB 0 p.di
 .simp only[cond_false,z6]
  cases eqB (bif ltB p.dt 4 then p.dt+1 else 1) 1&&ltB 0 (((jq m p.fJ).length:Nat):Int)
  .cases inR (bif ltB p.dt 4 then p.dt+1 else 1) 1 4<;>simp[LD];omega
  exact hc
 simp
theorem Ya {s:ae} {a:av} (hp:POK s.eo) {m:aU} (hm:1<=m.aZ.length/\m.aZ.length<=1000):sN s a m=some (BW s a m):=by
 have hin:(bif ew m s.aE then(aaC (CK m s.aE) λr3=>some r3) else some 0)=some (iB m s.aE):=by
  rw[iB]
  cases hc:ew m s.aE
  .rfl
  obtain⟨d,_,h1,h2⟩:=CG hc
  simp only[CK,uL (show m.aZ.length<=1048576 by omega),hc,h1,h2,au]
 have hpp:POK {s.eo with fJ:=iB m s.aE}:=⟨hp.a,hp.w⟩
 have hr:=Qh (L:=wT (mQ {s.eo with fJ:=iB m s.aE} m)) _ (by have:=GY (p:={s.eo with fJ:=iB m s.aE}) hm.2;omega) (λv r=>rfl)
 simp only[sN,uL (show m.aZ.length<=1048576 by omega),hin,aaE,Wm hpp hm.2,hr,BW]
attribute [local simp] bB aQ bk
def eP (s:ae) (a:av):av×dh:=bif leB s.gT.dQ s.bC.d4 then nT a s.bC else(a,s.bC)
def uI (s:ae):Bool:=ltB 0 (s.aq.aD.length:Int)
def eE (s:ae):Int:=bif uI s then lK 5 (s.c9+1) else 0
def iN (s:ae):List aK×Int:=bif uI s&&ltB 0 s.cR then([],s.cR-1) else bif uI s then(xX s,3) else([],s.cR)
def sW (s:ae) (a:av) (m:aU):bZ:=
 let g:=eP s a
 let t:=fT 2 {s with c9:=eE s,cR:=(iN s).2,bC:=g.2} g.1 []
 ⟨t.1,t.2.1,[],(iN s).1++t.2.2⟩
def bF (s:ae) (a:av) (m:aU):bZ:=
 bif !eqB s.aG 1 then⟨s,a,[],[]⟩ else bif ltB 4 (eE s) then BW {s with c9:=eE s,bC:=(eP s a).2} (eP s a).1 m else sW s a m
theorem wq {s:ae} {a:av} (h:SG s a):MOK (eP s a).1 (eP s a).2/\(eP s a).2.cB-(eP s a).2.d4=s.bC.cB-s.bC.d4/\(eP s a).2.aC=s.bC.aC/\(eP s a).1.dW+(eP s a).2.d4=a.dW+s.bC.d4/\(eP s a).1.iz=a.iz/\(eP s a).1.bK=a.bK:=by
 rw[eP]
 cases leB s.gT.dQ s.bC.d4
 .exact⟨h.mo,rfl,rfl,rfl,rfl,rfl⟩
 obtain⟨h1,h2,h3,h4⟩:=Qo h.mo
 simp only[cond_true]
 exact⟨h1,by simp[nT],rfl,by rw[h2];simp[nT],h3,h4⟩
theorem uh {s:ae} (h:SP s):0<=eE s/\eE s<=5:=by
 have:=h.qu
 rw[eE];cases uI s
 .simp
 simp only[cond_true,lK];split<;>omega
theorem uj {s:ae} (h:SP s):0<=(iN s).2/\(iN s).2<=3:=by
 have:=h.rt
 rw[iN];cases uI s
 .exact this
 cases hb:ltB 0 s.cR
 .simp
 have:=ko hb
 simp;omega
theorem SG.upd {s:ae} {a:av} (h:SG s a) {q r:Int} (hq:0<=q/\q<=5) (hr:0<=r/\r<=3):SG {s with c9:=q,cR:=r,bC:=(eP s a).2} (eP s a).1:=by
 obtain⟨h1,h2,_⟩:=wq h
 have hp:=h.sp.pd
 exact⟨{h.sp with q:=h1.quo,qu:=hq,rt:=hr,pd:=by simp only;omega},h.b1,h.b2,h1⟩
theorem Pi (s:ae):(xX s).length<=2:=by
 rw[xX];cases eqB s.aG 1<;>simp;omega
theorem Bo (s:ae):(iN s).1.length<=2:=by
 have:=Pi s
 rw[iN];cases uI s<;>cases ltB 0 s.cR<;>simp<;>omega
theorem xC:∀(k:Nat) (s:ae) (a:av) (r:List aK),(fT k s a r).2.2.length<=r.length+k
 |0,s,a,r=>by simp[fT]
 |k+1,s,a,r=>by
  rw[fT]
  cases mN s with
  |none=>simp
  |some x=>
   simp only
   cases ltB 0 (gk (bS s a (x.a8.length:Int)).1 (x.a8.length:Int))
   .have:=xC k {(bS s a (x.a8.length:Int)).1 with aq:=sent (bS s a (x.a8.length:Int)).1.aq x.a8} (bS s a (x.a8.length:Int)).2 (r++[iQ (bS s a (x.a8.length:Int)).1.aV (bS s a (x.a8.length:Int)).1.ag (bS s a (x.a8.length:Int)).1.aF ⟨(bS s a (x.a8.length:Int)).1.aq.bb,x.a8⟩])
    simp only[Y8,aa4] at this
    simp only[cond_false];omega
   simp only[cond_true];omega
theorem PS (x y:Int):lK x y=lK y x:=by unfold lK;split<;>split<;>omega
theorem Wn {s:ae} {a:av} (h:SG s a) {m:aU} (hm:1<=m.aZ.length/\m.aZ.length<=1000) (hp:POK s.eo):qv s a m=some (bF s a m):=by
 have hz:({dr with az:=s,cy:=a}:bZ)=⟨s,a,[],[]⟩:=rfl
 have hqu:=h.sp.qu
 have hrt:=h.sp.rt
 simp only[qv,vp h.sp.ok,AH h.mo.acc.ok,Bu h.sp.ok,(An h.sp.ok).2 h.sp,hz,bF,au]
 cases hs:eqB s.aG 1
 .rfl
 have hst:=fx hs
 have hq:=uh h.sp
 have hr:=uj h.sp
 have hu:=h.upd hq (show(0:Int)<=3/\(3:Int)<=3 by omega)
 have hv:=h.upd hq hr
 have hgr:(bif leB s.gT.dQ s.bC.d4 then(aaC (nC a s.bC) λr14=>some ({s with bC:=r14.2},r14.1)) else some (s,a))=some ({s with bC:=(eP s a).2},(eP s a).1):=by
  rw[eP,TR h.mo];cases leB s.gT.dQ s.bC.d4<;>rfl
 have hqq:(bif ltB 0 (s.aq.aD.length:Int) then(aaC (Md (WR (s.c9+1)) 5) λr9=>some r9) else some 0)=some (eE s):=by
  rw[eE,uI,bP (n:=s.c9+1) oaa,Ol,PS]
  cases ltB 0 (s.aq.aD.length:Int)<;>rfl
 have hl:em 64 ((iN s).1++(fT 2 {s with c9:=eE s,cR:=(iN s).2,bC:=(eP s a).2} (eP s a).1 []).2.2).length=true:=by
  have h1:=Bo s
  have h2:=xC 2 {s with c9:=eE s,cR:=(iN s).2,bC:=(eP s a).2} (eP s a).1 []
  simp only[aaI] at h2
  exact ec oaa (by simp;omega)
 have hpp:POK ({s with c9:=eE s,bC:=(eP s a).2}:ae).eo:=hp
 have e1:=Ya (s:={s with c9:=eE s,bC:=(eP s a).2}) (a:=(eP s a).1) hpp hm
 have e2:=Qz hv hst
 simp only[hgr,hqq,au]
 cases ltB 4 (eE s)
 .simp only[cond_false,sW]
  have hrr2:∀(k:List aK×Int->Option bZ),(aaC (bif ltB 0 (s.aq.aD.length:Int) then some (ltB 0 s.cR) else some false) λ(v11:Bool)=>aaC (bif v11 then(some (([]:List aK),WR (s.cR-1))) else(aaC (bif ltB 0 (s.aq.aD.length:Int) then(aaC (pm {s with c9:=eE s,cR:=3,bC:=(eP s a).2}) λr16=>some (r16,3)) else(some (([]:List aK),s.cR))) λx=>some (x.1,x.2))) k)=k (iN s):=λk=>by
   rw[iN,uI,bP (n:=s.cR-1) oaa,UX hu]
   cases ltB 0 (s.aq.aD.length:Int)<;>cases ltB 0 s.cR<;>rfl
  rw[hrr2]
  simp only[e2,hl,au]
 simp only[e1,au]
 rfl
attribute [local simp] bB aQ bk
structure RP (r:aX):Prop where
 ok:fF r
 v:s8 r=true
 b1:∀x∈r.aO,okB x.a8
 b2:∀p∈r.bj,okB p.a8
structure DP (d:aw):Prop where
 card:yr d.cZ=true
 st:0<=d.aG/\d.aG<=3
 ce:0<=d.aE/\d.aE<=5
 gn:0<=d.ag/\d.ag<=999999
 ep:0<=d.aF/\d.aF<=999999
 rk:0<=d.aV/\d.aV<=2147483646
 k:2<=d.aG->mf d.aV=true
 wt:0<=d.di/\d.di<=3
 rc:RP d.aT
theorem DP.ok {d:aw} (h:DP d):eO d:=h.rc.ok
theorem DP.v {d:aw} (h:DP d):o7 d=true:=by
 have:=h.st
 simp only[o7,v0,bu]
 refine⟨h.card,h.st,h.ce,h.gn,h.ep,h.rk,?_,h.wt,h.rc.v⟩
 cases e:inR d.aG 2 3
 .rfl
 rw[bu] at e;rw[h.k e.1];rfl
theorem DP.of {d:aw} (h:o7 d=true) (ok:eO d) (b1:∀x∈d.aT.aO,okB x.a8) (b2:∀p∈d.aT.bj,okB p.a8):DP d:=by
 simp only[o7,v0,bu] at h
 obtain⟨h1,h2,h3,h4,h5,h6,h7,h8,h9⟩:=h
 refine⟨h1,h2,h3,h4,h5,h6,λe=>?_,h8,⟨ok,h9,b1,b2⟩⟩
 rw[bu.2 ⟨e,h2.2⟩] at h7;simpa using h7
theorem wg {d:aw} (h:DP d):DP (dR d).aJ:=by
 have hw:=h.wt
 rw[dR]
 cases hb:ltB 0 d.di
 .cases eqB d.aG 1
  .cases eqB d.aG 2&&!d.bM
   .exact h
   exact {h with wt:=⟨by simp,by simp⟩}
  exact {h with wt:=⟨by simp,by simp⟩}
 have:=ko hb
 exact {h with wt:=⟨by simp only[cond_true];omega,by simp only[cond_true];omega⟩}
theorem Xl {d:aw} (h:DP d):DP (dOn d).aJ:=by
 rw[dOn]
 cases eqB d.aG 0
 .exact h
 exact {h with st:=⟨by simp,by simp⟩,wt:=⟨by simp,by simp⟩,k:=λe=>by simp at e}
theorem HB {d:aw} (h:DP d):DP (km d).aJ:={h with wt:=⟨by simp[km],by simp[km]⟩}
theorem JC {d:aw} (h:DP d) (c:Int):DP (qg d c).aJ:=by
 have he:=h.ep
 rw[qg]
 cases h1:eqB c d.aE||!inR c 0 5
 .simp only[Y2,aaM] at h1
  have hc:=bu.1 h1.2
  cases h2:eqB d.aG 2&&ltB d.aF 999999
  .exact {h with ce:=hc}
  rw[v0] at h2
  have:=ko h2.2
  exact HB {h with ce:=hc,ep:=⟨by simp only;omega,by simp only;omega⟩}
 exact h
theorem Rx {d:aw} (h:DP d):DP (sh d):=by
 rw[sh]
 cases e:eqB d.aG 2
 .exact h
 have e:=fx e
 exact {h with st:=⟨by simp,by simp⟩,k:=λ_=>h.k (by omega)}
theorem Pa {k r q:Int} (h0:0<=q) (h1:q<=999999):1<=(vec k r q).eR/\(vec k r q).eR<=2147483646:=by
 rw[vec,bu.2 ⟨h0,h1⟩];exact Oj _ _
theorem xA {m:aR} (h:ey m=true):(1<=m.aS/\m.aS<=8)/\(0<=m.aE/\m.aE<=5)/\(0<=m.ag/\m.ag<=999999)/\(0<=m.aF/\m.aF<=999999)/\0<=m.bI/\m.bI<=1000000000000:=by
 simp only[ey,v0,bu] at h;exact h
theorem U7 {d:aw} (h:DP d) {m:aR} (hm:ey m=true) (h1:d.aG=1):DP (yA d m).aJ:=by
 obtain⟨_,_,hg,_⟩:=xA hm
 have hu:=Ux d.cZ.eR m.cO.gN m.cO.lp
 have hk:=Pa (k:=d.cZ.eR) (r:=m.cO.gN) hu.1 hu.2
 rw[yA]
 cases eqB (jm d.cZ.eR d.cZ.df m.cO) 0
 .exact h
 refine {h with card:=?_,gn:=hg,rk:=⟨by simp only[cond_true];omega,by simp only[cond_true];omega⟩,k:=λe=>by simp only[cond_true] at e;omega}
 have hc:=h.card
 simp only[yr,v0] at hc ⊢
 exact⟨hc.1,hc.2.1,bu.2 hu⟩
theorem Vb {d:aw} (h:DP d) (m:aR):DP (ia d m).aJ:=by
 have he:=h.ep
 rw[ia]
 cases h1:!ey m||(!eqB m.aE d.aE||eqB d.aG 0)
 .have hm:ey m=true:=by revert h1;cases ey m<;>simp
  obtain⟨_,_,hg,hep,_⟩:=xA hm
  simp only[cond_false]
  cases h2:eqB m.aS 2&&eqB d.aG 1
  .simp only[cond_false]
   cases h4:eqB m.aS 4&&(eqB d.aG 1&&(mf d.aV&&(eqB m.ag d.ag&&lN d.aV m)))
   .simp only[cond_false]
    cases h6:eqB m.aS 6&&(eqB d.aG 2&&(eqB m.ag d.ag&&(eqB m.aF d.aF&&lN d.aV m)))
    .simp only[cond_false]
     cases h7:eqB m.aS 7&&(eqB d.aG 3&&ltB d.aF 999999)
     .simp only[cond_false]
      cases h8:eqB m.aS 7&&eqB d.aG 2
      .exact h
      exact HB h
     simp only[v0] at h7
     have h3:=fx h7.2.1
     have:=ko h7.2.2
     exact HB {h with st:=⟨by simp,by simp⟩,ep:=⟨by simp only;omega,by simp only;omega⟩,k:=λ_=>h.k (by omega)}
    exact {h with}
   simp only[v0] at h4
   exact {h with st:=⟨by simp,by simp⟩,ep:=hep,k:=λ_=>h4.2.2.1}
  rw[v0] at h2
  exact U7 h hm (fx h2.2)
 exact h
theorem yE:∀(xs:List an) (n:Int) (dl:List bm),∃t d,xs=t++d/\tT xs n dl=⟨n+t.length,d,dl++t.map λx=>⟨x.a8⟩⟩/\(∀(k:Nat) (x:an),t[k]?=some x->x.cQ=n+k)/\((∃y ys,d=y::ys/\(y.cQ≠n+t.length\/24<=dl.length+t.length))\/d=[])/\(t≠[]->dl.length+t.length<=24)
 |[],n,dl=>⟨[],[],rfl,by simp[tT],by simp,.inr rfl,by simp⟩
 |x::xs,n,dl=>by
  rw[tT]
  by_cases h:x.cQ=n/\dl.length<24
  .rw[if_pos h]
   obtain⟨t,d,e1,e2,e3,e4,e5⟩:=yE xs (n+1) (dl++[⟨x.a8⟩])
   refine⟨x::t,d,by rw[e1];rfl,?_,λk y hy=>?_,?_,λ_=>?_⟩
   .rw[e2];simp;omega
   .cases k with
    |zero=>simp at hy;subst hy;simp;exact h.1
    |succ k=>have:=e3 k y (by simpa using hy);rw[this];omega
   .rcases e4 with⟨y,ys,e,h4⟩|e
    .left;refine⟨y,ys,e,?_⟩
     simp only[Y8,aa4,YY,aaI] at h4 ⊢
     rcases h4 with h4|h4
     .left;omega
     right;omega
    exact .inr e
   simp only[YY]
   by_cases ht:t=[]
   .subst ht;simp;omega
   have:=e5 ht;simp at this;omega
  rw[if_neg h]
  refine⟨[],x::xs,rfl,by simp,by simp,.inl ⟨x,xs,rfl,?_⟩,by simp⟩
  simp only[aaI]
  by_cases hx:x.cQ=n
  .right;have:¬dl.length<24:=λhl=>h ⟨hx,hl⟩;omega
  left;omega
structure RcV (r:aX):Prop where
 n:r.bb=(r.bj.length:Int)+1
 l:r.bj.length<=24
 d:∀p∈r.bj,p.a8.length<=60
 pl:r.aO.length<=8
 pr:∀x∈r.aO,r.bb+1<=x.cQ/\x.cQ<=r.bb+7/\x.a8.length<=60
 po:r.aO.Pairwise λx y=>x.cQ<y.cQ
theorem lM {r:aX}:s8 r=true↔RcV r:=by
 constructor
 .intro h
  have hl:=xH h
  simp only[s8,v0,CA,YX,sr,eb] at h
  obtain⟨h1,h2,h3,h4,h5⟩:=h
  have hp:∀(k:Nat) (x:an),r.aO[k]?=some x->(r.bb+1<=x.cQ/\x.cQ<=r.bb+7)/\lc an.cQ r.aO k x=true/\x.a8.length<=60:=λk x hx=>by
   have:=h5 k x hx
   simp only[Em,v0,bu,sr] at this
   rw[bP (n:=r.bb+1) oaa,bP (n:=r.bb+8) oaa,bP (n:=r.bb+8-1) oaa] at this
   exact⟨by omega,this.2⟩
  refine⟨hl.1,hl.2.1,h3,hl.2.2,λx hx=>?_,FJ λk x hx=>(hp k x hx).2.1⟩
  obtain⟨k,hk⟩:=Y4 hx
  have:=hp k x hk
  exact⟨this.1.1,this.1.2,this.2.2⟩
 rintro⟨h1,h2,h3,h4,h5,h6⟩
 simp only[s8,v0,CA,YX,sr,eb]
 refine⟨eqB_t.2 (by rw[bP oaa];exact h1),leB_t.2 oaa,h3,leB_t.2 oaa,λk x hx=>?_⟩
 have:=h5 x (YS hx)
 simp only[Em,v0,bu,sr]
 rw[bP (n:=r.bb+1) oaa,bP (n:=r.bb+8) oaa,bP (n:=r.bb+8-1) oaa]
 exact⟨by omega,CN h6 hx,this.2.2⟩
attribute [local simp] bB aQ bk
theorem Ns {α:Type} {key:α->Int}:∀{xs:List α} {a b:Int},(xs.Pairwise λx y=>key x<key y)->(∀x∈xs,a<=key x/\key x<=b)->(xs.length:Int)<=max 0 (b-a+1)
 |[],a,b,_,_=>by simp;omega
 |x::xs,a,b,h,hr=>by
  have hx:=hr x (by simp)
  have ih:=Ns (xs:=xs) (a:=key x+1) (b:=b) (aaK.1 h).2 λy hy=>⟨by have:=(aaK.1 h).1 y hy;omega,(hr y (by simp[hy])).2⟩
  simp only[YY];omega
theorem WK {x:an}:∀{xs:List an},(xs.Pairwise λa b=>a.cQ<b.cQ)->∀y∈xs.dropWhile (before x.cQ),x.cQ<=y.cQ
 |[],_,y,hy=>by simp at hy
 |z::xs,h,y,hy=>by
  rw[List.dropWhile_cons] at hy
  cases hb:before x.cQ z<;>rw[hb] at hy
  .have hz:=nO hb
   rcases YU.1 hy with e|hy
   .subst e;exact hz
   have:=(aaK.1 h).1 y hy;omega
  exact WK (aaK.1 h).2 y hy
theorem Uv {α:Type} (p:α->Bool):∀(xs:List α) (y:α),y∈xs.takeWhile p->p y=true
 |[],y,h=>by simp at h
 |x::xs,y,h=>by
  rw[aa3] at h
  cases hp:p x<;>rw[hp] at h
  .simp at h
  rcases YU.1 h with e|h
  .subst e;exact hp
  exact Uv p xs y h
theorem tw_lt {q:Int} {xs:List an}:∀y∈xs.takeWhile (before q),y.cQ<q:=λy hy=>ko (show ltB y.cQ q=true from Uv (before q) xs y hy)
theorem Sy {x:an} {xs:List an} (h:xs.Pairwise λa b=>a.cQ<b.cQ) (hn:∀y∈xs,y.cQ≠x.cQ):(rC x xs).Pairwise λa b=>a.cQ<b.cQ:=by
 have e:=aa2 (p:=before x.cQ) (l:=xs)
 rw[<-e,aaL] at h
 obtain⟨h1,h2,h3⟩:=h
 rw[rC,Zr,aaL]
 refine⟨h1,aaK.2 ⟨λy hy=>?_,h2⟩,λa ha b hb=>?_⟩
 .have hm:y∈xs:=aa8 _ hy
  have:=hn y hm
  have hge:x.cQ<=y.cQ:=by
   have hs:xs.Pairwise λa b=>a.cQ<b.cQ:=by rw[<-e,aaL];exact⟨h1,h2,h3⟩
   exact WK hs y hy
  omega
 rcases YR.1 hb with hb|hb
 .simp at hb;subst hb;exact tw_lt a ha
 exact h3 a ha b hb
theorem ub {x y:an} {xs:List an}:y∈rC x xs↔y=x\/y∈xs:=by
 rw[rC]
 constructor
 .intro h
  simp only[YR,ZS] at h
  rcases h with(h|h)|h
  .exact .inr (abk _ h)
  .exact .inl h
  exact .inr (aa8 _ h)
 rintro(h|h)
 .simp[h]
 rw[<-aa2 (p:=before x.cQ) (l:=xs)] at h
 simp only[YR,ZS] at h ⊢
 rcases h with h|h
 .exact .inl (.inl h)
 exact .inr h
theorem vy {r:aX} (h:RcV r) {x:an} (hl:yN r x=false):
 ∃t d,rC x r.aO=t++d/\(∀(k:Nat) (y:an),t[k]?=some y->y.cQ=r.bb+k)/\(iu r x).bb=r.bb+t.length/\(iu r x).bj=r.bj++t.map (λy=>⟨y.a8⟩)/\RcV (iu r x)/\
  ((iu r x).aO=d\/(iu r x).aO=[])/\r.bj.length+t.length<=24/\(x.cQ=r.bb->t≠[]):=by
 obtain⟨t,d,e1,e2,e3,e4,e5⟩:=yE (rC x r.aO) r.bb r.bj
 have hl2:=hl
 simp only[yN,Y2,aaM] at hl
 obtain⟨l1,l2,l3,l4,l5⟩:=hl
 have l2:=nO l2
 rw[bu] at l3
 have l5:=tD l5
 have hn:∀y∈r.aO,y.cQ≠x.cQ:=λy hy=>by
  rw[Z8] at l4
  have:=l4 y hy
  simpa [eqB] using this
 have hasc:=Sy h.po hn
 have hrng:∀y∈rC x r.aO,r.bb<=y.cQ/\y.cQ<=r.bb+7/\y.a8.length<=60:=λy hy=>by
  rcases ub.1 hy with rfl|hy
  .exact⟨l3.1,l3.2,by omega⟩
  have:=h.pr y hy;exact⟨by omega,by omega,this.2.2⟩
 have hlen:=Ns (key:=an.cQ) hasc (a:=r.bb) (b:=r.bb+7) λy hy=>⟨(hrng y hy).1,(hrng y hy).2.1⟩
 have htl:r.bj.length+t.length<=24:=by
  by_cases ht:t=[]
  .subst ht;have:=h.l;simp;omega
  exact e5 ht
 have hd:∀y∈d,r.bb+t.length<=y.cQ:=λy hy=>by
  by_cases ht:t=[]
  .subst ht
   have:=(hrng y (by rw[e1];simp[hy])).1
   simp;omega
  obtain⟨k,hk⟩:∃k,t.length=k+1:=⟨t.length-1,by have:=List.length_pos_iff.2 ht;omega⟩
  obtain⟨z,hz⟩:∃z,t[k]?=some z:=⟨_,YO (show k<t.length by omega)⟩
  have:=e3 k z hz
  rw[e1,aaL] at hasc
  have:=hasc.2.2 z (YS hz) y hy
  omega
 have hdl:(r.bj++t.map λy=>(⟨y.a8⟩:bm)).length=r.bj.length+t.length:=by simp
 have hdata:∀p∈r.bj++t.map λy=>(⟨y.a8⟩:bm),p.a8.length<=60:=λp hp=>by
  rcases YR.1 hp with hp|hp
  .exact h.d p hp
  obtain⟨y,hy,rfl⟩:=ZQ.1 hp
  exact(hrng y (by rw[e1];simp[hy])).2.2
 have hnx:=h.n
 have hsome:x.cQ=r.bb->t≠[]:=λe ht=>by
  subst ht
  simp only[ZR] at e1
  rcases e4 with⟨y,ys,e,h4⟩|e
  .simp only[aaI] at h4
   have hy:y.cQ<=x.cQ:=by
    have hx:x∈d:=by rw[<-e1];exact ub.2 (.inl rfl)
    rw[e] at hx
    rcases YU.1 hx with e'|hx
    .rw[e'];omega
    rw[e1,e] at hasc
    have:=(aaK.1 hasc).1 x hx
    omega
   have:=(hrng y (by rw[e1,e];simp)).1
   rcases h4 with h4|h4<;>omega
  have:(rC x r.aO).length=0:=by rw[e1,e];rfl
  rw[wP] at this;omega
 refine⟨t,d,e1,e3,?_⟩
 rw[iu,hl2]
 simp only[cond_false,e2,hdl]
 cases h24:leB 24 ((r.bj.length+t.length:Nat):Int)
 .have h24:=tD h24
  simp only[cond_false]
  refine⟨trivial,trivial,⟨by simp only[hdl];omega,by simp only[hdl];omega,hdata,?_,λy hy=>?_,?_⟩,.inl trivial,htl,hsome⟩
  .have:t.length+d.length=(rC x r.aO).length:=by rw[e1];simp
   simp only;omega
  .have h1:=hrng y (by rw[e1];simp[hy])
   have h2:=hd y hy
   refine⟨?_,by simp only;omega,h1.2.2⟩
   simp only
   rcases e4 with⟨z,zs,e,h4⟩|e
   .have hz:=hd z (by rw[e];simp)
    have hzn:z.cQ≠r.bb+t.length:=by rcases h4 with h4|h4;exact h4;omega
    rw[e] at hy
    rcases YU.1 hy with e'|hy'
    .rw[e'];omega
    rw[e1,e,aaL] at hasc
    have:=(aaK.1 hasc.2.1).1 y hy'
    omega
   rw[e] at hy;simp at hy
  rw[e1,aaL] at hasc
  exact hasc.2.1
 have h24:=sb h24
 simp only[cond_true]
 exact⟨trivial,trivial,⟨by simp only[hdl];omega,by simp only[hdl];omega,hdata,by simp,by simp,.nil⟩,.inr trivial,htl,hsome⟩
theorem Ul {r:aX} (h:RP r) {x:an} (hx:okB x.a8):RP (iu r x):=by
 cases hl:yN r x
 .have hv:=lM.1 h.v
  obtain⟨t,d,e1,e3,e4,e5,e6,e7,e8,e9⟩:=vy hv hl
  have hb:∀y∈t++d,okB y.a8:=λy hy=>by
   rw[<-e1] at hy
   rcases ub.1 hy with rfl|hy
   .exact hx
   exact h.b1 y hy
  refine⟨K5 h.ok x,lM.2 e6,λy hy=>?_,λp hp=>?_⟩
  .rcases e7 with e|e<;>rw[e] at hy
   .exact hb y (by simp[hy])
   simp at hy
  rw[e5] at hp
  rcases YR.1 hp with hp|hp
  .exact h.b2 p hp
  obtain⟨y,hy,rfl⟩:=ZQ.1 hp
  exact hb y (by simp[hy])
 rw[iu,hl];exact h
theorem Tt (root g e:Int) (x:aK):okB (lE root g e x).1.a8:=by
 rw[lE];split
 .exact Vd _ _
 intro y hy;simp[bG] at hy
theorem U9 {d:aw} (h:DP d) (x:aK):DP (js d x).aJ:=by
 simp only[js]
 cases eqB d.aG 2&&(lE d.aV d.ag d.aF x).2
 .exact h
 exact {h with rc:=Ul h.rc (Tt _ _ _ _)}
attribute [local simp] bB aQ bk
theorem UQ:n9 eB=true:=by decide+kernel
theorem F6 {k:Int}:∀{xs:List an} {f:Int},(∀(i:Nat) (x:an),xs[i]?=some x->x.cQ=f+i)->(xs.filter λx=>leB k x.cQ)=xs.drop (k-f).toNat
 |[],f,_=>by simp
 |x::xs,f,h=>by
  have hx:x.cQ=f:=by have:=h 0 x rfl;simpa using this
  have ih:=F6 (k:=k) (xs:=xs) (f:=f+1) λi y hy=>by have:=h (i+1) y (by simpa using hy);rw[this];omega
  rw[aaW,hx]
  by_cases hk:k<=f
  .rw[leB_t.2 hk,if_pos rfl,ih,show(k-f).toNat=0 by omega,show(k-(f+1)).toNat=0 by omega];rfl
  rw[leB_f.2 oaa,if_neg (by simp),ih,show(k-f).toNat=(k-(f+1)).toNat+1 by omega];rfl
theorem AI {w:bh} (h:WOK w) {k:Int} (hk:ltB w.bb k=false):lO w k=⟨w.bb,w.aD.drop (k-(w.bb-w.aD.length)).toNat⟩:=by
 rw[lO,hk,F6 (f:=w.bb-w.aD.length) λi x hx=>(h.u i x hx).1];rfl
theorem Jd {w:bh} (h:WOK w) (k:Int):WOK (lO w k):=by
 cases hk:ltB w.bb k
 .have hl:=h.l
  have hf:=h.f
  have hn:=h.n
  rw[AI h hk]
  generalize (k-(w.bb-w.aD.length)).toNat=m
  refine⟨hn,by simp;omega,by simp;omega,λi x hx=>?_⟩
  simp only at hx ⊢
  rw[List.getElem?_drop] at hx
  have hi:=(YP.1 hx).1
  have:=h.u _ x hx
  rw[List.length_drop]
  omega
 rw[lO,hk];exact h
theorem y8 (w:bh) (k:Int):∀x∈(lO w k).aD,x∈w.aD:=λx hx=>by
 rw[lO] at hx;revert hx
 cases ltB w.bb k
 .exact λhx=>(ZZ.1 hx).1
 exact id
theorem Q4 {w:bh} (h:WOK w) (k:Int):0<=fY (lO w k).aD/\fY (lO w k).aD<=fY w.aD:=by
 have h1:=AB λx hx=>h.d x (y8 w k x hx)
 refine⟨h1.1,?_⟩
 cases hk:ltB w.bb k
 .have:=Hk h hk
  have h2:=AB (xs:=w.aD.filter λx=>ltB x.cQ k) λx hx=>h.d x (ZZ.1 hx).1
  omega
 rw[lO,hk];exact aaF _
theorem LK {q:dh} {n:Int} (h:0<=n/\n<=q.cB-q.d4):uM q n={q with d4:=q.d4+n}:=by rw[uM,bu.2 h];rfl
theorem GK {s:ae} {a:av} (h:SG s a) (k:Int):SG (jJ s k) a/\(jJ s k).bC={s.bC with d4:=s.bC.d4+(fY s.aq.aD-fY (lO s.aq k).aD)}:=by
 have hs:=Q4 h.sp.win k
 have hp:=h.sp.pd
 have hq:=h.sp.q
 have e:(jJ s k).bC={s.bC with d4:=s.bC.d4+(fY s.aq.aD-fY (lO s.aq k).aD)}:=LK ⟨by omega,by omega⟩
 have hu:=hq.u
 have hg:=hq.g
 have hq':QOK (jJ s k).bC:=by rw[e];exact⟨hq.i,by simp only;omega,by simp only;omega,hq.m⟩
 refine⟨⟨{h.sp with ok:=⟨h.sp.ok.1,h.sp.ok.2.1,(Jd h.sp.win k).ok⟩,win:=Jd h.sp.win k,q:=hq',qu:=⟨by simp[jJ],by simp[jJ]⟩,nx:=?_,un:=λx hx=>h.sp.un x (y8 _ _ x hx),pd:=?_},h.b1,λx hx=>h.b2 x (y8 _ _ x hx),⟨h.mo.acc,hq',?_⟩⟩,e⟩
 .have:(jJ s k).aq.bb=s.aq.bb:=by simp only[jJ,lO];cases ltB s.aq.bb k<;>rfl
  rw[this];exact h.sp.nx
 .rw[e];simp only[jJ];omega
 rw[e];exact h.mo.res
theorem V8 {s:ae} {a:av} (h:SG s a) (m:aR):SG (xT s m).az a:=by
 have hr:=OS h.sp.rcd
 simp only[xT]
 cases he:eqB s.be.cQ 999999
 .have he:=Cd he
  have hk:=Pa (k:=s.be.eR) (r:=vQ s.be.ID (s.be.cQ+1)) (q:=s.be.cQ+1) oaa oaa
  refine⟨{h.sp with rcd:=?_,k2:=λ_=>?_,ps:=⟨by simp only[cond_false];omega,by simp only[cond_false];omega⟩},h.b1,h.b2,h.mo⟩
  .have hc:=h.sp.rcd
   simp only[uC,v0] at hc
   simp only[cond_false,uC,v0]
   exact⟨hc.1,hc.2.1,bu.2 oaa⟩
  exact bu.2 hk
 exact h
theorem V7 {s:ae} {a:av} (h:SG s a) {c:Int} (hc:0<=c/\c<=5) (hp:0<s.bi) (he:s.aF<999999):SG (mH s c) a:=by
 have hk:=h.sp.k2 hp
 have hkr:=bu.1 hk
 have hep:=h.sp.ep
 exact⟨{h.sp with page:=UQ,st:=⟨by simp[mH],by simp[mH]⟩,k1:=λ_=>hk,k2:=λe=>by simp[mH] at e,ps:=⟨by simp[mH],by simp[mH]⟩,gn:=h.sp.ps,ep:=⟨by simp only[mH];omega,by simp only[mH];omega⟩,rk:=⟨by simp only[mH];omega,by simp only[mH];omega⟩,ce:=hc,qu:=⟨by simp[mH],by simp[mH]⟩},h.b1,h.b2,h.mo⟩
theorem TZ {s:ae} {a:av} (h:SG s a) {m:aR} (hm:ey m=true):SG (qk s m).az a:=by
 obtain⟨_,hc,_⟩:=xA hm
 rw[qk]
 cases hb:leB s.bi 0||(!eqB m.ag s.bi||(!eqB m.bI s.aO.xW||leB 999999 s.aF))
 .simp only[Y2] at hb
  exact V7 h hc (tD hb.1) (tD hb.2.2.2)
 exact h
theorem TY {s:ae} {a:av} (h:SG s a) {m:aR} (hm:ey m=true):SG (md s m).az a:=by
 obtain⟨_,hc,_,he,_⟩:=xA hm
 rw[md]
 cases !f6 s m||(ltB m.aF s.aF||(eqB m.aF s.aF&&!eqB m.aE s.aE))
 .exact⟨{h.sp with page:=UQ,ep:=he,ce:=hc,qu:=⟨by simp[oG],by simp[oG]⟩,rt:=⟨by simp[oG],by simp[oG]⟩},h.b1,h.b2,h.mo⟩
 exact h
theorem V6 {s:ae} {a:av} (h:SG s a) (m:aR):SG (um s m).az a:=by
 rw[um]
 cases !f6 s m||ltB s.aq.bb m.bI
 .exact(GK h m.bI).1
 exact h
theorem Yk {s:ae} {a:av} (h:SG s a) (m:aR):SG (sUp s m).az a:=by
 rw[sUp]
 cases hm:ey m
 .exact h
 cases eqB m.aS 1
 .cases eqB m.aS 3
  .cases eqB m.aS 5
   .cases eqB m.aS 8
    .exact h
    exact V6 h m
   exact TY h hm
  exact TZ h hm
 exact V8 h m
theorem TX {s:ae} {a:av} (h:SG s a):SG (lg s) a:=
 ⟨{h.sp with page:=UQ,k2:=λe=>by simp[lg] at e,ps:=⟨by simp[lg],by simp[lg]⟩,qu:=⟨by simp[lg],by simp[lg]⟩,rt:=⟨by simp[lg],by simp[lg]⟩},h.b1,h.b2,h.mo⟩
theorem V9 {s:ae} {a:av} (h:SG s a) {b:List Int} (hb:okB b):SG (mS s b).1 a:=by
 rw[mS]
 cases h1:leB 24 (s.ax.length:Int)||ltB 60 (b.length:Int)
 .simp only[Y2] at h1
  have h2:=tD h1.1
  have h3:=nO h1.2
  have hnx:=h.sp.nx
  refine⟨{h.sp with ok:=⟨h.sp.ok.1,⟨by simp;omega,λp hp=>?_⟩,h.sp.ok.2.2⟩,sl:=by simp;omega,sd:=λp hp=>?_,nx:=by simp;omega,un:=λx hx=>?_},λp hp=>?_,h.b2,h.mo⟩
  .rcases YR.1 hp with hp|hp
   .exact h.sp.ok.2.1.2 p hp
   simp at hp;subst hp;exact⟨by simp only;omega,λ_ _=>trivial⟩
  .rcases YR.1 hp with hp|hp
   .exact h.sp.sd p hp
   simp at hp;subst hp;simp only;omega
  .have hu:=h.sp.un x hx
   have hs:=M6 h.sp.win hx
   simp only[K4,cond_false] at hu ⊢
   rw[YZ oaa]
   exact hu
  rcases YR.1 hp with hp|hp
  .exact h.b1 p hp
  simp at hp;subst hp;exact hb
 exact h
theorem Uo {p:cL} (ha:0<=p.fJ/\p.fJ<=2) (hp:POK p) (m:aU):n9 (mQ p m).1=true:=by
 have h1:=hp.a
 have h2:=hp.w
 rw[mQ]
 simp only[n9,v0,bu]
 cases hb:ltB 0 p.di
 .simp only[cond_false]
  refine⟨ha,?_,by omega⟩
  cases hc:ltB p.dt 4
  .simp
  have:=ko hc
  simp only[cond_true];omega
 have:=ko hb
 simp only[cond_true];omega
theorem nQ {p:cL} (h:n9 p=true):POK p:=by
 simp only[n9,v0,bu] at h;exact⟨h.2.1,h.2.2⟩
theorem Pj {m:aU} (h:oI m=true) (c:Int):0<=iB m c/\iB m c<=2:=by
 rw[iB]
 cases hc:ew m c
 .simp
 obtain⟨d,_,_,h2⟩:=CG hc
 simp only[oI,v0,eb] at h
 have:=h.2 _ d h2
 simp only[xg,v0,bu] at this
 rw[h2];exact this.1
theorem xc {s:ae} {a:av} (h:SG s a) {m:aU} (hm:oI m=true):SG (bF s a m).az (bF s a m).cy:=by
 rw[bF]
 cases eqB s.aG 1
 .exact h
 simp only[au]
 have hq:=uh h.sp
 cases ltB 4 (eE s)
 .exact EG 2 _ _ _ (h.upd hq (uj h.sp))
 have h1:=h.upd hq h.sp.rt
 have hp:=nQ h.sp.page
 exact⟨{h1.sp with page:=Uo (p:={s.eo with fJ:=iB m s.aE}) (Pj hm _) ⟨hp.a,hp.w⟩ m},h1.b1,h1.b2,h1.mo⟩
attribute [local simp] bB aQ bk
structure FP (nd nc:Nat) (f:a9):Prop where
 d:0<=f.aJ/\f.aJ<nd
 c:0<=f.aE/\f.aE<nc
 b:okB f.b6.cj.a8
 ok:mP f
structure MP (nc:Nat) (i:Nat) (d:aw) (s:ae) (a:av):Prop where
 dp:DP d
 dc:d.aE<nc
 sg:SG s a
 sc:s.aE<nc
 si:s.bC.aC=i
 ids:Fm d s=true
structure NP (B:Int) (n:ab):Prop where
 map:oI n.bX=true
 mok:gR n.bX
 core:oc n.eD=true
 up:n.eD.f7≠0
 ld:n.ah.length<=4
 ls:n.aj.length=n.ah.length
 la:n.aB.length=n.ah.length
 m:∀(i:Nat) d s a,n.ah[i]?=some d->n.aj[i]?=some s->n.aB[i]?=some a->MP n.bX.aZ.length i d s a
 fl:n.aA.length<=200
 fs:∀f∈n.aA,FP n.ah.length n.bX.aZ.length f
 dn:inR n.bp 0 (WR ((mW .i64 1 (n.bX.aZ.length:Int))-1))=true
 nw:0<=n.gZ/\n.gZ<=100000
 lo:0<=n.Lost/\n.Lost<=B
theorem iw {m:aU} (h:oI m=true):1<=m.aZ.length/\m.aZ.length<=6:=by
 simp only[oI,v0,bu] at h;omega
theorem NP.at_ {B:Int} {n:ab} (h:NP B n) {i:Nat} (hi:i<n.ah.length):∃d s a,n.ah[i]?=some d/\n.aj[i]?=some s/\n.aB[i]?=some a/\MP n.bX.aZ.length i d s a:=by
 have h1:=h.ls
 have h2:=h.la
 obtain⟨d,hd⟩:∃d,n.ah[i]?=some d:=⟨_,YO hi⟩
 obtain⟨s,hs⟩:∃s,n.aj[i]?=some s:=⟨_,YO (show i<n.aj.length by omega)⟩
 obtain⟨a,ha⟩:∃a,n.aB[i]?=some a:=⟨_,YO (show i<n.aB.length by omega)⟩
 exact⟨d,s,a,hd,hs,ha,h.m i d s a hd hs ha⟩
theorem NP.mono {B B':Int} {n:ab} (h:NP B n) (hb:B<=B'):NP B' n:={h with lo:=⟨h.lo.1,by have:=h.lo.2;omega⟩}
def dP (n:ab) (f:a9):ab:=bif leB 200 (n.aA.length:Int) then {n with Lost:=WR (n.Lost+1)} else {n with aA:=n.aA++[f]}
theorem VN {n:ab} {f:a9} (hf:mP f):rT n f=some (dP n f):=by
 simp only[rT,R7 hf,aaE,dP]
 cases hb:leB 200 (n.aA.length:Int)
 .have:=tD hb
  rw[ec oaa (by simp;omega)];rfl
 rfl
theorem z0 {n:ab} {f:a9} (hf:mP f):pz n f=some (dP n f):=by
 simp only[pz,F7 hf,aaE,dP]
 cases hb:leB 200 (n.aA.length:Int)
 .have:=tD hb
  rw[ec oaa (by simp;omega)];rfl
 rfl
theorem yR {B:Int} {n:ab} (h:NP B n) {f:a9} (hf:FP n.ah.length n.bX.aZ.length f) (hB:B<4611686018427387904):NP (B+1) (dP n f):=by
 have hl:=h.lo
 rw[dP]
 cases hb:leB 200 (n.aA.length:Int)
 .have hb:=tD hb
  refine {h.mono (show B<=B+1 by omega) with fl:=by simp;omega,fs:=λg hg=>?_}
  rcases YR.1 hg with hg|hg
  .exact h.fs g hg
  simp at hg;subst hg;exact hf
 exact {h.mono (show B<=B+1 by omega) with lo:=by simp only[cond_true];rw[bP oaa];omega}
theorem fQ (n:ab) (f:a9):(dP n f).ah=n.ah/\(dP n f).aj=n.aj/\(dP n f).aB=n.aB/\(dP n f).bX=n.bX/\(dP n f).bp=n.bp/\(dP n f).eD=n.eD/\(dP n f).gZ=n.gZ:=by
 rw[dP];cases leB 200 (n.aA.length:Int)<;>exact⟨rfl,rfl,rfl,rfl,rfl,rfl,rfl⟩
def sends (n:ab) (l:List a9):ab:=l.foldl dP n
theorem cU:∀(l:List a9) (n:ab),(sends n l).ah=n.ah/\(sends n l).aj=n.aj/\(sends n l).aB=n.aB/\(sends n l).bX=n.bX/\(sends n l).bp=n.bp/\(sends n l).eD=n.eD/\(sends n l).gZ=n.gZ
 |[],n=>⟨rfl,rfl,rfl,rfl,rfl,rfl,rfl⟩
 |f::l,n=>by
  have h1:=fQ n f
  have h2:=cU l (dP n f)
  have e:sends n (f::l)=sends (dP n f) l:=rfl
  rw[e,h2.1,h2.2.1,h2.2.2.1,h2.2.2.2.1,h2.2.2.2.2.1,h2.2.2.2.2.2.1,h2.2.2.2.2.2.2];exact h1
theorem xe:∀(l:List a9) {B:Int} {n:ab},NP B n->(∀f∈l,FP n.ah.length n.bX.aZ.length f)->B+l.length<4611686018427387904->NP (B+l.length) (sends n l)
 |[],B,n,h,_,_=>by simpa [sends] using h
 |f::l,B,n,h,hf,hB=>by
  simp only[YY] at hB ⊢
  have h1:=yR h (hf f (by simp)) oaa
  have hk:=fQ n f
  have:=xe l h1 (λg hg=>by rw[hk.1,hk.2.2.2.1];exact hf g (by simp[hg])) oaa
  rw[show B+((l.length+1:Nat):Int)=B+1+(l.length:Int) by omega]
  exact this
theorem xo (g:ab->a9->Option ab) {α:Type} (mk:α->a9) (hg:∀n x,g n (mk x)=some (dP n (mk x))):∀(l:List α) (n:ab),kN (λ(n:ab) x=>aaC (g n (mk x)) λr=>some (cK.next (ρ:=ab) r)) some l n=some (sends n (l.map mk))
 |[],n=>rfl
 |x::l,n=>by rw[kN,hg];exact xo g mk hg l _
def b9 (i:Int) (up:Bool) (m:aR):a9:=⟨i,up,false,m.aE,m,gx⟩
def lL (i c:Int) (x:aK):a9:=⟨i,false,true,c,fG,x⟩
theorem Pd:nP gx:=⟨by decide,λ_ _=>trivial⟩
theorem CS (i:Int) (up:Bool) (m:aR):mP (b9 i up m):=Pd
theorem RJ (n:ab) (i:Int) {l:List aR} (hl:l.length<=1048576):kc n i l=some (sends n (l.map (b9 i false))):=by
 have:=fP (step:=jk i l) l (λk n=>((k:Int),n)) (λn x=>aaC (pz n (b9 i false x)) λr=>some (.next r)) some oaa
  (λk x n hx hk=>by
   simp only[jk,dm hk,bk,hx,cp (show k<9223372036854775807 by omega),au]
   rw[show({bU with aJ:=i,aE:=x.aE,aM:=x}:a9)=b9 i false x from rfl]
   cases pz n (b9 i false x)<;>rfl) (λn=>by simp[jk]) n
 rw[xo pz (b9 i false) (λn x=>z0 (CS i false x))] at this
 rw[kc,show iter (jk i l) FU (0,n)=_ from this];rfl
def dM (n:ab) (i:Nat) (r:bg):ab:=sends {n with ah:=n.ah.set i r.aJ} (r.bL.map (b9 i true))
theorem w8 {n:ab} {i:Nat} (hi:i<n.ah.length) {r:bg} (hr:r.bL.length<=1048576):fw n (i:Int) r=some (dM n i r):=by
 have:=fP (step:=jT (i:Int) r) r.bL (λk n=>((k:Int),n)) (λn x=>aaC (pz n (b9 i true x)) λr=>some (.next r)) some oaa
  (λk x n hx hk=>by
   simp only[jT,dm hk,bk,hx,cp (show k<9223372036854775807 by omega),b9,au]
   cases pz n ⟨i,true,false,x.aE,x,gx⟩<;>rfl) (λn=>by simp[jT]) {n with ah:=n.ah.set i r.aJ}
 rw[xo pz (b9 (i:Int) true) (λn x=>z0 (CS _ true x))] at this
 simp only[fw,bk,YO hi,aaE,aaH,dM]
 rw[show iter (jT (i:Int) r) FU (0,{n with ah:=n.ah.set i r.aJ})=_ from this];rfl
theorem Ix {nd nc:Nat} {i:Nat} (hi:i<nd) {up:Bool} {m:aR} (hm:0<=m.aE/\m.aE<nc):FP nd nc (b9 i up m):=
 ⟨by simp only[b9];omega,hm,λx hx=>by simp[b9,gx,oJ] at hx,CS _ _ _⟩
theorem gI {α:Type} {xs:List α} {i j:Nat} {x y:α} (h:(xs.set i x)[j]?=some y):(i=j/\x=y)\/(i≠j/\xs[j]?=some y):=by
 rw[aaq] at h
 by_cases e:i=j
 .rw[if_pos e] at h
  split at h
  .cases h;exact .inl ⟨e,rfl⟩
  cases h
 rw[if_neg e] at h;exact .inr ⟨e,h⟩
theorem NP.setM {B:Int} {n:ab} (h:NP B n) {i:Nat} {d:aw} {s:ae} {a:av} (hm:MP n.bX.aZ.length i d s a):
 NP B {n with ah:=n.ah.set i d,aj:=n.aj.set i s,aB:=n.aB.set i a}:=by
 have h1:=h.ls
 have h2:=h.la
 refine {h with ld:=by simpa using h.ld,ls:=by simpa using h1,la:=by simpa using h2,m:=λj d' s' a' hd hs ha=>?_,fs:=λf hf=>by rw[List.length_set];exact h.fs f hf}
 rcases gI hd with⟨e1,e2⟩|⟨e1,e2⟩<;>rcases gI hs with⟨e3,e4⟩|⟨e3,e4⟩<;>rcases gI ha with⟨e5,e6⟩|⟨e5,e6⟩<;>first|omega|skip
 .subst e1;subst e2;subst e4;subst e6;exact hm
 exact h.m j d' s' a' e2 e4 e6
theorem fk {α:Type} {xs:List α} {i:Nat} {x:α} (h:xs[i]?=some x):xs.set i x=xs:=by
 apply aaQ
 intro j
 rw[aaq]
 by_cases e:i=j
 .subst e;rw[if_pos rfl,if_pos (YP.1 h).1,h]
 rw[if_neg e]
theorem NP.setD {B:Int} {n:ab} (h:NP B n) {i:Nat} {d:aw} {s:ae} {a:av} (hs:n.aj[i]?=some s) (ha:n.aB[i]?=some a) (hm:MP n.bX.aZ.length i d s a):NP B {n with ah:=n.ah.set i d}:=by
 have:=h.setM hm
 rwa [fk hs,fk ha] at this
theorem NP.setS {B:Int} {n:ab} (h:NP B n) {i:Nat} {d:aw} {s:ae} {a:av} (hd:n.ah[i]?=some d) (ha:n.aB[i]?=some a) (hm:MP n.bX.aZ.length i d s a):NP B {n with aj:=n.aj.set i s}:=by
 have:=h.setM hm
 rwa [fk hd,fk ha] at this
attribute [local simp] bB aQ bk
structure DK (c:Int) (d:aw) (r:bg):Prop where
 id:r.aJ.cZ.ID=d.cZ.ID
 key:r.aJ.cZ.eR=d.cZ.eR
 cell:r.aJ.aE=c
 sg:∀m∈r.bL,m.aE=c
 len:r.bL.length<=1
theorem DK.none (d:aw):DK d.aE d ⟨d,[]⟩:=⟨rfl,rfl,rfl,by simp,by simp⟩
theorem U6 (d:aw):DK d.aE d (km d):=⟨rfl,rfl,rfl,by simp[km,eC,kG],by simp[km]⟩
theorem JA {d d':aw} (h:d'.cZ=d.cZ):DK d'.aE d (km d'):=⟨by rw[<-h];rfl,by rw[<-h];rfl,rfl,by simp[km,eC,kG],by simp[km]⟩
theorem mX (d:aw):DK d.aE d (dR d):=by
 rw[dR]
 cases ltB 0 d.di<;>cases eqB d.aG 1<;>cases eqB d.aG 2&&!d.bM<;>exact⟨rfl,rfl,rfl,by simp[gV,eC,kG],by simp⟩
theorem HC (d:aw):DK d.aE d (dOn d):=by
 rw[dOn];cases eqB d.aG 0<;>exact⟨rfl,rfl,rfl,by simp[gV],by simp⟩
theorem zm (d:aw) (m:aR):DK d.aE d (ia d m):=by
 rw[ia]
 cases !ey m||(!eqB m.aE d.aE||eqB d.aG 0)
 .simp only[cond_false]
  cases eqB m.aS 2&&eqB d.aG 1
  .simp only[cond_false]
   cases eqB m.aS 4&&(eqB d.aG 1&&(mf d.aV&&(eqB m.ag d.ag&&lN d.aV m)))
   .simp only[cond_false]
    cases eqB m.aS 6&&(eqB d.aG 2&&(eqB m.ag d.ag&&(eqB m.aF d.aF&&lN d.aV m)))
    .simp only[cond_false]
     cases eqB m.aS 7&&(eqB d.aG 3&&ltB d.aF 999999)
     .simp only[cond_false]
      cases eqB m.aS 7&&eqB d.aG 2
      .exact .none d
      exact U6 d
     exact JA (d:=d) (d':={d with aG:=2,aF:=d.aF+1}) rfl
    exact⟨rfl,rfl,rfl,by simp,by simp⟩
   exact⟨rfl,rfl,rfl,by simp,by simp⟩
  simp only[cond_true,yA]
  cases eqB (jm d.cZ.eR d.cZ.df m.cO) 0<;>exact⟨rfl,rfl,rfl,by simp,by simp⟩
 exact .none d
theorem zl (d:aw) (x:aK):DK d.aE d (js d x):=by
 simp only[js]
 cases eqB d.aG 2&&(lE d.aV d.ag d.aF x).2
 .exact .none d
 exact⟨rfl,rfl,rfl,by simp[qW,kG],by simp⟩
theorem Du (d:aw) (c:Int):DK d.aE d (qg d c)\/(0<=c/\c<=5)/\DK c d (qg d c):=by
 rw[qg]
 cases h:eqB c d.aE||!inR c 0 5
 .simp only[Y2,aaM] at h
  right;refine⟨bu.1 h.2,?_⟩
  simp only[cond_false]
  cases eqB d.aG 2&&ltB d.aF 999999
  .exact⟨rfl,rfl,rfl,by simp,by simp⟩
  exact JA (d:=d) (d':={d with aE:=c,aF:=d.aF+1}) rfl
 exact .inl (.none d)
structure SK (c:Int) (s:ae) (r:bT):Prop where
 id:r.az.be.ID=s.be.ID
 key:r.az.be.eR=s.be.eR
 si:r.az.bC.aC=s.bC.aC
 cell:r.az.aE=s.aE\/r.az.aE=c
 sg:∀m∈r.bL,m.aE=c
 len:r.bL.length<=1
 sub:r.az.ax=s.ax
theorem SK.none (c:Int) (s:ae):SK c s ⟨s,[]⟩:=⟨rfl,rfl,rfl,.inl rfl,by simp,by simp,rfl⟩
theorem Is (s:ae) (m:aR):SK m.aE s (sUp s m):=by
 rw[sUp]
 cases ey m
 .exact .none _ s
 simp only[au]
 cases eqB m.aS 1
 .simp only[cond_false]
  cases eqB m.aS 3
  .simp only[cond_false]
   cases eqB m.aS 5
   .simp only[cond_false]
    cases eqB m.aS 8
    .exact .none _ s
    simp only[cond_true,um]
    cases !f6 s m||ltB s.aq.bb m.bI
    .refine⟨rfl,rfl,?_,.inl rfl,by simp,by simp,rfl⟩
     simp only[cond_false,jJ,uM]
     cases inR (fY s.aq.aD-fY (lO s.aq m.bI).aD) 0 (s.bC.cB-s.bC.d4)<;>rfl
    exact .none _ s
   simp only[cond_true,md]
   cases !f6 s m||(ltB m.aF s.aF||(eqB m.aF s.aF&&!eqB m.aE s.aE))
   .exact⟨rfl,rfl,rfl,.inr rfl,by simp[jK,kG,oG],by simp,rfl⟩
   exact .none _ s
  simp only[cond_true,qk]
  cases leB s.bi 0||(!eqB m.ag s.bi||(!eqB m.bI s.aO.xW||leB 999999 s.aF))
  .exact⟨rfl,rfl,rfl,.inr rfl,by simp[jK,kG,mH],by simp,rfl⟩
  exact .none _ s
 simp only[cond_true,xT]
 cases eqB s.be.cQ 999999
 .exact⟨rfl,rfl,rfl,.inl rfl,by simp,by simp,rfl⟩
 exact .none _ s
theorem MP.dev {nc i:Nat} {d:aw} {s:ae} {a:av} (h:MP nc i d s a) {c:Int} {r:bg} (hk:DK c d r) (hd:DP r.aJ) (hc:c<nc):MP nc i r.aJ s a:=by
 refine⟨hd,by rw[hk.cell];exact hc,h.sg,h.sc,h.si,?_⟩
 have:=h.ids
 simp only[Fm,hk.id,hk.key] at this ⊢;exact this
theorem MP.ses {nc i:Nat} {d:aw} {s:ae} {a:av} (h:MP nc i d s a) {c:Int} {r:bT} (hk:SK c s r) (hs:SG r.az a) (hc:c<nc):MP nc i d r.az a:=by
 refine⟨h.dp,h.dc,hs,?_,by rw[hk.si];exact h.si,?_⟩
 .rcases hk.cell with e|e<;>rw[e]
  .exact h.sc
  exact hc
 have:=h.ids
 simp only[Fm,hk.id,hk.key] at this ⊢;exact this
theorem kh {B:Int} {n:ab} (h:NP B n) {i:Nat} {d:aw} (hd:n.ah[i]?=some d) {c:Int} {r:bg} (hk:DK c d r) (hr:DP r.aJ) (hc:c<n.bX.aZ.length) (hB:B+1<4611686018427387904):NP (B+1) (dM n i r):=by
 have hi:=(YP.1 hd).1
 obtain⟨d',s,a,h1,h2,h3,hm⟩:=h.at_ hi
 rw[hd] at h1;cases h1
 have hn:=h.setD h2 h3 (hm.dev hk hr hc)
 have hl:=hk.len
 have:=xe (r.bL.map (b9 i true)) hn (λf hf=>by
  obtain⟨m,hm',rfl⟩:=ZQ.1 hf
  rw[show({n with ah:=n.ah.set i r.aJ}:ab).ah.length=n.ah.length by simp]
  refine Ix hi ?_
  rw[hk.sg m hm',<-hk.cell];exact⟨hr.ce.1,by rw[hk.cell];exact hc⟩) (by simp;omega)
 exact this.mono (by simp;omega)
def rN (n:ab) (i:Nat) (r:bT):ab:=sends {n with aj:=n.aj.set i r.az} (r.bL.map (b9 i false))
theorem Qk {B:Int} {n:ab} (h:NP B n) {i:Nat} {s:ae} (hs:n.aj[i]?=some s) {c:Int} {r:bT} (hk:SK c s r) (hr:∀a,SG s a->SG r.az a) (hc:0<=c/\c<n.bX.aZ.length) (hB:B+1<4611686018427387904):NP (B+1) (rN n i r):=by
 have hi:=(YP.1 hs).1
 have hls:=h.ls
 obtain⟨d,s',a,h1,h2,h3,hm⟩:=h.at_ (show i<n.ah.length by omega)
 rw[hs] at h2;cases h2
 have hn:=h.setS h1 h3 (hm.ses hk (hr a hm.sg) hc.2)
 have hl:=hk.len
 have:=xe (r.bL.map (b9 i false)) hn (λf hf=>by
  obtain⟨m,hm',rfl⟩:=ZQ.1 hf
  refine Ix (show i<n.ah.length by omega) ?_
  rw[hk.sg m hm'];exact hc) (by simp;omega)
 exact this.mono (by simp;omega)
def d7 (n:ab) (k:Nat):ab:={n with aA:=n.aA.take k++n.aA.drop (k+1)}
theorem Hw {B:Int} {n:ab} (h:NP B n) (k:Nat):NP B (d7 n k):=by
 have:=h.fl
 refine {h with fl:=by simp[d7];omega,fs:=λf hf=>?_}
 have:f∈n.aA:=by
  simp only[d7,YR] at hf
  rcases hf with hf|hf
  .exact Y9 hf
  exact List.mem_of_mem_drop hf
 exact h.fs f this
theorem O5 {n:ab} (hl:n.aA.length<=200) {k:Nat} {f:a9} (hf:n.aA[k]?=some f):pA n (k:Int)=some (f,d7 n k):=by
 have hk:=(YP.1 hf).1
 have a0:pD 176 0 (n.aA.length:Int)=true:=by simp only[pD,decide_eq_true_eq];omega
 have a1:it n.aA 0 (k:Int)=true:=by simp[it];omega
 have a2:it n.aA ((k+1:Nat):Int) (n.aA.length:Int)=true:=by simp[it];omega
 have a3:em 176 (n.aA.take k).length=true:=ec oaa (by simp;omega)
 have a4:em 176 (n.aA.take k++n.aA.drop (k+1)).length=true:=ec oaa (by simp;omega)
 have a5:(YV (0:Int).toNat bU)=[]:=rfl
 simp only[pA,bk,hf,a0,a1,cp (show k<9223372036854775807 by omega),a2,a5,ZR,aaH,a3,a4,d7,au]
def tA (n:ab) (c:Int):Bool:=ew n.bX c&&eqB (yw .i64 (Cc .i64 n.bp c) 1) 0
theorem SC {n:ab} (hm:1<=n.bX.aZ.length/\n.bX.aZ.length<=6) (c:Int):tZ n c=some (tA n c):=by
 simp only[tZ,uL (show n.bX.aZ.length<=1048576 by omega),aaE,tA]
 cases hc:ew n.bX c
 .rfl
 have:=bu.1 (show inR c 0 ((n.bX.aZ.length:Int)-1)=true from hc)
 rw[leB_t.2 this.1,ltB_t.2 (show c<6 by omega)];rfl
def H0 (n:ab):ab:={n with Lost:=WR (n.Lost+1)}
theorem H1 {B:Int} {n:ab} (h:NP B n) (hB:B<4611686018427387904):NP (B+1) (H0 n):=by
 have hl:=h.lo
 exact {h.mono (show B<=B+1 by omega) with lo:=by simp only[H0];rw[bP oaa];omega}
def dJ (n:ab) (k:Nat):ab:=match n.aA[k]? with
 |none=>n
 |some f=>
  let n1:=d7 n k
  let i:=f.aJ.toNat
  bif !tA n1 f.aE then H0 n1 else
  bif f.dS then(bif f.bW||!eqB f.aM.aE f.aE then n1 else match n1.aj[i]? with
   |none=>n1
   |some s=>rN n1 i (sUp s f.aM))
  else match n1.ah[i]? with
   |none=>n1
   |some d=>bif !eqB d.aE f.aE then H0 n1 else dM n1 i (bif f.bW then js d f.b6 else ia d f.aM)
theorem mA {B:Int} {n:ab} (h:NP B n) (k:Nat) (hB:B+1<4611686018427387904):NP (B+1) (dJ n k):=by
 rw[dJ]
 cases hf:n.aA[k]? with
 |none=>exact h.mono oaa
 |some f=>
  have hp:=h.fs f (YS hf)
  have h1:=Hw h k
  simp only
  cases tA (d7 n k) f.aE
  .exact H1 h1 oaa
  simp only[au]
  cases f.dS
  .simp only[cond_false]
   cases hd:(d7 n k).ah[f.aJ.toNat]? with
   |none=>exact h1.mono oaa
   |some d=>
    have hdi:=(YP.1 hd).1
    obtain⟨d',s,a,e1,e2,e3,hm⟩:=h1.at_ hdi
    rw[hd] at e1;cases e1
    simp only
    cases eqB d.aE f.aE
    .exact H1 h1 oaa
    simp only[au]
    cases f.bW
    .exact kh h1 hd (zm d f.aM) (Vb hm.dp _) hm.dc hB
    exact kh h1 hd (zl d f.b6) (U9 hm.dp _) hm.dc hB
  simp only[cond_true]
  cases he:f.bW||!eqB f.aM.aE f.aE
  .simp only[cond_false]
   simp only[Y2,aaM] at he
   have he:=fx he.2
   cases hs:(d7 n k).aj[f.aJ.toNat]? with
   |none=>exact h1.mono oaa
   |some s=>exact Qk h1 hs (Is s f.aM) (λa ha=>Yk ha _) (by rw[he];exact hp.c) hB
  exact h1.mono oaa
theorem Xq (i:Int) (h:0<=i):i=(i.toNat:Int):=by omega
theorem FZ {B:Int} {n:ab} (h:NP B n) {k:Nat} (hk:k<n.aA.length):wH n (k:Int)=some (dJ n k):=by
 obtain⟨f,hf⟩:∃f,n.aA[k]?=some f:=⟨_,YO hk⟩
 have hp:=h.fs f (YS hf)
 have h1:=Hw h k
 have hls:=h1.ls
 have hdd:=hp.d
 obtain⟨d,s,a,e1,e2,e3,hm⟩:=h1.at_ (show f.aJ.toNat<(d7 n k).ah.length by simp only[d7];omega)
 have hdev:=Xq f.aJ hdd.1
 have hix:ix (d7 n k).aj f.aJ=some s:=by rw[hdev,bk];exact e2
 have hixd:ix (d7 n k).ah f.aJ=some d:=by rw[hdev,bk];exact e1
 have hdl:=(YP.1 e1).1
 have hp1:fw (d7 n k) f.aJ (js d f.b6)=some (dM (d7 n k) f.aJ.toNat (js d f.b6)):=by
  rw[hdev];exact w8 (by simpa using hdl) (by have:=(zl d f.b6).len;omega)
 have hp2:fw (d7 n k) f.aJ (ia d f.aM)=some (dM (d7 n k) f.aJ.toNat (ia d f.aM)):=by
  rw[hdev];exact w8 (by simpa using hdl) (by have:=(zm d f.aM).len;omega)
 have hp3:∀n',kc n' f.aJ (sUp s f.aM).bL=some (sends n' ((sUp s f.aM).bL.map (b9 (f.aJ.toNat:Int) false))):=λn'=>by
  rw[<-hdev];exact RJ _ _ (by have:=(Is s f.aM).len;omega)
 simp only[wH,O5 h.fl hf,SC (iw h1.map),hix,hixd,up_i hm.sg.sp,rad_i hm.dp.ok (show WW f.b6 from hp.b),sig_i hm.dp.ok hm.dp.card hm.dp.ep,hp1,hp2,hp3,aaE,dJ,hf,e1,e2,rN,H0]
 cases tA (d7 n k) f.aE<;>cases f.dS<;>cases f.bW<;>cases eqB f.aM.aE f.aE<;>cases eqB d.aE f.aE<;>rfl
attribute [local simp] bB aQ bk
theorem iq (n:ab) (i:Nat) (r:bg):(dM n i r).ah.length=n.ah.length/\(dM n i r).bX=n.bX/\(dM n i r).aj=n.aj/\(dM n i r).aB=n.aB/\(dM n i r).gZ=n.gZ:=by
 have:=cU (r.bL.map (b9 i true)) {n with ah:=n.ah.set i r.aJ}
 rw[dM,this.1,this.2.1,this.2.2.1,this.2.2.2.1,this.2.2.2.2.2.2];simp
def dT:Nat->Nat->ab->ab
 |0,_,n=>n
 |c+1,i,n=>match n.ah[i]? with
  |none=>n
  |some d=>dT c (i+1) (dM n i (dR d))
theorem GX {L:Int×ab->Option (cK (Int×ab) ab)} (N:Nat) (hN:N<=4)
 (hL:∀(i:Nat) (n:ab),n.ah.length=N->(i<N->∀d,n.ah[i]?=some d->DP d->L ((i:Int),n)=some (.next (((i+1:Nat):Int),dM n i (dR d))))/\(N<=i->L ((i:Int),n)=some (.done n))):
 ∀(c i:Nat) {B:Int} (n:ab) (fu:Nat),NP B n->i+c=N->n.ah.length=N->c<fu->B+c<4611686018427387904->iter L fu ((i:Int),n)=some (dT c i n)/\NP (B+c) (dT c i n)/\(dT c i n).ah.length=N/\(dT c i n).bX=n.bX
 |0,i,B,n,fu,h,h1,h2,h3,hB=>by
  cases fu with
  |zero=>omega
  |succ fu=>
   rw[iter,(hL i n h2).2 oaa]
   exact⟨rfl,by simpa [dT] using h,h2,rfl⟩
 |c+1,i,B,n,fu,h,h1,h2,h3,hB=>by
  cases fu with
  |zero=>omega
  |succ fu=>
   obtain⟨d,s,a,e1,e2,e3,hm⟩:=h.at_ (show i<n.ah.length by omega)
   have hp:=kh h e1 (mX d) (wg hm.dp) hm.dc oaa
   have hk:=iq n i (dR d)
   rw[iter,(hL i n h2).1 oaa d e1 hm.dp,dT,e1]
   simp only
   have ih:=GX N hN hL c (i+1) (dM n i (dR d)) fu hp oaa (by rw[hk.1];exact h2) oaa oaa
   refine⟨ih.1,ih.2.1.mono oaa,ih.2.2.1,ih.2.2.2.trans hk.2.1⟩
def BB (x:aK):Prop:=okB x.cj.a8/\x.cj.a8.length<=60
theorem EF (k g e:Int) {x:an} (h:x.a8.length<=60):BB (iQ k g e x):=⟨NJ _ _,by simp[iQ,GN];exact h⟩
theorem Je {s:ae} (h:WOK s.aq):∀x∈xX s,BB x:=by
 rw[xX];cases eqB s.aG 1
 .simp
 intro x hx
 obtain⟨y,hy,rfl⟩:=ZQ.1 hx
 exact EF _ _ _ (h.d y (Y9 hy))
theorem AX (s:ae) (a:av) (n:Int):(bS s a n).1.bC.aC=s.bC.aC:=by rw[bS];cases leB (gk s n) 0<;>rfl
theorem EH:∀(k:Nat) (s:ae) (a:av) (r:List aK),SG s a->(∀x∈r,BB x)->
 (fT k s a r).1.be=s.be/\(fT k s a r).1.aE=s.aE/\(fT k s a r).1.bC.aC=s.bC.aC/\(fT k s a r).1.ax=s.ax/\∀x∈(fT k s a r).2.2,BB x
 |0,s,a,r,h,hr=>⟨rfl,rfl,rfl,rfl,hr⟩
 |k+1,s,a,r,h,hr=>by
  rw[fT]
  cases e:mN s with
  |none=>exact⟨rfl,rfl,rfl,rfl,hr⟩
  |some x=>
   obtain⟨hm,hx,_,hn,hl,hb⟩:=iX h.sp e
   have he:=qG h (n:=(x.a8.length:Int)) oaa
   obtain⟨q,hk⟩:=iE s a (x.a8.length:Int)
   have hid:=AX s a (x.a8.length:Int)
   simp only
   cases hq:ltB 0 (gk (bS s a (x.a8.length:Int)).1 (x.a8.length:Int))
   .simp only[cond_false]
    have ih:=EH k {(bS s a (x.a8.length:Int)).1 with aq:=sent (bS s a (x.a8.length:Int)).1.aq x.a8} (bS s a (x.a8.length:Int)).2
     (r++[iQ (bS s a (x.a8.length:Int)).1.aV (bS s a (x.a8.length:Int)).1.ag (bS s a (x.a8.length:Int)).1.aF ⟨(bS s a (x.a8.length:Int)).1.aq.bb,x.a8⟩])
     (xD he (by rw[hk];exact e) hq) (λy hy=>by
      rcases YR.1 hy with hy|hy
      .exact hr y hy
      simp at hy;subst hy;exact EF _ _ _ hb)
    rw[ih.1,ih.2.1,ih.2.2.1,ih.2.2.2.1]
    exact⟨by rw[hk],by rw[hk],hid,by rw[hk],ih.2.2.2.2⟩
   exact⟨by simp only[cond_true];rw[hk],by simp only[cond_true];rw[hk],hid,by simp only[cond_true];rw[hk],hr⟩
theorem Ty {m:aU} {a t:Int}:∀c∈z6 m a t,0<=c/\c<m.aZ.length:=by
 intro c hc
 have h1:∀c∈jq m a,0<=c/\c<m.aZ.length:=λc hc=>by
  obtain⟨y,hy,rfl⟩:=ZQ.1 hc
  have:=(ZZ.1 hy).1
  have:=List.mem_zipIdx this
  simp at this
  omega
 have h2:∀c∈LD m,0<=c/\c<m.aZ.length:=λc hc=>by
  obtain⟨k,hk,rfl⟩:=ZQ.1 hc
  have:=ZW.1 hk
  omega
 rw[z6] at hc;revert hc
 cases eqB t 1&&ltB 0 (((jq m a).length:Nat):Int)
 .cases inR t 1 4
  .simp
  exact h2 c
 exact h1 c
structure TK (nc:Nat) (s:ae) (a:av) (t:bZ):Prop where
 rcd:t.az.be=s.be
 cell:t.az.aE=s.aE
 si:t.az.bC.aC=s.bC.aC
 sub:t.az.ax=s.ax
 pg:∀m∈t.eW,0<=m.aE/\m.aE<nc
 pl:t.eW.length<=1000
 rd:∀x∈t.b6,BB x
 rl:t.b6.length<=4
theorem me {s:ae} {a:av} (h:SG s a) {m:aU} (hm:m.aZ.length<=1000):TK m.aZ.length s a (bF s a m):=by
 rw[bF]
 cases eqB s.aG 1
 .exact⟨rfl,rfl,rfl,rfl,by simp,by simp,by simp,by simp⟩
 simp only[au]
 have hg:=wq h
 have hq:=uh h.sp
 cases ltB 4 (eE s)
 .simp only[cond_false,sW]
  have hk:=EH 2 _ _ [] (h.upd hq (uj h.sp)) (by simp)
  have hl:=xC 2 {s with c9:=eE s,cR:=(iN s).2,bC:=(eP s a).2} (eP s a).1 []
  have hr:=Bo s
  refine⟨hk.1,hk.2.1,hk.2.2.1.trans hg.2.2.1,hk.2.2.2.1,by simp,by simp,λx hx=>?_,by simp at hl ⊢;omega⟩
  rcases YR.1 hx with hx|hx
  .rw[iN] at hx;revert hx
   cases uI s
   .simp
   cases ltB 0 s.cR
   .exact Je h.sp.win x
   simp
  exact hk.2.2.2.2 x hx
 simp only[cond_true,BW]
 refine⟨rfl,rfl,hg.2.2.1,rfl,λx hx=>?_,by have:=GY (p:={s.eo with fJ:=iB m s.aE}) hm;simp only[Y3];exact this,by simp,by simp⟩
 obtain⟨c,hc,rfl⟩:=ZQ.1 hx
 simp only[iM]
 rw[mQ] at hc;revert hc
 cases ltB 0 s.eo.di
 .exact Ty c
 simp
def fS (n:ab) (i:Nat) (t:bZ):ab:=
 sends (sends {n with aj:=n.aj.set i t.az,aB:=n.aB.set i t.cy} (t.eW.map (b9 i false))) (t.b6.map (lL i t.az.aE))
theorem VZ {nd nc i:Nat} (hi:i<nd) {c:Int} (hc:0<=c/\c<nc) {x:aK} (hx:BB x):FP nd nc (lL i c x):=
 ⟨by simp only[lL];omega,hc,hx.1,⟨by have:=hx.2;simp only[lL];omega,λ_ _=>trivial⟩⟩
theorem Gy (n:ab) (i:Nat) (t:bZ):(fS n i t).ah=n.ah/\(fS n i t).bX=n.bX/\(fS n i t).aj.length=n.aj.length/\(fS n i t).gZ=n.gZ:=by
 have h1:=cU (t.eW.map (b9 i false)) {n with aj:=n.aj.set i t.az,aB:=n.aB.set i t.cy}
 have h2:=cU (t.b6.map (lL i t.az.aE)) (sends {n with aj:=n.aj.set i t.az,aB:=n.aB.set i t.cy} (t.eW.map (b9 i false)))
 rw[fS,h2.1,h2.2.1,h2.2.2.2.1,h2.2.2.2.2.2.2,h1.1,h1.2.1,h1.2.2.2.1,h1.2.2.2.2.2.2];simp
theorem Ad {B:Int} {n:ab} (h:NP B n) {i:Nat} {s:ae} {a:av} (hs:n.aj[i]?=some s) (ha:n.aB[i]?=some a) {t:bZ} (hk:TK n.bX.aZ.length s a t) (hg:SG t.az t.cy) (hB:B+2000<4611686018427387904):NP (B+2000) (fS n i t):=by
 have hi:=(YP.1 hs).1
 have hls:=h.ls
 obtain⟨d,s',a',h1,h2,h3,hm⟩:=h.at_ (show i<n.ah.length by omega)
 rw[hs] at h2;cases h2
 rw[ha] at h3;cases h3
 have hmp:MP n.bX.aZ.length i d t.az t.cy:=by
  refine⟨hm.dp,hm.dc,hg,by rw[hk.cell];exact hm.sc,by rw[hk.si];exact hm.si,?_⟩
  have:=hm.ids
  simp only[Fm,hk.rcd] at this ⊢;exact this
 have hn:=h.setM hmp
 rw[fk h1] at hn
 have hpl:=hk.pl
 have hrl:=hk.rl
 have k1:=cU (t.eW.map (b9 i false)) {n with aj:=n.aj.set i t.az,aB:=n.aB.set i t.cy}
 have p1:=xe (t.eW.map (b9 i false)) hn (λf hf=>by
  obtain⟨m,hm',rfl⟩:=ZQ.1 hf
  exact Ix (show i<n.ah.length by omega) (hk.pg m hm')) (by simp;omega)
 have p2:=xe (t.b6.map (lL i t.az.aE)) p1 (λf hf=>by
  obtain⟨x,hx,rfl⟩:=ZQ.1 hf
  rw[k1.1,k1.2.2.2.1]
  exact VZ (show i<n.ah.length by omega) (by rw[hk.cell];exact⟨hm.sg.sp.ce.1,hm.sc⟩) (hk.rd x hx)) (by simp;omega)
 exact p2.mono (by simp;omega)
def eL:Nat->Nat->ab->ab
 |0,_,n=>n
 |c+1,i,n=>match n.aj[i]?,n.aB[i]? with
  |some s,some a=>eL c (i+1) (fS n i (bF s a n.bX))
  |_,_=>n
theorem G1 {L:Int×ab->Option (cK (Int×ab) ab)} (N:Nat) (hN:N<=4)
 (hL:∀(i:Nat) (n:ab),n.aj.length=N->(i<N->∀s a,n.aj[i]?=some s->n.aB[i]?=some a->SG s a->oI n.bX=true->L ((i:Int),n)=some (.next (((i+1:Nat):Int),fS n i (bF s a n.bX))))/\(N<=i->L ((i:Int),n)=some (.done n))):
 ∀(c i:Nat) {B:Int} (n:ab) (fu:Nat),NP B n->i+c=N->n.aj.length=N->c<fu->B+2000*c<4611686018427387904->iter L fu ((i:Int),n)=some (eL c i n)/\NP (B+2000*c) (eL c i n)/\(eL c i n).ah=n.ah/\(eL c i n).bX=n.bX
 |0,i,B,n,fu,h,h1,h2,h3,hB=>by
  cases fu with
  |zero=>omega
  |succ fu=>
   rw[iter,(hL i n h2).2 oaa]
   exact⟨rfl,by simpa [eL] using h,rfl,rfl⟩
 |c+1,i,B,n,fu,h,h1,h2,h3,hB=>by
  cases fu with
  |zero=>omega
  |succ fu=>
   have hls:=h.ls
   obtain⟨d,s,a,e1,e2,e3,hm⟩:=h.at_ (show i<n.ah.length by omega)
   have hml:=iw h.map
   have hp:=Ad h e2 e3 (me hm.sg oaa) (xc hm.sg h.map) oaa
   have hk:=Gy n i (bF s a n.bX)
   rw[iter,(hL i n h2).1 oaa s a e2 e3 hm.sg h.map,eL,e2,e3]
   simp only
   have ih:=G1 N hN hL c (i+1) (fS n i (bF s a n.bX)) fu hp oaa (by rw[hk.2.2.1];exact h2) oaa oaa
   exact⟨ih.1,ih.2.1.mono oaa,ih.2.2.1.trans hk.1,ih.2.2.2.trans hk.2.1⟩
def iA (n:ab):Bool×ab:=
 bif leB 100000 n.gZ then(false,n) else
  let n1:=dT n.ah.length 0 {n with gZ:=n.gZ+1}
  (true,eL n1.aj.length 0 n1)
theorem qN {B:Int} {n:ab} (h:NP B n) (hB:B+10000<4611686018427387904):True/\J3 n=some (iA n)/\NP (B+10000) (iA n).2:=by
 have hnw:=h.nw
 have hld:=h.ld
 rw[iA,J3]
 cases hb:leB 100000 n.gZ
 .have hb:=tD hb
  simp only[cond_false]
  have h1:NP B {n with gZ:=n.gZ+1}:={h with nw:=by simp only;omega}
  rw[bP (n:=n.gZ+1) oaa]
  have ri:=GX (L:=zR n) n.ah.length hld (λi n' hn'=>⟨λhi d hd hp=>by
   simp only[zR,dm hi,bk,hd,YB hp.ok hp.wt.2,w8 (show i<n'.ah.length by omega) (show(dR d).bL.length<=1048576 by have:=(mX d).len;omega),cp (show i<9223372036854775807 by omega),au],λhi=>by
   simp only[zR,ltB_f.2 (show(n.ah.length:Int)<=(i:Int) by omega),cond_false]⟩) n.ah.length 0 _ FU h1 oaa rfl (by have:=kj;omega) oaa
  rw[show((0:Nat):Int)=0 from rfl] at ri
  have h2:=(ri).2.1
  have hls:=h2.ls
  have hl2:=h2.ld
  generalize dT n.ah.length 0 {n with gZ:=n.gZ+1}=n1 at*
  have radI:∀(n':ab) (i:Nat) (t:bZ),(∀x∈t.b6,BB x)->t.b6.length<=4->iter (uc (i:Int) t) FU (0,n')=some (sends n' (t.b6.map (lL i t.az.aE))):=λn' i t ht hl=>by
   have:=fP (step:=uc (i:Int) t) t.b6 (λk n=>((k:Int),n)) (λn x=>aaC (pz n (lL i t.az.aE x)) λr=>some (.next r)) some oaa
    (λk x n hx hk=>by
     simp only[uc,dm hk,bk,hx,cp (show k<9223372036854775807 by omega),lL,au]
     cases pz n ⟨(i:Int),false,true,t.az.aE,fG,x⟩<;>rfl) (λn=>by simp[uc]) n'
   refine Eq.trans (show iter (uc (i:Int) t) FU (0,n')=_ from this) ?_
   clear this
   have key:∀(l:List aK) (n':ab),(∀x∈l,BB x)->kN (λ(n:ab) x=>aaC (pz n (lL i t.az.aE x)) λr=>some (cK.next (ρ:=ab) r)) some l n'=some (sends n' (l.map (lL i t.az.aE))):=by
    intro l
    induction l with
    |nil=>intro n' _;rfl
    |cons x l ih=>intro n' hx;rw[kN,z0 (f:=lL i t.az.aE x) ⟨by have:=(hx x (by simp)).2;simp only[lL];omega,λ_ _=>trivial⟩];exact ih _ λy hy=>hx y (by simp[hy])
   exact key t.b6 n' ht
  have si:=G1 (L:=zS n1) n1.aj.length oaa (λi n' hn'=>⟨λhi s a hs ha hg hm=>by
   have hml:=iw hm
   have hk:=me hg (m:=n'.bX) oaa
   simp only[zS,dm hi,bk,hs,ha,Wn hg (m:=n'.bX) oaa (nQ hg.sp.page),aaH,RJ _ _ (show(bF s a n'.bX).eW.length<=1048576 by have:=hk.pl;omega),radI _ i _ hk.rd hk.rl,fS,cp (show i<9223372036854775807 by omega),au],λhi=>by
   simp only[zS,ltB_f.2 (show(n1.aj.length:Int)<=(i:Int) by omega),cond_false]⟩) n1.aj.length 0 n1 FU h2 oaa rfl (by have:=kj;omega) oaa
  rw[show((0:Nat):Int)=0 from rfl] at si
  rw[ri.1]
  simp only[aaE]
  rw[si.1]
  exact⟨by first|rfl|trivial,by first|rfl|trivial,(si).2.1.mono oaa⟩
 exact⟨by first|rfl|trivial,by first|rfl|trivial,h.mono oaa⟩
attribute [local simp] bB aQ bk
def uB (p:cd) (k:Int):Bool:=oc p&&(inR k 0 (p.hP-1)&&eqB (yw .i64 (Cc .i64 p.f7 k) 1) 1)
theorem rL {p:cd} (h:oc p=true):1<=p.hP/\p.hP<=6:=by
 simp only[oc,v0,bu] at h;exact h.1
theorem O1 (p:cd) (k:Int):sC p k=some (uB p k):=by
 simp only[sC,Ih,gj,aaE,uB]
 cases hp:oc p
 .rfl
 have:=rL hp
 rw[bP (n:=p.hP-1) oaa]
 cases hk:inR k 0 (p.hP-1)
 .rfl
 rw[leB_t.2 (bu.1 hk).1];rfl
def kF (p:cd) (k:Int) (up:Bool):cd:=
 bif !oc p||!inR k 0 (p.hP-1) then p else⟨p.hP,bif up then bOr .i64 p.f7 (mW .i64 1 k) else xl .i64 p.f7 (mW .i64 1 k)⟩
theorem We (p:cd) (k:Int) (up:Bool):uU p k up=some (kF p k up):=by
 simp only[uU,Ih,gj,aaE,kF]
 cases hp:oc p
 .rfl
 have:=rL hp
 rw[bP (n:=p.hP-1) oaa]
 cases hk:inR k 0 (p.hP-1)
 .rfl
 rw[leB_t.2 (bu.1 hk).1];cases up<;>rfl
theorem SV:∀c∈YQ 7,∀d∈YQ (2^c),∀i∈YQ c,
 (inR (Jn .i64 (d:Int) (mW .i64 1 (i:Int))) 0 (WR (mW .i64 1 (c:Int)-1))&&(inR (bOr .i64 (d:Int) (mW .i64 1 (i:Int))) 0 (WR (mW .i64 1 (c:Int)-1))&&inR (xl .i64 (d:Int) (mW .i64 1 (i:Int))) 0 (WR (mW .i64 1 (c:Int)-1))))=true:=by decide+kernel
theorem Yp:∀c∈YQ 7,WR (mW .i64 1 (c:Int)-1)=((2^c:Nat):Int)-1:=by decide+kernel
theorem Oi {c:Nat} (hc:c<=6) {d k:Int} (hd:inR d 0 (WR (mW .i64 1 (c:Int)-1))=true) (hk:0<=k/\k<c):
 inR (Jn .i64 d (mW .i64 1 k)) 0 (WR (mW .i64 1 (c:Int)-1))=true/\inR (bOr .i64 d (mW .i64 1 k)) 0 (WR (mW .i64 1 (c:Int)-1))=true/\inR (xl .i64 d (mW .i64 1 k)) 0 (WR (mW .i64 1 (c:Int)-1))=true:=by
 have hd':=bu.1 hd
 rw[Yp c (ZW.2 oaa)] at hd'
 have:=SV c (ZW.2 oaa) d.toNat (ZW.2 oaa) k.toNat (ZW.2 oaa)
 rw[show(d.toNat:Int)=d by omega,show(k.toNat:Int)=k by omega] at this
 simpa only[v0] using this
theorem T9 {p:cd} (h:oc p=true) (k:Int) (up:Bool):oc (kF p k up)=true/\(kF p k up).hP=p.hP:=by
 rw[kF,h]
 cases hk:inR k 0 (p.hP-1)
 .exact⟨h,rfl⟩
 have hk:=bu.1 hk
 have hp:=rL h
 simp only[oc,v0] at h
 have hm:=Oi (c:=p.hP.toNat) oaa (d:=p.f7) (k:=k) (by rw[show(p.hP.toNat:Int)=p.hP by omega];exact h.2) oaa
 rw[show(p.hP.toNat:Int)=p.hP by omega] at hm
 simp only[aaT,oc,v0,au]
 exact⟨⟨h.1,by cases up;exact hm.2.2;exact hm.2.1⟩,trivial⟩
def wt (a b:Int):Int:=aaG (WR (eQ 17 [a,b]*eQ 17 [a,b])) 2147483647
theorem wt_i (a b:Int):nB a b=some (wt a b):=by simp[nB,d6,wt]
theorem wt_nn (a b:Int):0<=wt a b:=by
 have h:=rD 17 [a,b]
 unfold hM at h
 have h2:0<=eQ 17 [a,b]*eQ 17 [a,b]:=Int.mul_nonneg h.1 h.1
 have h3:eQ 17 [a,b]*eQ 17 [a,b]<=2147483647*2147483647:=Int.mul_le_mul oaa oaa h.1 oaa
 rw[wt,bP oaa]
 exact Int.tmod_nonneg _ h2
def CQ (p:cd) (i v:Int) (k:Int):Int:=bif uB p k&&(ltB v 0||ltB (wt v i) (wt k i)) then k else v
def Wc (p:cd) (i:Int):Nat->Nat->Int->Int
 |0,_,v=>v
 |c+1,k,v=>Wc p i c (k+1) (CQ p i v k)
def sel (p:cd) (i:Int):Int:=Wc p i p.hP.toNat 0 (-1)
def Hv (i v:Int):Int:=bif ltB v 0 then-1 else wt v i
theorem GQ {p:cd} (h:oc p=true) (i:Int):∀(c k fu:Nat) (v:Int),k+c=p.hP.toNat->c<fu->iter (jh p i) fu (v,Hv i v,(k:Int))=some (Wc p i c k v)
 |0,k,fu,v,h1,h2=>by
  have hp:=rL h
  cases fu with
  |zero=>omega
  |succ fu=>rw[iter];simp[jh,ltB_f.2 (show p.hP<=(k:Int) by omega),Wc]
 |c+1,k,fu,v,h1,h2=>by
  have hp:=rL h
  cases fu with
  |zero=>omega
  |succ fu=>
   have hs:jh p i (v,Hv i v,(k:Int))=some (.next (CQ p i v k,Hv i (CQ p i v k),((k+1:Nat):Int))):=by
    simp only[jh,ltB_t.2 (show(k:Int)<p.hP by omega),O1,wt_i,cp (show k<9223372036854775807 by omega),CQ,au]
    have hw:=wt_nn k i
    have hk:Hv i (k:Int)=wt k i:=by rw[Hv,ltB_f.2 (show(0:Int)<=k by omega)];rfl
    have hb:ltB (Hv i v) (wt k i)=(ltB v 0||ltB (wt v i) (wt k i)):=by
     rw[Hv];cases ltB v 0
     .rfl
     simp only[cond_true,aa1];exact ltB_t.2 oaa
    rw[hb]
    cases uB p k<;>cases ltB v 0||ltB (wt v i) (wt k i)<;>simp[hk]
   rw[iter,hs]
   exact GQ h i c (k+1) fu _ oaa oaa
theorem W0 {p:cd} (h:oc p=true) (i:Int):oS p i=some (sel p i):=by
 have hp:=rL h
 have:=GQ h i p.hP.toNat 0 FU (-1) oaa (by have:=kj;omega)
 rw[show((0:Nat):Int)=0 from rfl,show Hv i (-1)= -1 from by simp[Hv,ltB]] at this
 simp only[oS,Ih,h,this,sel,au]
def vE (p q:cd):Nat->Nat->List ae->List ae
 |0,_,l=>l
 |c+1,i,l=>vE p q c (i+1) (bif eqB (sel p i) (sel q i) then l else match l[i]? with
  |some s=>l.set i (lg s)
  |none=>l)
def kE (n:ab) (k:Int) (up:Bool):Bool×ab:=
 let q:=kF n.eD k up
 bif !inR k 0 (n.eD.hP-1)||(booB (uB n.eD k) up||eqB q.f7 0) then(false,n) else(true,{n with aj:=vE n.eD q n.aj.length 0 n.aj,eD:=q})
theorem mI (p q:cd):∀(c i:Nat) (l:List ae) (j:Nat),(vE p q c i l)[j]?=l[j]?\/∃s,l[j]?=some s/\(vE p q c i l)[j]?=some (lg s)
 |0,i,l,j=>.inl rfl
 |c+1,i,l,j=>by
  rw[vE]
  cases eqB (sel p i) (sel q i)
  .simp only[cond_false]
   cases hi:l[i]? with
   |none=>exact mI p q c (i+1) l j
   |some s=>
    simp only
    by_cases e:i=j
    .subst e
     have hg:(l.set i (lg s))[i]?=some (lg s):=by simp[(YP.1 hi).1]
     rcases mI p q c (i+1) (l.set i (lg s)) i with h|⟨t,h1,h2⟩
     .exact .inr ⟨s,hi,by rw[h,hg]⟩
     rw[hg] at h1;cases h1;exact .inr ⟨s,hi,h2⟩
    have hg:(l.set i (lg s))[j]?=l[j]?:=by rw[aaq,if_neg e]
    rcases mI p q c (i+1) (l.set i (lg s)) j with h|⟨t,h1,h2⟩
    .exact .inl (by rw[h,hg])
    exact .inr ⟨t,by rw[<-hg];exact h1,h2⟩
  exact mI p q c (i+1) l j
theorem F5 (p q:cd):∀(c i:Nat) (l:List ae),(vE p q c i l).length=l.length
 |0,i,l=>rfl
 |c+1,i,l=>by
  rw[vE,F5]
  cases eqB (sel p i) (sel q i)
  .simp only[cond_false];cases l[i]?<;>simp
  rfl
theorem JK {L:Int×List ae->Option (cK (Int×List ae) (List ae))} {p q:cd} (N:Nat)
 (hL:∀(i:Nat) (l:List ae),l.length=N->(i<N->(∀s∈l,eu s)->L ((i:Int),l)=some (.next (((i+1:Nat):Int),bif eqB (sel p i) (sel q i) then l else match l[i]? with|some s=>l.set i (lg s)|none=>l)))/\(N<=i->L ((i:Int),l)=some (.done l))):
 ∀(c i fu:Nat) (l:List ae),i+c=N->l.length=N->(∀s∈l,eu s)->c<fu->iter L fu ((i:Int),l)=some (vE p q c i l)
 |0,i,fu,l,h1,h2,h3,h4=>by
  cases fu with
  |zero=>omega
  |succ fu=>rw[iter,(hL i l h2).2 oaa];rfl
 |c+1,i,fu,l,h1,h2,h3,h4=>by
  cases fu with
  |zero=>omega
  |succ fu=>
   rw[iter,(hL i l h2).1 oaa h3,vE]
   simp only
   refine JK N hL c (i+1) fu _ oaa ?_ (λs hs=>?_) oaa
   .cases eqB (sel p i) (sel q i)
    .simp only[cond_false];cases l[i]?<;>simp[h2]
    exact h2
   revert hs
   cases eqB (sel p i) (sel q i)
   .simp only[cond_false]
    cases hi:l[i]? with
    |none=>exact h3 s
    |some t=>
     intro hs
     rcases abd hs with hs|rfl
     .exact h3 s hs
     exact h3 t (YS hi)
   exact h3 s
theorem KY {B:Int} {n:ab} (h:NP B n) (k:Int) (up:Bool):True/\(∀e:cr,e.bR=k->eqB e.aS 12=up->rz n e=some (kE n k up))/\NP B (kE n k up).2:=by
 have hp:=rL h.core
 have hls:=h.ls
 have hq:=T9 h.core k up
 have hok:∀s∈n.aj,eu s:=λs hs=>by
  obtain⟨i,hi⟩:=Y4 hs
  have hlt:=(YP.1 hi).1
  obtain⟨d,s',a,e1,e2,e3,hm⟩:=h.at_ (show i<n.ah.length by omega)
  rw[hi] at e2;cases e2;exact hm.sg.sp.ok
 have hl4:=h.ld
 have r2:=JK (L:=kB n (kF n.eD k up)) (p:=n.eD) (q:=kF n.eD k up) n.aj.length (λi l hl=>⟨λhi hl3=>by
  obtain⟨s,hs⟩:∃s,l[i]?=some s:=⟨_,YO oaa⟩
  simp only[kB,dm hi,W0 h.core,W0 hq.1,bk,hs,Xu (hl3 s (YS hs)),aaH,cp (show i<9223372036854775807 by omega),au]
  cases eqB (sel n.eD i) (sel (kF n.eD k up) i)<;>rfl,λhi=>by
  simp only[kB,ltB_f.2 (show(n.aj.length:Int)<=(i:Int) by omega),cond_false]⟩) n.aj.length 0 FU n.aj oaa rfl hok (by have:=kj;omega)
 rw[show((0:Nat):Int)=0 from rfl] at r2
 refine⟨trivial,λe he hu=>?_,?_⟩
 .simp only[rz,he,hu,We,gj,O1,r2,aaE,bP (n:=n.eD.hP-1) oaa,kE]
  cases inR k 0 (n.eD.hP-1)<;>cases booB (uB n.eD k) up<;>cases eqB (kF n.eD k up).f7 0<;>rfl
 simp only[kE]
 cases hb:!inR k 0 (n.eD.hP-1)||(booB (uB n.eD k) up||eqB (kF n.eD k up).f7 0)
 .simp only[Y2] at hb
  refine {h with core:=hq.1,up:=Cd hb.2.2,ls:=by simp only[cond_false];rw[F5];exact hls,m:=λi d s a hd hs ha=>?_}
  simp only[cond_false] at hd hs ha ⊢
  rcases mI n.eD (kF n.eD k up) n.aj.length 0 n.aj i with e|⟨t,e1,e2⟩
  .rw[e] at hs;exact h.m i d s a hd hs ha
  rw[e2] at hs;cases hs
  have hm:=h.m i d t a hd e1 ha
  exact⟨hm.dp,hm.dc,TX hm.sg,hm.sc,hm.si,hm.ids⟩
 exact h
attribute [local simp] bB aQ bk
theorem OI:eqB 3 2=false:=by simp[eqB]
theorem OK:eqB 4 2=false:=by simp[eqB]
theorem OL:eqB 4 3=false:=by simp[eqB]
theorem OM:eqB 6 5=false:=by simp[eqB]
theorem ON:eqB 7 5=false:=by simp[eqB]
theorem OO:eqB 7 6=false:=by simp[eqB]
theorem Kz:eqB 8 5=false:=by simp[eqB]
theorem KA:eqB 8 6=false:=by simp[eqB]
theorem KB:eqB 8 7=false:=by simp[eqB]
theorem OJ:eqB 3 4=false:=by simp[eqB]
theorem OH:eqB 2 3=false:=by simp[eqB]
structure EP (e:cr):Prop where
 d:okB e.a8
 f:mP e.dK
 r:okB e.dK.b6.cj.a8
def oW (n:ab) (e:cr):Bool×ab:=
 bif !inR e.bR 0 ((n.aA.length:Int)-1) then(false,n) else
 bif eqB e.aS 2 then(true,dJ n e.bR.toNat) else
 bif eqB e.aS 3 then(true,H0 (d7 n e.bR.toNat)) else
 bif leB 200 (n.aA.length:Int) then(false,n) else match n.aA[e.bR.toNat]? with
  |none=>(true,n)
  |some f=>(true,dP n f)
theorem JN {B:Int} {n:ab} (h:NP B n) (e:cr) (hk:e.aS=2\/e.aS=3\/e.aS=4) (hB:B+1<4611686018427387904):
 True/\ry n e=some (oW n e)/\NP (B+1) (oW n e).2:=by
 have hfl:=h.fl
 simp only[ry,gj,oW,bP (n:=(n.aA.length:Int)-1) oaa,aaE]
 cases hr:inR e.bR 0 ((n.aA.length:Int)-1)
 .exact⟨by first|rfl|trivial,by first|rfl|trivial,h.mono oaa⟩
 have hr:=bu.1 hr
 obtain⟨k,hk'⟩:∃k:Nat,e.bR=k:=⟨e.bR.toNat,by omega⟩
 have hlt:k<n.aA.length:=by omega
 obtain⟨f,hf⟩:∃f,n.aA[k]?=some f:=⟨_,YO hlt⟩
 have hp:=h.fs f (YS hf)
 simp only[hk',aaH,FZ h hlt,O5 h.fl hf,z0 hp.ok,bk,hf,au]
 rcases hk with e2|e2|e2<;>rw[e2]<;>simp only[OI,OK,OL,OM,ON,OO,Kz,KA,KB,OJ,OH,aQ,au]
 .exact⟨by first|rfl|trivial,by first|rfl|trivial,mA h k hB⟩
 .exact⟨by first|rfl|trivial,by first|rfl|trivial,H1 (Hw h k) oaa⟩
 cases leB 200 (n.aA.length:Int)
 .exact⟨by first|rfl|trivial,by first|rfl|trivial,yR h hp oaa⟩
 exact⟨by first|rfl|trivial,by first|rfl|trivial,h.mono oaa⟩
def wX (n:ab) (e:cr):Bool×ab:=
 bif !inR e.bR 0 ((n.ah.length:Int)-1) then(false,n) else match n.ah[e.bR.toNat]?,n.aj[e.bR.toNat]? with
  |some d,some s=>
   bif eqB e.aS 5 then(bif !eqB d.aG 0 then(false,n) else(true,dM n e.bR.toNat (dOn d))) else
   bif eqB e.aS 6 then(bif eqB e.aE d.aE||!ew n.bX e.aE then(false,n) else(true,dM n e.bR.toNat (qg d e.aE))) else
   bif eqB e.aS 7 then(bif !eqB d.aG 2 then(false,n) else(true,{n with ah:=n.ah.set e.bR.toNat (sh d)})) else
   bif(mS s e.a8).2 then(true,{n with aj:=n.aj.set e.bR.toNat (mS s e.a8).1}) else(false,n)
  |_,_=>(false,n)
theorem LO (d:aw):(sh d).cZ=d.cZ/\(sh d).aE=d.aE:=by
 rw[sh];cases eqB d.aG 2<;>exact⟨rfl,rfl⟩
theorem Tv {B:Int} {n:ab} (h:NP B n) (e:cr) (he:EP e) (hk:e.aS=5\/e.aS=6\/e.aS=7\/e.aS=8) (hB:B+1<4611686018427387904):
 True/\f9 n e=some (wX n e)/\NP (B+1) (wX n e).2:=by
 have hl:=h.ld
 have hm6:=iw h.map
 have hnm:NP (B+1) n:=h.mono oaa
 simp only[f9,gj,uL (show n.bX.aZ.length<=1048576 by omega),wX,bP (n:=(n.ah.length:Int)-1) oaa,bP (n:=(n.bX.aZ.length:Int)-1) oaa,aaE]
 cases hr:inR e.bR 0 ((n.ah.length:Int)-1)
 .exact⟨by first|rfl|trivial,by first|rfl|trivial,hnm⟩
 have hr:=bu.1 hr
 obtain⟨k,hk'⟩:∃k:Nat,e.bR=k:=⟨e.bR.toNat,by omega⟩
 have hlt:k<n.ah.length:=by omega
 obtain⟨d,s,a,e1,e2,e3,hm⟩:=h.at_ hlt
 have l1:=(HC d).len
 have l2:(qg d e.aE).bL.length<=1:=by rcases Du d e.aE with h|h;exact h.len;exact h.2.len
 simp only[hk',aaH,bk,e1,e2,on_i hm.dp.ok,XR hm.dp.ok hm.dp.ep,XA hm.dp.ok,sub_i hm.sg.sp.ok,w8 hlt (show(dOn d).bL.length<=1048576 by omega),w8 hlt (show(qg d e.aE).bL.length<=1048576 by omega),au]
 try rw[show inR e.aE 0 ((n.bX.aZ.length:Int)-1)=ew n.bX e.aE from rfl]
 rcases hk with e4|e4|e4|e4<;>rw[e4]<;>simp only[OI,OK,OL,OM,ON,OO,Kz,KA,KB,OJ,OH,aQ,au]
 .cases eqB d.aG 0
  .exact⟨by first|rfl|trivial,by first|rfl|trivial,hnm⟩
  exact⟨by first|rfl|trivial,by first|rfl|trivial,kh h e1 (HC d) (Xl hm.dp) hm.dc hB⟩
 .cases hx:eqB e.aE d.aE<;>cases hy:ew n.bX e.aE<;>try exact⟨by first|rfl|trivial,by first|rfl|trivial,hnm⟩
  refine⟨by first|rfl|trivial,by first|rfl|trivial,?_⟩
  have hc:=bu.1 (show inR e.aE 0 ((n.bX.aZ.length:Int)-1)=true from hy)
  rcases Du d e.aE with h'|h'
  .exact kh h e1 h' (JC hm.dp _) hm.dc hB
  exact kh h e1 h'.2 (JC hm.dp _) oaa hB
 .cases eqB d.aG 2
  .exact⟨by first|rfl|trivial,by first|rfl|trivial,hnm⟩
  refine⟨by first|rfl|trivial,by first|rfl|trivial,NP.mono (B:=B) ?_ oaa⟩
  have hik:=LO d
  refine h.setD e2 e3 ⟨Rx hm.dp,by rw[hik.2];exact hm.dc,hm.sg,hm.sc,hm.si,?_⟩
  have:=hm.ids
  simp only[Fm,hik.1] at this ⊢;exact this
 cases hb:(mS s e.a8).2
 .have hs:(mS s e.a8).1=s:=by
   revert hb;rw[mS];cases leB 24 (s.ax.length:Int)||ltB 60 (e.a8.length:Int)
   .intro hb;cases hb
   intro _;rfl
  refine⟨?_,by first|rfl|trivial,hnm⟩
  first|trivial|(rw[hs,fk e2];rfl)
 refine⟨by first|rfl|trivial,by first|rfl|trivial,NP.mono (B:=B) ?_ oaa⟩
 have hg:=V9 hm.sg he.d
 refine h.setS e1 e3 ⟨hm.dp,hm.dc,hg,?_,?_,?_⟩
 all_goals
  rw[mS]
  cases leB 24 (s.ax.length:Int)||ltB 60 (e.a8.length:Int)
 .exact hm.sc
 .exact hm.sc
 .exact hm.si
 .exact hm.si
 .exact hm.ids
 exact hm.ids
def yl (n:ab) (c:Int) (up:Bool):Bool×ab:=
 bif !ew n.bX c||booB (tA n c) up then(false,n) else(true,{n with bp:=Jn .i64 n.bp (mW .i64 1 c)})
theorem Po {B:Int} {n:ab} (h:NP B n) (e:cr):
 True/\uW n e=some (yl n e.bR (eqB e.aS 10))/\NP B (yl n e.bR (eqB e.aS 10)).2:=by
 have hm6:=iw h.map
 simp only[uW,uL (show n.bX.aZ.length<=1048576 by omega),SC hm6,yl,bP (n:=(n.bX.aZ.length:Int)-1) oaa,aaE]
 try rw[show inR e.bR 0 ((n.bX.aZ.length:Int)-1)=ew n.bX e.bR from rfl]
 cases hc:ew n.bX e.bR
 .exact⟨by first|rfl|trivial,by first|rfl|trivial,h⟩
 have hi:=bu.1 (show inR e.bR 0 ((n.bX.aZ.length:Int)-1)=true from hc)
 rw[leB_t.2 hi.1]
 cases booB (tA n e.bR) (eqB e.aS 10)
 .exact⟨by first|rfl|trivial,by first|rfl|trivial,{h with dn:=(Oi hm6.2 h.dn oaa).1}⟩
 exact⟨by first|rfl|trivial,by first|rfl|trivial,h⟩
def Ac (n:ab) (f:a9):Bool:=ltB (n.aA.length:Int) 200&&(inR f.aJ 0 ((n.ah.length:Int)-1)&&ew n.bX f.aE)
def tG (n:ab) (f:a9):Bool×ab:=bif !Ac n f then(false,n) else(true,dP n f)
theorem L7 {B:Int} {n:ab} (h:NP B n) (e:cr) (he:EP e) (hB:B<4611686018427387904):
 True/\Mm n e.dK=some (tG n e.dK)/\NP (B+1) (tG n e.dK).2:=by
 have hm6:=iw h.map
 have hl:=h.ld
 simp only[Mm,gj,uL (show n.bX.aZ.length<=1048576 by omega),z0 he.f,tG,Ac,bP (n:=(n.bX.aZ.length:Int)-1) oaa,bP (n:=(n.ah.length:Int)-1) oaa,aaE]
 try rw[show inR e.dK.aE 0 ((n.bX.aZ.length:Int)-1)=ew n.bX e.dK.aE from rfl]
 try rw[show leB 200 (n.aA.length:Int)=!ltB (n.aA.length:Int) 200 by simp only[leB,ltB];rw[aaJ];simp]
 cases h1:ltB (n.aA.length:Int) 200<;>cases h2:inR e.dK.aJ 0 ((n.ah.length:Int)-1)<;>cases h3:ew n.bX e.dK.aE<;>try exact⟨by first|rfl|trivial,by first|rfl|trivial,h.mono oaa⟩
 have hd:=bu.1 h2
 have hc:=bu.1 (show inR e.dK.aE 0 ((n.bX.aZ.length:Int)-1)=true from h3)
 exact⟨by first|rfl|trivial,by first|rfl|trivial,yR h ⟨by omega,by omega,he.r,he.f⟩ oaa⟩
def dZ (n:ab) (e:cr):Bool×ab:=
 if e.aS=1 then iA n else
 if e.aS=2\/e.aS=3\/e.aS=4 then oW n e else
 if e.aS=5\/e.aS=6\/e.aS=7\/e.aS=8 then wX n e else
 if e.aS=9\/e.aS=10 then yl n e.bR (eqB e.aS 10) else
 if e.aS=11\/e.aS=12 then kE n e.bR (eqB e.aS 12) else
 if e.aS=13 then tG n e.dK else(false,n)
theorem yv {B:Int} {n:ab} (h:NP B n) {e:cr} (he:EP e) (hB:B+10000<4611686018427387904):
 True/\mK n e=some (dZ n e)/\NP (B+10000) (dZ n e).2:=by
 rw[dZ,mK]
 by_cases h1:e.aS=1
 .rw[if_pos h1,h1]
  have:=qN h hB
  simp only[aQ,this.2.1,au]
  exact⟨by first|rfl|trivial,by first|rfl|trivial,this.2.2⟩
 rw[if_neg h1]
 have n1:eqB e.aS 1=false:=by simpa [eqB] using h1
 by_cases h2:e.aS=2\/e.aS=3\/e.aS=4
 .rw[if_pos h2]
  have:=JN h e h2 oaa
  have hb':(bif eqB e.aS 2 then(some (eqB e.aS 2)) else(aaC (bif eqB e.aS 3 then(some (eqB e.aS 3)) else(some (eqB e.aS 4))) λ(v3:Bool)=>some v3))=some true:=by
   rcases h2 with e|e|e<;>rw[e]<;>simp only[OI,OK,OL,OM,ON,OO,Kz,KA,KB,OJ,OH,aQ,au]<;>rfl
  rw[n1,hb']
  simp only[this.2.1,au]
  exact⟨by first|rfl|trivial,by first|rfl|trivial,this.2.2.mono oaa⟩
 rw[if_neg h2]
 have hb':(bif eqB e.aS 2 then(some (eqB e.aS 2)) else(aaC (bif eqB e.aS 3 then(some (eqB e.aS 3)) else(some (eqB e.aS 4))) λ(v3:Bool)=>some v3))=some false:=by
  rw[show eqB e.aS 2=false by simp[eqB];omega,show eqB e.aS 3=false by simp[eqB];omega,show eqB e.aS 4=false by simp[eqB];omega];rfl
 rw[n1,hb']
 simp only[au]
 by_cases h3:e.aS=5\/e.aS=6\/e.aS=7\/e.aS=8
 .rw[if_pos h3]
  have:=Tv h e he h3 oaa
  have hb3:(bif eqB e.aS 5 then(some (eqB e.aS 5)) else(aaC (bif eqB e.aS 6 then(some (eqB e.aS 6)) else(aaC (bif eqB e.aS 7 then(some (eqB e.aS 7)) else(some (eqB e.aS 8))) λ(v7:Bool)=>some v7)) λ(v6:Bool)=>some v6))=some true:=by
   rcases h3 with e|e|e|e<;>rw[e]<;>simp only[OI,OK,OL,OM,ON,OO,Kz,KA,KB,OJ,OH,aQ,au]<;>rfl
  rw[hb3]
  simp only[this.2.1,au]
  exact⟨by first|rfl|trivial,by first|rfl|trivial,this.2.2.mono oaa⟩
 rw[if_neg h3]
 have hb3:(bif eqB e.aS 5 then(some (eqB e.aS 5)) else(aaC (bif eqB e.aS 6 then(some (eqB e.aS 6)) else(aaC (bif eqB e.aS 7 then(some (eqB e.aS 7)) else(some (eqB e.aS 8))) λ(v7:Bool)=>some v7)) λ(v6:Bool)=>some v6))=some false:=by
  rw[show eqB e.aS 5=false by simp[eqB];omega,show eqB e.aS 6=false by simp[eqB];omega,show eqB e.aS 7=false by simp[eqB];omega,show eqB e.aS 8=false by simp[eqB];omega];rfl
 rw[hb3]
 simp only[au]
 by_cases h4:e.aS=9\/e.aS=10
 .rw[if_pos h4]
  have:=Po h e
  have hb4:(bif eqB e.aS 9 then(some (eqB e.aS 9)) else(some (eqB e.aS 10)))=some true:=by rcases h4 with e|e<;>rw[e]<;>simp[eqB]
  rw[hb4]
  simp only[this.2.1,au]
  exact⟨by first|rfl|trivial,by first|rfl|trivial,this.2.2.mono oaa⟩
 rw[if_neg h4]
 have hb4:(bif eqB e.aS 9 then(some (eqB e.aS 9)) else(some (eqB e.aS 10)))=some false:=by
  rw[show eqB e.aS 9=false by simp[eqB];omega,show eqB e.aS 10=false by simp[eqB];omega];rfl
 rw[hb4]
 simp only[au]
 by_cases h5:e.aS=11\/e.aS=12
 .rw[if_pos h5]
  have:=KY h e.bR (eqB e.aS 12)
  have hb5:(bif eqB e.aS 11 then(some (eqB e.aS 11)) else(some (eqB e.aS 12)))=some true:=by rcases h5 with e|e<;>rw[e]<;>simp[eqB]
  rw[hb5]
  simp only[this.2.1 e rfl rfl,au]
  exact⟨by first|rfl|trivial,by first|rfl|trivial,this.2.2.mono oaa⟩
 rw[if_neg h5]
 have hb5:(bif eqB e.aS 11 then(some (eqB e.aS 11)) else(some (eqB e.aS 12)))=some false:=by
  rw[show eqB e.aS 11=false by simp[eqB];omega,show eqB e.aS 12=false by simp[eqB];omega];rfl
 rw[hb5]
 simp only[au]
 by_cases h6:e.aS=13
 .rw[if_pos h6,h6]
  have:=L7 h e he oaa
  simp only[aQ,this.2.1,au]
  exact⟨by first|rfl|trivial,by first|rfl|trivial,this.2.2.mono oaa⟩
 rw[if_neg h6,show eqB e.aS 13=false by simpa [eqB] using h6]
 exact⟨by first|rfl|trivial,by first|rfl|trivial,h.mono oaa⟩
attribute [local simp] bB aQ bk
structure BY (n:ab):Prop where
 d1:∀d∈n.ah,∀x∈d.aT.aO,okB x.a8
 d2:∀d∈n.ah,∀p∈d.aT.bj,okB p.a8
 s1:∀s∈n.aj,∀p∈s.ax,okB p.a8
 s2:∀s∈n.aj,∀x∈s.aq.aD,okB x.a8
 f:∀f∈n.aA,okB f.b6.cj.a8
theorem NP.of {n:ab} (ok:lb n) (v:pJ n=true) (b:BY n):NP n.Lost n:=by
 simp only[pJ,Fb,v0,bu,eb,YX,flB] at v
 obtain⟨v1,v2,v3,v4,v5,v6,v7,v8,v9,v10,v11,v12⟩:=v
 have v4:=sb v4
 have v5:=CJ v5
 have v6:=CJ v6
 have v8:=sb v8
 have v12:=sb v12
 refine⟨v1,ok.1,v2,Cd (by simpa using v3),by omega,v5,v6,λi d s a hd hs ha=>?_,by omega,λf hf=>?_,bu.2 v10,v11,⟨v12,by omega⟩⟩
 .have:=v7 i d hd
  simp only[Cr,hs,ha,v0] at this
  obtain⟨m1,m2,m3,m4,m5,m6,m7,m8⟩:=this
  have hdm:=YS hd
  have hsm:=YS hs
  have c1:=bu.1 (show inR d.aE 0 ((n.bX.aZ.length:Int)-1)=true from m5)
  have c2:=bu.1 (show inR s.aE 0 ((n.bX.aZ.length:Int)-1)=true from m6)
  exact⟨DP.of m1 (ok.2.1.2 d hdm) (b.d1 d hdm) (b.d2 d hdm),by omega,⟨(An (ok.2.2.1.2 s hsm)).1 m2,b.s1 s hsm,b.s2 s hsm,xz.1 m8⟩,by omega,fx m7,m4⟩
 have:=v9 f hf
 have c2:=bu.1 (show inR f.aE 0 ((n.bX.aZ.length:Int)-1)=true from this.2)
 exact⟨by omega,by omega,b.f f hf,ok.2.2.2.2.2 f hf⟩
theorem NP.okN {B:Int} {n:ab} (h:NP B n):lb n:=by
 have h1:=h.ld
 have h2:=h.ls
 have h3:=h.la
 have h4:=h.fl
 refine⟨h.mok,⟨by omega,λd hd=>?_⟩,⟨by omega,λs hs=>?_⟩,⟨by omega,λa ha=>?_⟩,⟨by omega,λf hf=>(h.fs f hf).ok⟩⟩
 .obtain⟨i,hi⟩:=Y4 hd
  have hlt:=(YP.1 hi).1
  obtain⟨d',s,a,e1,e2,e3,hm⟩:=h.at_ hlt
  rw[hi] at e1;cases e1;exact hm.dp.ok
 .obtain⟨i,hi⟩:=Y4 hs
  have hlt:=(YP.1 hi).1
  obtain⟨d',s,a,e1,e2,e3,hm⟩:=h.at_ (show i<n.ah.length by omega)
  rw[hi] at e2;cases e2;exact hm.sg.sp.ok
 obtain⟨i,hi⟩:=Y4 ha
 have hlt:=(YP.1 hi).1
 obtain⟨d',s,a,e1,e2,e3,hm⟩:=h.at_ (show i<n.ah.length by omega)
 rw[hi] at e3;cases e3;exact hm.sg.mo.acc.ok
theorem NP.by_ {B:Int} {n:ab} (h:NP B n):BY n:=by
 have h1:=h.ld
 have h2:=h.ls
 have gd:∀d∈n.ah,DP d:=λd hd=>by
  obtain⟨i,hi⟩:=Y4 hd
  obtain⟨d',s,a,e1,e2,e3,hm⟩:=h.at_ (YP.1 hi).1
  rw[hi] at e1;cases e1;exact hm.dp
 have gs:∀s∈n.aj,∃a,SG s a:=λs hs=>by
  obtain⟨i,hi⟩:=Y4 hs
  have hlt:=(YP.1 hi).1
  obtain⟨d',s,a,e1,e2,e3,hm⟩:=h.at_ (show i<n.ah.length by omega)
  rw[hi] at e2;cases e2;exact⟨a,hm.sg⟩
 exact⟨λd hd=>(gd d hd).rc.b1,λd hd=>(gd d hd).rc.b2,λs hs=>(gs s hs).elim λa h=>h.b1,λs hs=>(gs s hs).elim λa h=>h.b2,λf hf=>(h.fs f hf).b⟩
theorem NP.vn {B:Int} {n:ab} (h:NP B n):pJ n=true:=by
 have h1:=h.ld
 have h2:=h.ls
 have h3:=h.la
 have h4:=h.fl
 have h5:=h.lo
 have hu:eqB n.eD.f7 0=false:=by simpa [eqB] using h.up
 simp only[pJ,Fb,v0,bu,eb,YX,flB]
 refine⟨h.map,h.core,by simp[hu],leB_t.2 oaa,eqB_t.2 oaa,eqB_t.2 oaa,λi d hd=>?_,leB_t.2 oaa,λf hf=>?_,bu.1 h.dn,h.nw,leB_t.2 h5.1⟩
 .obtain⟨d',s,a,e1,e2,e3,hm⟩:=h.at_ (YP.1 hd).1
  rw[hd] at e1;cases e1
  have hc:=hm.dp.ce
  have hsc:=hm.sg.sp
  simp only[Cr,e2,e3,v0]
  exact⟨hm.dp.v,(An hm.sg.sp.ok).2 hm.sg.sp,CC.2 hm.sg.mo.acc,hm.ids,bu.2 (by have:=hm.dc;omega),bu.2 (by have:=hm.sc;have:=hsc.ce;omega),eqB_t.2 hm.si,xz.2 hm.sg.mo⟩
 have hf:=h.fs f hf
 exact⟨by have:=hf.d;omega,bu.2 (by have:=hf.c;omega)⟩
theorem Vm {B:Int} {n:ab} (h:NP B n) {e:cr} (he:EP e) (hB:B+10000<4611686018427387904):iG n e=some (bif(dZ n e).1 then((dZ n e).2,true) else(n,false)):=by
 have:=(yv h he hB).2.1
 simp only[iG,Tk h.okN,Bi h.okN,h.vn,this,au]
 cases(dZ n e).1<;>rfl
open Go.Proofs
attribute [local simp] bB aQ bk
theorem Hm (x:Int) (m:Nat) (hm:m<9223372036854775808):0<=yw .i64 x (m:Int)/\yw .i64 x (m:Int)<=m:=by
 unfold yw
 have h1:(BitVec.ofInt IntKind.i64.bits x&&& BitVec.ofInt IntKind.i64.bits (m:Int)).toNat<=m:=by
  rw[BitVec.toNat_and]
  refine ZY Nat.and_le_right ?_
  show(BitVec.ofInt 64 (m:Int)).toNat<=m
  rw[BitVec.toNat_ofInt]
  omega
 rw[IT oaa]
 omega
structure fc (c:bV):Prop where
 l:c.fb.length<=1048576
 u:∀x∈c.fb,yT x
 a:0<=c.fi
 b:c.fi<=c.fb.length
theorem zi {c:bV} (h:fc c):∃v c',sX c=some (v,c')/\0<=v/\v<=255/\fc c':=by
 unfold sX
 have:=h.l
 have ha:=h.a
 have hb:=h.b
 by_cases hi:c.fi<c.fb.length
 .obtain⟨x,hx,e⟩:=SD h.a hi
  rw[show ltB c.fi (c.fb.length:Int)=true from by simp[ltB,hi]]
  simp only[e,au]
  refine⟨_,_,rfl,(Hm _ 255 oaa).1,(Hm _ 255 oaa).2,⟨h.l,h.u,?_,?_⟩⟩
  .show 0<=WR (c.fi+1);rw[bP oaa];omega
  show WR (c.fi+1)<=(c.fb.length:Int);rw[bP oaa];omega
 rw[show ltB c.fi (c.fb.length:Int)=false from by simp[ltB];omega]
 simp only[au]
 exact⟨_,_,rfl,(Hm _ 255 oaa).1,(Hm _ 255 oaa).2,⟨h.l,h.u,h.a,h.b⟩⟩
theorem CW {v n:Int} (hv:0<=v) (hn:0<n):0<=aaG v n/\aaG v n<n:=by
 rw[aaR hv]
 exact⟨abe _ oaa,abb _ hn⟩
theorem Jp {c:bV} (h:fc c) {n:Int} (hn:1<=n):∃v c',gG c n=some (v,c')/\0<=v/\v<n/\fc c':=by
 unfold gG
 rw[show leB n 0=false from by simp[leB];omega]
 have hz:(!eqB n 0)=true:=by simp[eqB];omega
 simp only[hz,au]
 by_cases h2:n<=256
 .rw[show leB n 256=true from by simp[leB,h2]]
  obtain⟨v,c',e,h0,h1,hc⟩:=zi h
  have:=CW h0 (show 0<n by omega)
  simp only[e,au]
  exact⟨_,_,rfl,this.1,this.2,hc⟩
 rw[show leB n 256=false from by simp[leB];omega]
 obtain⟨v,c1,e,h0,h1,hc⟩:=zi h
 obtain⟨v2,c2,e2,h02,h12,hc2⟩:=zi hc
 obtain⟨v3,c3,e3,h03,h13,hc3⟩:=zi hc2
 simp only[e,e2,e3,au]
 rw[bP (n:=v*65536) oaa,bP (n:=v2*256) oaa,bP (n:=v*65536+v2*256) oaa,bP (n:=v*65536+v2*256+v3) oaa]
 have:=CW (v:=v*65536+v2*256+v3) oaa (show 0<n by omega)
 exact⟨_,_,rfl,this.1,this.2,hc3⟩
theorem VQ {c:bV} (h:fc c) {n:Int} (hn:1<=n):∃v c',qD c n=some (v,c')/\fc c':=by
 obtain⟨v,c',e,_,_,hc⟩:=Jp h hn
 exact⟨_,_,by rw[qD,e];rfl,hc⟩
theorem XY {xs:List Int} (hl:xs.length<=1048576) (hu:∀x∈xs,yT x):∃c,Iz xs=some c/\fc c/\c.fb=xs:=by
 have key:∀(m n k:Nat) (v:Int),m=xs.length-k->k<=xs.length->m<n->∃r,iter (uv xs) n (v,(k:Int))=some r:=by
  intro m
  induction m with
  |zero=>
   intro n k v hm hk hn
   cases n with
   |zero=>omega
   |succ n=>
    have:k=xs.length:=by omega
    subst this
    exact⟨v,by rw[iter];simp[uv]⟩
  |succ m ih=>
   intro n k v hm hk hn
   cases n with
   |zero=>omega
   |succ n=>
    have hlt:k<xs.length:=by omega
    rw[iter]
    simp only[uv,dm hlt,bk,YO hlt,cp (show k<9223372036854775807 by omega),au]
    cases ltB (k:Int) 4000
    .exact⟨v,rfl⟩
    exact ih n (k+1) _ oaa oaa oaa
 obtain⟨r,hr⟩:=key xs.length FU 0 (WR (193017+(xs.length:Int))) oaa oaa (by have:=kj;omega)
 refine⟨⟨xs,0,r⟩,?_,⟨hl,hu,aaF 0,Int.natCast_nonneg _⟩,rfl⟩
 rw[Iz,show iter (uv xs) FU (WR (193017+(xs.length:Int)),0)=some r from hr]
 rfl
attribute [local simp] bB aQ bk
theorem qc {c:bV} (h:fc c) {n:Int} (hn:1<=n):Wp (gG c n) (λr=>fc r.2/\0<=r.1/\r.1<n):=by
 obtain⟨v,c',e,h0,h1,hc⟩:=Jp h hn
 exact Wp.of e ⟨hc,h0,h1⟩
theorem Ls {c:bV} (h:fc c) {n:Int} (hn:1<=n):Wp (qD c n) (λr=>fc r.2):=by
 obtain⟨v,c',e,hc⟩:=VQ h hn
 exact Wp.of e hc
theorem YG {c:bV} (h:fc c) {n:Int} (h0:0<=n) (hn:n<=4000):Wp (As c n) (λr=>fc r.2/\okB r.1/\(r.1.length:Int)=n):=by
 unfold As
 refine Wp.call (P:=λx=>fc x.2/\okB x.1/\(x.1.length:Int)=n) ?_ λx hx=>Wp.some hx
 refine Wp.iterF (λx=>(0<=x.1/\x.1<=n)/\fc x.2.2/\okB x.2.1/\(x.2.1.length:Int)=x.1) (λx=>(n-x.1).toNat) ⟨⟨by omega,by omega⟩,h,λx hx=>by simp at hx,by simp⟩ (by simp only;have:=kj;omega) ?_
 rintro⟨v1,v5,v6⟩ ⟨⟨i0,i1⟩,i2,i3,i4⟩
 simp only at i0 i1 i2 i3 i4
 simp only[B4]
 refine Wp.cond (λhb=>?_) (λhb=>Wp.some ⟨i2,i3,by have:=nO hb;show(v5.length:Int)=n;omega⟩)
 have hb:=ko hb
 obtain⟨b,c',e,b0,b1,hc⟩:=zi i2
 refine Wp.call (Wp.of (Q:=λr=>fc r.2/\0<=r.1/\r.1<=255) e ⟨hc,b0,b1⟩) λr hr=>?_
 refine Wp.ok (iD (by simp;omega) (by simp;omega)) (Wp.some ⟨⟨⟨?_,?_⟩,hr.1,?_,?_⟩,?_⟩)
 all_goals simp only[bP (show-9223372036854775808<=v1+1/\v1+1<=9223372036854775807 by omega)]
 .omega
 .omega
 .intro x hx
  rcases YR.1 hx with hx|hx
  .exact i3 x hx
  simp at hx;subst hx
  have e1:IntKind.u8.wrap r.1=r.1:=by rw[Ly];omega
  rw[e1];exact hr.2
 .simp;omega
 omega
theorem Iw {α:Type} {P:α->Prop} {xs:List α} {i:Nat} {a:α} (h:∀x∈xs,P x) (ha:P a):∀x∈xs.set i a,P x:=λx hx=>by
 rcases abd hx with h'|h'
 .exact h x h'
 rw[h'];exact ha
theorem Tq {v:List (Int×List Int)} (h1:v.length<=5) (h2:∀e∈v,e.2.length<=1000):gR (⟨v.map λe=>(⟨e.1,e.2⟩:eY)⟩:aU):=by
 refine⟨by show(v.map _).length<=_;simp;omega,λx hx=>?_⟩
 obtain⟨e,he,rfl⟩:=ZQ.1 hx
 exact⟨by have:=h2 e he;show e.2.length<=_;omega,λ_ _=>trivial⟩
open Go.Proofs
attribute [local simp] bB aQ bk
structure JM (v:List (Int×List Int)):Prop where
 ar:∀e∈v,0<=e.1/\e.1<=1
 rg:∀(i:Nat) e,v[i]?=some e->∀x∈e.2,0<=x/\x<v.length/\x≠i
 sy:∀(i j:Nat) e f,v[i]?=some e->v[j]?=some f->(j:Int)∈e.2->(i:Int)∈f.2
def N7 (v:List (Int×List Int)) (a b:Nat) (x y:Int×List Int):List (Int×List Int):=(v.set a (x.1,x.2++[(b:Int)])).set b (y.1,y.2++[(a:Int)])
theorem zU {v:List (Int×List Int)} {a b:Nat} {x y:Int×List Int} (hx:v[a]?=some x) (hy:v[b]?=some y) (hab:a≠b) {i:Nat} {e':Int×List Int} (h:(N7 v a b x y)[i]?=some e'):
 ∃e,v[i]?=some e/\e'.1=e.1/\∀z,z∈e'.2↔z∈e.2\/(i=a/\z=b)\/(i=b/\z=a):=by
 rcases gI h with⟨e1,e2⟩|⟨e1,e2⟩
 .subst e1;subst e2
  refine⟨y,hy,rfl,λz=>?_⟩
  simp only[YR,ZS]
  refine⟨λh=>?_,λh=>?_⟩
  .rcases h with h|h
   .exact .inl h
   exact .inr (.inr ⟨by trivial,h⟩)
  rcases h with h|h|h
  .exact .inl h
  .exact absurd h.1.symm hab
  exact .inr h.2
 rcases gI e2 with⟨e3,e4⟩|⟨e3,e4⟩
 .subst e3;subst e4
  refine⟨x,hx,rfl,λz=>?_⟩
  simp only[YR,ZS]
  refine⟨λh=>?_,λh=>?_⟩
  .rcases h with h|h
   .exact .inl h
   exact .inr (.inl ⟨by trivial,h⟩)
  rcases h with h|h|h
  .exact .inl h
  .exact .inr h.2
  exact absurd h.1 hab
 refine⟨e',e4,rfl,λz=>⟨.inl,λh=>?_⟩⟩
 rcases h with h|h|h
 .exact h
 .exact absurd h.1.symm e3
 exact absurd h.1.symm e1
theorem SF {v:List (Int×List Int)} (h:JM v) {a b:Nat} {x y:Int×List Int} (hx:v[a]?=some x) (hy:v[b]?=some y) (hab:a≠b):JM (N7 v a b x y):=by
 have ha:=(YP.1 hx).1
 have hb:=(YP.1 hy).1
 have hl:(N7 v a b x y).length=v.length:=by simp[N7]
 refine⟨λe he=>?_,λi e he z hz=>?_,λi j e f he hf hj=>?_⟩
 .obtain⟨i,hi⟩:=Y4 he
  obtain⟨e0,h0,h1,_⟩:=zU hx hy hab hi
  rw[h1];exact h.ar e0 (YS h0)
 .obtain⟨e0,h0,h1,h2⟩:=zU hx hy hab he
  rw[hl]
  rcases(h2 z).1 hz with hz|hz|hz
  .exact h.rg i e0 h0 z hz
  .obtain⟨rfl,rfl⟩:=hz;omega
  obtain⟨rfl,rfl⟩:=hz;omega
 obtain⟨e0,h0,h1,h2⟩:=zU hx hy hab he
 obtain⟨f0,g0,g1,g2⟩:=zU hx hy hab hf
 rw[g2]
 rcases(h2 j).1 hj with hz|hz|hz
 .exact .inl (h.sy i j e0 f0 h0 g0 hz)
 .exact .inr (.inr ⟨by omega,by omega⟩)
 exact .inr (.inl ⟨by omega,by omega⟩)
theorem YI {v:List (Int×List Int)} {a b:Int} {B:Nat} (hB:B<=1000) (hv:∀e∈v,e.2.length<=B) (hj:JM v) (a0:0<=a) (a1:a<v.length) (b0:0<=b) (b1:b<v.length) (hab:a≠b):Wp (ur v a b) (λr=>(r.length=v.length/\∀e∈r,e.2.length<=B+2)/\JM r):=by
 obtain⟨i,rfl⟩:∃i:Nat,a=i:=⟨a.toNat,by omega⟩
 obtain⟨j,rfl⟩:∃j:Nat,b=j:=⟨b.toNat,by omega⟩
 obtain⟨x,hx⟩:∃x,v[i]?=some x:=⟨_,YO oaa⟩
 obtain⟨y,hy⟩:∃y,v[j]?=some y:=⟨_,YO oaa⟩
 have h1:=hv x (YS hx)
 have h2:=hv y (YS hy)
 have hy':(v.set i (x.1,x.2++[(j:Int)]))[j]?=some y:=by rw[aaq,if_neg oaa];exact hy
 unfold ur
 rw[bk,hx]
 simp only[aaE,aaH]
 refine Wp.ok (iD (by simp;omega) (by simp;omega)) ?_
 rw[bk,hy']
 simp only[aaE]
 refine Wp.ok (iD (by simp;omega) (by simp;omega)) (Wp.some ⟨⟨by simp,Iw (Iw (λe he=>by have:=hv e he;omega) (by simp;omega)) (by simp;omega)⟩,?_⟩)
 exact SF hj hx hy oaa
structure RW (n:Int) (e e':Int×List Int):Prop where
 a:e'.1=e.1
 m:∀z,z∈e'.2↔z∈e.2/\(0<=z/\z<n)
 o:e'.2.Pairwise λx y=>x<y
 l:(e'.2.length:Int)<=n
theorem MC {v w:List (Int×List Int)} (h:JM v) (hl:w.length=v.length) (h2:2<=v.length/\v.length<=5) (hw:∀(i:Nat) e,v[i]?=some e->∃e',w[i]?=some e'/\RW v.length e e'):oI (⟨w.map λe=>(⟨e.1,e.2⟩:eY)⟩:aU)=true:=by
 have hlen:(w.map λe=>(⟨e.1,e.2⟩:eY)).length=v.length:=by simp[hl]
 have get:∀(i:Nat) c,(w.map λe=>(⟨e.1,e.2⟩:eY))[i]?=some c->∃e e',v[i]?=some e/\w[i]?=some e'/\RW v.length e e'/\c=⟨e'.1,e'.2⟩:=by
  intro i c hc
  have hi:=(YP.1 hc).1
  obtain⟨e,he⟩:∃e,v[i]?=some e:=⟨_,YO oaa⟩
  obtain⟨e',he',hr⟩:=hw i e he
  rw[Zo,he'] at hc
  cases hc;exact⟨e,e',he,he',hr,rfl⟩
 simp only[oI,v0,bu,eb,hlen]
 refine⟨by omega,λi c hc=>?_⟩
 obtain⟨e,e',he,he',hr,rfl⟩:=get i c hc
 have har:=h.ar e (YS he)
 simp only[xg,v0,bu,eb,nbB,ew,hlen]
 refine⟨by rw[hr.a];omega,λk x hx=>?_⟩
 have hm:=YS hx
 have hme:=(hr.m x).1 hm
 have hrg:=h.rg i e he x hme.1
 obtain⟨j,rfl⟩:∃j:Nat,x=j:=⟨x.toNat,by omega⟩
 refine⟨by omega,by have:=hrg.2.2;simpa [eqB] using this,CN (key:=id) (by simpa using hr.o) hx,?_⟩
 obtain⟨f,hf⟩:∃f,v[j]?=some f:=⟨_,YO oaa⟩
 obtain⟨f',hf',hrf⟩:=hw j f hf
 have hi:=(YP.1 he).1
 have hs:=h.sy i j e f he hf hme.1
 simp only[zg,aaH,Zo,hf',aaY,Zh]
 exact⟨i,(hrf.m i).2 ⟨hs,by omega,by omega⟩,aQ _⟩
theorem YH {c:bV} (h:fc c):Wp (xE c) (λr=>fc r.2/\((2<=r.1.length/\r.1.length<=5)/\∀e∈r.1,e.2.length<=200)/\oI (⟨r.1.map λe=>(⟨e.1,e.2⟩:eY)⟩:aU)=true):=by
 unfold xE
 refine Wp.call (qc h oaa) λr1 h1=>?_
 obtain⟨n,hn⟩:∃n:Int,n=WR (2+r1.1):=⟨_,rfl⟩
 have hn1:n=2+r1.1:=by rw[hn,bP oaa]
 refine Wp.call (P:=λx=>fc ⟨x.1,x.2.1,x.2.2.1⟩/\(x.2.2.2.length:Int)=n/\∀a∈x.2.2.2,0<=a/\a<=1) ?_ ?_
 .refine Wp.iterF (λx=>(0<=x.1/\x.1<=n)/\fc ⟨x.2.1,x.2.2.1,x.2.2.2.1⟩/\(x.2.2.2.2.length:Int)=x.1/\∀a∈x.2.2.2.2,0<=a/\a<=1) (λx=>(n-x.1).toNat) ⟨⟨by simp only;omega,by simp only;omega⟩,h1.1,by simp,by simp⟩ (by simp only;omega) ?_
  rintro⟨v2,v3,v4,v5,v6⟩ ⟨⟨i0,i1⟩,i2,i3,i4⟩
  simp only at i0 i1 i2 i3 i4
  simp only[BZ,<-hn]
  refine Wp.cond (λhb=>?_) (λhb=>Wp.some ⟨i2,by have:=nO hb;show(v6.length:Int)=n;omega,i4⟩)
  have hb:=ko hb
  refine Wp.call (qc i2 oaa) λr12 h12=>Wp.ok (iD (by simp;omega) (by simp;omega)) (Wp.some ⟨⟨⟨?_,?_⟩,h12.1,?_,?_⟩,?_⟩)
  all_goals simp only[bP (show-9223372036854775808<=v2+1/\v2+1<=9223372036854775807 by omega)]
  .omega
  .omega
  .simp;omega
  .intro a ha
   rcases YR.1 ha with ha|ha
   .exact i4 a ha
   simp at ha;subst ha;omega
  omega
 rintro⟨v8,v9,v10,v11⟩ ⟨hc,hl,har⟩
 simp only at hc hl har
 refine Wp.call (P:=λx=>fc ⟨x.1,x.2.1,x.2.2.1⟩/\((x.2.2.2.length:Int)=n/\∀e∈x.2.2.2,e.2.length<=200)/\JM x.2.2.2) ?_ ?_
 .refine Wp.iterF (λx=>(1<=x.1/\x.1<=n)/\fc ⟨x.2.1,x.2.2.1,x.2.2.2.1⟩/\((x.2.2.2.2.length:Int)=n/\∀e∈x.2.2.2.2,e.2.length<=20*x.1.toNat)/\JM x.2.2.2.2) (λx=>(n-x.1).toNat) ⟨⟨by simp only;omega,by simp only;omega⟩,hc,⟨by simpa using hl,by simp⟩,⟨by simpa using har,λi e he x hx=>?_,λi j e f he hf hj=>?_⟩⟩ (by simp only;omega) ?_
  .simp only[Zo] at he
   cases hv:v11[i]?<;>rw[hv] at he<;>cases he;simp at hx
  .simp only[Zo] at he
   cases hv:v11[i]?<;>rw[hv] at he<;>cases he;simp at hj
  rintro⟨v13,v14,v15,v16,v17⟩ ⟨⟨i0,i1⟩,i2,⟨i3,i4⟩,i5⟩
  simp only at i0 i1 i2 i3 i4 i5
  simp only[B0,<-hn]
  refine Wp.cond (λhb=>?_) (λhb=>Wp.some ⟨i2,⟨i3,λe he=>by have:=i4 e he;show e.2.length<=200;omega⟩,i5⟩)
  have hb:=ko hb
  refine Wp.call (P:=λx=>fc ⟨x.1,x.2.1,x.2.2.1⟩/\((x.2.2.2.length:Int)=n/\∀e∈x.2.2.2,e.2.length<=20*v13.toNat+2*v13.toNat)/\JM x.2.2.2) ?_ ?_
  .refine Wp.iterF (λx=>(0<=x.1/\x.1<=v13)/\fc ⟨x.2.1,x.2.2.1,x.2.2.2.1⟩/\((x.2.2.2.2.length:Int)=n/\∀e∈x.2.2.2.2,e.2.length<=20*v13.toNat+2*x.1.toNat)/\JM x.2.2.2.2) (λx=>(v13-x.1).toNat) ⟨⟨by simp only;omega,by simp only;omega⟩,i2,⟨i3,by simpa using i4⟩,i5⟩ (by simp only;omega) ?_
   rintro⟨v43,v44,v45,v46,v47⟩ ⟨⟨j0,j1⟩,j2,⟨j3,j4⟩,j5⟩
   simp only at j0 j1 j2 j3 j4 j5
   simp only[B1]
   refine Wp.cond (λhc=>?_) (λhc=>Wp.some ⟨j2,⟨j3,λe he=>by have:=j4 e he;have:=nO hc;show e.2.length<=_;omega⟩,j5⟩)
   have hc:=ko hc
   refine Wp.call (P:=λx=>fc ⟨x.2.1,x.2.2.1,x.2.2.2⟩) ?_ ?_
   .refine Wp.cond (λ_=>Wp.call (Ls j2 oaa) λr62 h62=>?_) (λ_=>Wp.call (Ls j2 oaa) λr64 h64=>Wp.some h64)
    exact Wp.cond (λ_=>Wp.some h62) (λ_=>Wp.call (Ls h62 oaa) λr63 h63=>Wp.some h63)
   rintro⟨v58,v59,v60,v61⟩ hc2
   refine Wp.call (P:=λx=>((x.length:Int)=n/\∀e∈x,e.2.length<=20*v13.toNat+2*v43.toNat+2)/\JM x) ?_ ?_
   .refine Wp.cond (λ_=>Wp.call (YI (B:=20*v13.toNat+2*v43.toNat) oaa j4 j5 oaa oaa oaa oaa oaa) λr65 h65=>Wp.some ⟨⟨by rw[h65.1.1];exact j3,h65.1.2⟩,h65.2⟩) (λ_=>Wp.some ⟨⟨j3,λe he=>by have:=j4 e he;omega⟩,j5⟩)
   intro v62 h62
   refine Wp.some ⟨⟨⟨?_,?_⟩,hc2,⟨h62.1.1,λe he=>?_⟩,h62.2⟩,?_⟩
   all_goals simp only[bP (show-9223372036854775808<=v43+1/\v43+1<=9223372036854775807 by omega)]
   .omega
   .omega
   .have:=h62.1.2 e he;omega
   omega
  rintro⟨v55,v56,v57,v58⟩ ⟨k1,⟨k2,k3⟩,k4⟩
  simp only at k1 k2 k3 k4
  refine Wp.some ⟨⟨⟨?_,?_⟩,k1,⟨k2,λe he=>?_⟩,k4⟩,?_⟩
  all_goals simp only[bP (show-9223372036854775808<=v13+1/\v13+1<=9223372036854775807 by omega)]
  .omega
  .omega
  .have:=k3 e he;omega
  omega
 rintro⟨v40,v41,v42,v43⟩ ⟨hc,⟨hl,hb⟩,hj⟩
 simp only at hc hl hb hj
 have hn5:2<=v43.length/\v43.length<=5:=by omega
 refine Wp.call (P:=λx=>((x.length:Int)=n/\∀e∈x,e.2.length<=200)/\∀(i:Nat) e,v43[i]?=some e->∃e',x[i]?=some e'/\RW n e e') ?_ λv78 h78=>Wp.some ⟨hc,⟨by have:=h78.1.1;show 2<=v78.length/\v78.length<=5;omega,h78.1.2⟩,MC hj (by have:=h78.1.1;show v78.length=v43.length;omega) hn5 (by rw[hl];exact h78.2)⟩
 refine Wp.iterF (λx=>(0<=x.1/\x.1<=n)/\((x.2.length:Int)=n/\∀e∈x.2,e.2.length<=200)/\∀(i:Nat) e,v43[i]?=some e->∃e',x.2[i]?=some e'/\((i:Int)<x.1->RW n e e')/\(x.1<=(i:Int)->e'=e)) (λx=>(n-x.1).toNat) ⟨⟨by simp only;omega,by simp only;omega⟩,⟨hl,hb⟩,λi e he=>⟨e,he,λhi=>by simp only at hi;omega,λ_=>rfl⟩⟩ (by simp only;omega) ?_
 rintro⟨v66,v67⟩ ⟨⟨i0,i1⟩,⟨i3,i4⟩,i5⟩
 simp only at i0 i1 i3 i4 i5
 simp only[B2,<-hn]
 refine Wp.cond (λhb=>?_) (λhb=>Wp.some ⟨⟨i3,i4⟩,λi e he=>?_⟩)
 rotate_left
 .obtain⟨e',h1,h2,h3⟩:=i5 i e he
  have hi:=(YP.1 he).1
  have:=nO hb
  exact⟨e',h1,h2 oaa⟩
 have hb:=ko hb
 obtain⟨q,rfl⟩:∃q:Nat,v66=q:=⟨v66.toNat,by omega⟩
 obtain⟨e0,he0⟩:∃e0,v43[q]?=some e0:=⟨_,YO oaa⟩
 obtain⟨eq',hq1,_,hq3⟩:=i5 q e0 he0
 have hq3:=hq3 (aaF _)
 subst hq3
 have hl0:=i4 eq' (YS hq1)
 refine Wp.call (P:=λx=>(x.length:Int)<=n/\(∀z,z∈x↔z∈eq'.2/\(0<=z/\z<n))/\x.Pairwise λx y=>x<y) ?_ ?_
 .refine Wp.iterF (λx=>(0<=x.1/\x.1<=n)/\(x.2.length:Int)<=x.1/\(∀z,z∈x.2↔z∈eq'.2/\(0<=z/\z<x.1))/\x.2.Pairwise λx y=>x<y) (λx=>(n-x.1).toNat) ⟨⟨by simp only;omega,by simp only;omega⟩,by simp,λz=>by simp,by simp⟩ (by simp only;omega) ?_
  rintro⟨v79,v80⟩ ⟨⟨j0,j1⟩,j2,j3,j4⟩
  simp only at j0 j1 j2 j3 j4
  simp only[B3,<-hn]
  refine Wp.cond (λhc=>?_) (λhc=>?_)
  rotate_left
  .have:=nO hc
   have e:v79=n:=by omega
   subst e
   exact Wp.some ⟨j2,j3,j4⟩
  have hc:=ko hc
  simp only[bk,hq1,aaE,Sn (show eq'.2.length<=1048576 by omega)]
  have key:(eq'.2.any λx=>eqB x v79)=true↔v79∈eq'.2:=by
   rw[Zh];exact⟨λ⟨x,h1,h2⟩=>by rw[<-fx h2];exact h1,λh=>⟨v79,h,aQ _⟩⟩
  refine Wp.call (P:=λx=>(x.length:Int)<=v79+1/\(∀z,z∈x↔z∈eq'.2/\(0<=z/\z<v79+1))/\x.Pairwise λx y=>x<y) ?_ λx hx=>Wp.some ⟨⟨⟨?_,?_⟩,?_,?_,hx.2.2⟩,?_⟩
  .refine Wp.cond (λhh=>Wp.ok (iD (by simp;omega) (by simp;omega)) (Wp.some ⟨by simp;omega,λz=>?_,?_⟩)) (λhh=>Wp.some ⟨by omega,λz=>?_,j4⟩)
   .have:=key.1 hh
    rw[YR,j3 z]
    constructor
    .rintro(h|h)
     .exact⟨h.1,by omega⟩
     simp at h;subst h;exact⟨this,by omega⟩
    rintro⟨h1,h2⟩
    by_cases e:z=v79
    .exact .inr (by simp[e])
    exact .inl ⟨h1,by omega⟩
   .refine aaL.2 ⟨j4,by simp,λx hx y hy=>?_⟩
    simp at hy;subst hy
    exact((j3 x).1 hx).2.2
   rw[j3 z]
   constructor
   .rintro⟨h1,h2⟩;exact⟨h1,by omega⟩
   rintro⟨h1,h2⟩
   refine⟨h1,h2.1,?_⟩
   by_cases e:z=v79
   .subst e;rw[key.2 h1] at hh;cases hh
   omega
  all_goals simp only[bP (show-9223372036854775808<=v79+1/\v79+1<=9223372036854775807 by omega)]
  .omega
  .omega
  .exact hx.1
  .exact hx.2.1
  omega
 intro v84 h84
 simp only[bk,hq1,aaE,aaH]
 refine Wp.some ⟨⟨⟨?_,?_⟩,⟨by simpa using i3,Iw i4 (by have:=h84.1;show v84.length<=200;omega)⟩,λi e he=>?_⟩,?_⟩
 all_goals simp only[bP (show-9223372036854775808<=(q:Int)+1/\(q:Int)+1<=9223372036854775807 by omega)]
 .omega
 .omega
 .obtain⟨e',h1,h2,h3⟩:=i5 i e he
  by_cases hi:q=i
  .subst hi
   rw[he0] at he;cases he
   exact⟨(eq'.1,v84),by simp[(YP.1 hq1).1],λ_=>⟨rfl,h84.2.1,h84.2.2,h84.1⟩,λh=>by omega⟩
  exact⟨e',by rw[aaq,if_neg hi];exact h1,λh=>h2 oaa,λh=>h3 oaa⟩
 omega
theorem UE {c:bV} (h:fc c):Wp (Ap c) (λr=>fc r.2/\gR r.1/\oI r.1=true):=by
 unfold Ap
 exact Wp.call (YH h) λr hr=>Wp.some ⟨hr.1,Tq hr.2.1.1.2 (λe he=>by have:=hr.2.1.2 e he;omega),hr.2.2⟩
open Go.Proofs
attribute [local simp] bB aQ bk
theorem Db {α τ ρ:Type} {L:τ->Option (cK τ ρ)} (mk:Nat->τ) (xs:List α) (p:Nat->α->Bool) (f:ρ) (c:Option ρ) (hl:xs.length<=9223372036854775806)
 (hs:∀(k:Nat) (x:α),xs[k]?=some x->k<xs.length->L (mk k)=bif p k x then some (.next (mk (k+1))) else some (.done f)) (he:L (mk xs.length)=dn c):
 iter L FU (mk 0)=bif fZ p xs then c else some f:=by
 have:=fP (step:=L) xs.zipIdx (λk (_:Unit)=>mk k) (λ_ y=>bif p y.2 y.1 then some (.next ()) else some (.done f)) (λ_=>c) (by simpa using hl)
  (λk y s hy hk=>by
   have hk':k<xs.length:=by simpa using hk
   have:y=(xs[k],k):=by rw[YO hk] at hy;simpa using hy.symm
   subst this
   rw[hs k xs[k] (YO hk') hk'];cases p k xs[k]<;>rfl) (λs=>by rw[aa9,he]) ()
 refine Eq.trans (show iter L FU (mk 0)=_ from this) ?_
 have key:∀ys:List (α×Nat),kN (λ(_:Unit) y=>bif p y.2 y.1 then some (.next ()) else some (cK.done f)) (λ_=>c) ys ()=bif ys.all (λy=>p y.2 y.1) then c else some f:=by
  intro ys
  induction ys with
  |nil=>rfl
  |cons x xs ih=>rw[kN];cases hp:p x.2 x.1<;>simp[hp,ih]
 exact key _
theorem AJ {α:Type} (xs:List α):fZ (λ_ _=>true) xs=true:=eb.2 λ_ _ _=>rfl
theorem K0 {m:aU} (h:gR m):Ao m=some m:=by
 have hl:=h.1
 have:=Db (L:=pF m) (λk=>((k:Int),m.aZ.take k)) m.aZ (λ_ _=>true) m.aZ (some m.aZ) oaa (λk x hx hk=>by
  have hm:=YS hx
  have h1:=(h.2 x hm).1
  have e:m.aZ.take (k+1)=m.aZ.take k++[x]:=by rw[aa0,hx];rfl
  simp only[pF,dm hk,bk,hx,ZR,e,cp (show k<9223372036854775807 by omega),
   iD (b:=8) (n:=x.b8.length) oaa oaa,
   iD (b:=32) (n:=(m.aZ.take k++[(⟨x.fJ,x.b8⟩:eY)]).length) (by simp;omega) (by simp;omega),au]) (by simp[pF])
 rw[AJ] at this
 have this:iter (pF m) FU (0,[])=some m.aZ:=by simpa using this
 rw[Ao,this];rfl
def yX (x y:aP):Bool:=eqB x.ID.d8 y.ID.d8&&(eqB x.ID.bI y.ID.bI&&true)
theorem Qy (x y:aP):yX x y=(eqB x.ID.d8 y.ID.d8&&(eqB x.ID.bI y.ID.bI&&true)):=rfl
def BU (rs:List aP) (k:Nat) (x:aP):Bool:=uC x&&fZ (λ_ y=>!yX y x) (rs.take k)
def s7 (rs:List aP):Bool:=fZ (BU rs) rs&&leB (rs.length:Int) 4
theorem K9 {α:Type} {xs:List α} {k i:Nat} {x:α} (h:(xs.take k)[i]?=some x):xs[i]?=some x/\i<k:=by
 rw[List.getElem?_take] at h
 split at h
 .exact⟨h,by assumption⟩
 cases h
theorem Mz {rs:List aP} (hl:rs.length<=1000):sY rs=some (s7 rs):=by
 have h2:∀(i:Nat) (x:aP),rs[i]?=some x->iter (nZ rs (i:Int)) FU 0=bif fZ (λ_ y=>!yX y x) (rs.take i) then some (.next ((i+1:Nat):Int)) else some (.done false):=by
  intro i x hx
  have hi:=(YP.1 hx).1
  have hlt:(rs.take i).length=i:=by simp;omega
  refine my (rs.take i) (λ_ y=>!yX y x) (cK.done false) _ oaa (λk y hy hk=>?_) (by simp[nZ,hlt,cp (show i<9223372036854775807 by omega)])
  obtain⟨hy',hki⟩:=K9 hy
  simp only[nZ,dm hki,bk,hx,hy',cp (show k<9223372036854775807 by omega),<-Qy,au]
  cases yX y x<;>rfl
 have hL:iter (nY rs) FU 0=bif fZ (BU rs) rs then some (leB (rs.length:Int) 4) else some false:=by
  refine my rs (BU rs) false _ oaa (λk x hx hk=>?_) (by simp[nY])
  simp only[nY,dm hk,bk,hx,rec_s,h2 k x hx,BU,au]
  cases uC x<;>cases fZ (λ_ y=>!yX y x) (rs.take k)<;>rfl
 simp only[sY,hL,s7]
 cases fZ (BU rs) rs<;>rfl
def pb (c:Nat) (rs:List aP) (j:Nat):aw:=⟨⟨(rs.getD j default).ID,(rs.getD j default).eR,(rs.getD j default).cQ⟩,0,aaG (j:Int) (c:Int),0,0,0,false,0,⟨1,[],[]⟩⟩
def lh (p:bz) (rs:List aP) (j:Nat):ae:=⟨rs.getD j default,p,0,⟨0,0,0,0,0⟩,0,0,0,0,0,0,⟨0,0,0⟩,[],⟨1,[]⟩,0,⟨(j:Int),0,0⟩⟩
def zh (b:Int):Int:=bif inR b 0 100000 then b else 0
def xL (b:Int):av:=⟨zh b,zh b,0,[]⟩
def gH (m:aU) (rs:List aP) (p:bz) (b:Int) (n:Nat):ab:=
 ⟨m,(YQ n).map (pb m.aZ.length rs),(YQ n).map (lh p rs),(YQ n).map (λ_=>xL b),[],0,⟨2,3⟩,0,0⟩
def zeroN:ab:=⟨⟨[]⟩,[],[],[],[],0,⟨0,0⟩,0,0⟩
theorem acc_s (b:Int):sT b=some (xL b):=by
 simp only[sT,wO,aaE,xL,zh];cases inR b 0 100000<;>rfl
theorem ses_s {p:bz} (h:ez p) (x:aP) (k:Int):sV x p k=some (⟨x,p,0,⟨0,0,0,0,0⟩,0,0,0,0,0,0,⟨0,0,0⟩,[],⟨1,[]⟩,0,⟨k,0,0⟩⟩:ae):=by
 have h1:=h.1
 simp only[sV,uy,ZR,iD (b:=8) (n:=p.bv.length) oaa oaa,au];rfl
theorem Vf (c:qf) (k:Int):vj c k=some (⟨c,0,k,0,0,0,false,0,⟨1,[],[]⟩⟩:aw):=by rw[vj];rfl
theorem Qn {α:Type} (f:Nat->α) (k:Nat):(YQ (k+1)).map f=(YQ k).map f++[f k]:=by rw[List.range_succ,List.map_append];rfl
theorem HM {α:Type} [Inhabited α] {xs:List α} {k:Nat} {x:α} (h:xs[k]?=some x):xs.getD k default=x:=by rw[Z4,h];rfl
def mkN (m:aU) (rs:List aP) (p:bz) (b:Int) (k:Nat):Int×List av×List ae×List aw:=((k:Int),(gH m rs p b k).aB,(gH m rs p b k).aj,(gH m rs p b k).ah)
theorem new_s {m:aU} (hm:gR m) {rs:List aP} (hl:rs.length<=1000) {p:bz} (hp:ez p) (b:Int):
 sU m rs p b=some (bif oI m&&(pL p&&s7 rs) then gH m rs p b rs.length else zeroN):=by
 simp only[sU,map_s hm,Ys hp,Mz hl,aaE]
 cases hv:oI m with
 |false=>rfl
 |true=>
  cases pL p with
  |false=>rfl
  |true=>
   cases s7 rs with
   |false=>rfl
   |true=>
    have hc:1<=m.aZ.length:=by
     simp only[oI,v0] at hv
     have:=bu.1 hv.1;omega
    have hz:eqB (m.aZ.length:Int) 0=false:=eqB_f.2 oaa
    have:=Db (L:=nW m rs p b) (mkN m rs p b) rs (λ_ _=>true) ((gH m rs p b rs.length).aB,(gH m rs p b rs.length).aj,(gH m rs p b rs.length).ah) (some ((gH m rs p b rs.length).aB,(gH m rs p b rs.length).aj,(gH m rs p b rs.length).ah)) oaa (λk x hx hk=>by
     simp only[mkN,gH,nW,dm hk,bk,hx,hz,Vf,dV,ses_s hp,acc_s,cp (show k<9223372036854775807 by omega),Qn,
      iD (b:=144) (n:=((YQ k).map (pb m.aZ.length rs)++[(⟨⟨x.ID,x.eR,x.cQ⟩,0,aaG (k:Int) (m.aZ.length:Int),0,0,0,false,0,⟨1,[],[]⟩⟩:aw)]).length) (by simp;omega) (by simp;omega),
      iD (b:=288) (n:=((YQ k).map (lh p rs)++[(⟨x,p,0,⟨0,0,0,0,0⟩,0,0,0,0,0,0,⟨0,0,0⟩,[],⟨1,[]⟩,0,⟨(k:Int),0,0⟩⟩:ae)]).length) (by simp;omega) (by simp;omega),
      iD (b:=48) (n:=((YQ k).map (λ_=>xL b)++[(⟨(xL b).iz,(xL b).bK,(xL b).dW,[]⟩:av)]).length) (by simp;omega) (by simp;omega),pb,lh,HM hx,au]
     rfl) (by simp[mkN,nW])
    rw[AJ] at this
    simp only[Bool.and_self,K0 hm,au]
    rw[show((0:Int),([]:List av),([]:List ae),([]:List aw))=mkN m rs p b 0 from rfl,this]
    rfl
section
variable {m:aU} {rs:List aP} {p:bz} {b:Int}
theorem w0:WR 0=0:=bP oaa
theorem w1:WR 1=1:=bP oaa
theorem okN (hm:gR m) (hp:ez p) (hl:rs.length<=1000):lb (gH m rs p b rs.length):=by
 refine⟨hm,⟨by simp[gH];omega,λx hx=>?_⟩,⟨by simp[gH];omega,λx hx=>?_⟩,⟨by simp[gH];omega,λx hx=>?_⟩,⟨by simp[gH],λx hx=>by simp[gH] at hx⟩⟩
 .obtain⟨k,_,rfl⟩:=ZQ.1 hx
  exact⟨⟨by simp[pb],by simp[pb]⟩,⟨by simp[pb],by simp[pb]⟩⟩
 .obtain⟨k,_,rfl⟩:=ZQ.1 hx
  exact⟨hp,⟨by simp[lh],by simp[lh]⟩,⟨by simp[lh],by simp[lh]⟩⟩
 obtain⟨k,_,rfl⟩:=ZQ.1 hx
 exact⟨by simp[xL],λ_ _=>trivial⟩
theorem Gz {α:Type} (f:Nat->α) {n k:Nat} (hk:k<n):((YQ n).map f)[k]?=some (f k):=by simp[hk]
theorem pE {α:Type} {f:Nat->α} {n k:Nat} {x:α} (h:((YQ n).map f)[k]?=some x):k<n/\x=f k:=by
 rw[Zo] at h
 by_cases hk:k<n
 .simp[hk] at h;exact⟨hk,h.symm⟩
 simp[hk] at h
theorem Xg (b:Int):0<=zh b/\zh b<=100000:=by
 unfold zh
 cases h:inR b 0 100000 with
 |false=>simp
 |true=>simpa using bu.1 h
theorem SX (a:Int):MG a a=some a:=by simp[MG,ltB]
variable (H:oI m=true/\pL p=true/\s7 rs=true)
include H
theorem Dm:1<=m.aZ.length/\m.aZ.length<=6:=by
 obtain⟨hv,hs,hr⟩:=id H
 simp only[oI,v0] at hv
 have:=bu.1 hv.1;omega
theorem OT {k:Nat} (hk:k<rs.length):uC (rs.getD k default)=true:=by
 obtain⟨hv,hs,hr⟩:=id H
 simp only[s7,v0] at hr
 have:=eb.1 hr.1 k _ (YO hk)
 simp only[BU,v0] at this
 rw[Z4,YO hk]
 exact this.1
theorem TM:rs.length<=4:=by
 obtain⟨hv,hs,hr⟩:=id H
 simp only[s7,v0] at hr
 have:=sb hr.2;omega
theorem Xp {k:Nat} (hk:k<rs.length):o7 (pb m.aZ.length rs k)=true:=by
 obtain⟨hv,hs,hr⟩:=id H
 have h1:=OT H hk
 obtain⟨c1,c2⟩:=Dm H
 have h2:=CW (v:=(k:Int)) (n:=(m.aZ.length:Int)) oaa oaa
 simp only[uC,v0] at h1
 simp only[o7,pb,yr,h1.1,h1.2.1,h1.2.2,bu.2 (show(0:Int)<=aaG (k:Int) (m.aZ.length:Int)/\aaG (k:Int) (m.aZ.length:Int)<=5 from⟨h2.1,by omega⟩),aaP,aaO]
 simp[inR,leB,mf,s8,CA,fZ,eqB,w1]
theorem Yn {k:Nat} (hk:k<rs.length):og (lh p rs k)=true:=by
 obtain⟨hv,hs,hr⟩:=id H
 have h1:=OT H hk
 have hq:kr (⟨(k:Int),0,0⟩:dh)=true:=by simp[kr,leB]
 simp only[og,lh,h1,hs,hq,aaP]
 have hp:BS (lh p rs k)=true:=by
  simp[BS,lh,KH,hq,Ef,w0,leB]
 simp only[lh] at hp
 rw[hp]
 simp[inR,leB,ltB,mf,n9,o8,J9,CA,fZ,eqB,w1]
theorem Q3:lj (xL b)=true:=by
 obtain⟨hv,hs,hr⟩:=id H
 obtain⟨b1,b2⟩:=Xg b
 simp only[lj,xL,Wq,Ut,List.foldl_nil,Int.add_zero,bP (show-9223372036854775808<=zh b/\zh b<=9223372036854775807 by omega),bu.2 (show(0:Int)<=zh b/\zh b<=100000 from⟨b1,b2⟩),bu.2 (show(0:Int)<=zh b/\zh b<=zh b from⟨b1,by omega⟩),bu.2 (show(0:Int)<=0/\(0:Int)<=zh b from⟨by omega,b1⟩),aQ,aaP,aaO]
 simp[leB,fZ]
theorem XP {k:Nat} (hk:k<rs.length):Cr (gH m rs p b rs.length) k (pb m.aZ.length rs k)=true:=by
 obtain⟨hv,hs,hr⟩:=id H
 obtain⟨c1,c2⟩:=Dm H
 have h2:=CW (v:=(k:Int)) (n:=(m.aZ.length:Int)) oaa oaa
 have hq:kr (⟨(k:Int),0,0⟩:dh)=true:=by simp[kr,leB]
 have e1:(gH m rs p b rs.length).aj[k]?=some (lh p rs k):=Gz _ hk
 have e2:(gH m rs p b rs.length).aB[k]?=some (xL b):=Gz _ hk
 have i1:Fm (pb m.aZ.length rs k) (lh p rs k)=true:=by simp[Fm,pb,lh]
 have i2:ew (gH m rs p b rs.length).bX (pb m.aZ.length rs k).aE=true:=bu.2 (show(0:Int)<=aaG (k:Int) (m.aZ.length:Int)/\aaG (k:Int) (m.aZ.length:Int)<=(m.aZ.length:Int)-1 from⟨h2.1,by omega⟩)
 have i3:ew (gH m rs p b rs.length).bX (lh p rs k).aE=true:=bu.2 (show(0:Int)<=0/\(0:Int)<=(m.aZ.length:Int)-1 from⟨by omega,by omega⟩)
 have i4:y6 (xL b) (lh p rs k).bC=true:=by
  have ha:=Q3 (b:=b) H
  simp only[xL] at ha
  simp[y6,ha,lh,hq,kq,xL,eqB]
 have i5:eqB (lh p rs k).bC.aC (k:Int)=true:=by simp[lh]
 simp only[Cr,e1,e2,Xp H hk,Yn H hk,Q3 (b:=b) H,i1,i2,i3,i4,i5,aaO]
theorem XV:pJ (gH m rs p b rs.length)=true:=by
 obtain⟨hv,hs,hr⟩:=id H
 obtain⟨c1,c2⟩:=Dm H
 have hl:=TM H
 have he:Fb (gH m rs p b rs.length)=true:=by
  have:∀c:Nat,1<=c->c<=6->inR 0 0 (WR ((mW .i64 1 (c:Int))-1))=true:=by
   intro c h1 h2
   rcases(show c=1\/c=2\/c=3\/c=4\/c=5\/c=6 by omega) with rfl|rfl|rfl|rfl|rfl|rfl<;>kernel_rfl
  simp only[Fb,gH,this _ c1 c2,aaP];simp[inR,leB]
 have hp:oc (gH m rs p b rs.length).eD=true:=by show oc ⟨2,3⟩=true;kernel_rfl
 have ha:fZ (Cr (gH m rs p b rs.length)) (gH m rs p b rs.length).ah=true:=eb.2 λk d hd=>by
  obtain⟨hk,rfl⟩:=pE hd
  exact XP H hk
 have hd:(gH m rs p b rs.length).ah.length=rs.length:=by simp[gH]
 have hse:(gH m rs p b rs.length).aj.length=rs.length:=by simp[gH]
 have hac:(gH m rs p b rs.length).aB.length=rs.length:=by simp[gH]
 simp only[pJ,show oI (gH m rs p b rs.length).bX=true from hv,hp,ha,he,hd,hse,hac,aQ,leB_t.2 (show(rs.length:Int)<=4 by omega),aaP,aaO]
 simp[gH,leB,eqB]
end
end Go.AM
