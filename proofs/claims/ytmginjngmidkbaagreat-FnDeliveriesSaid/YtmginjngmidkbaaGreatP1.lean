/- A part. -/
import Derived.Test.YtmginjngmidkbaaGreatL
set_option linter.unusedVariables false
set_option linter.unusedSimpArgs false
open Option renaming bind_some->abX,bind->abU,map_some->acd,bind_assoc->acv
open List renaming getElem?_eq_getElem->aaa,getElem?_eq_some_iff->aab,mem_of_getElem?->aac,mem_append->aad,length_cons->aaj,nil_append->aa9,mem_cons->aaf,pairwise_cons->ab2,pairwise_append->ab3,length_append->aav,replicate->aag,getElem?_of_mem->aar,getElem?_mapIdx->ab9,getElem?_set->abJ,length_nil->ab1,getElem?_eq_none->acb,takeWhile_append_dropWhile->acl,mem_map->aa8,takeWhile_cons->acg,ext_getElem?->ab8,all_eq_true->aah,mem_singleton->ab4,take_of_length_le->acj,getElem_mem->ach,mem_filter->abh,cons_append->aaF,filter_cons->acm,dropWhile_subset->acp,length_filter_le->acq,length_singleton->acr,foldl_cons->ack,mem_of_mem_take->aaC,mem_zipIdx_iff_getElem?->acs,drop_left->acn,length->aci,find?_eq_none->acu,take_add_one->acf,any_eq_false->abl,append_assoc->aaT,drop_eq_getElem_cons->aaY,rel_of_pairwise_cons->acD,getElem?_append_left->aam,range->hV,drop_length->acw,drop_drop->abd,takeWhile_subset->acE,take_left->aco,length_replicate->acF,getElem?_zipIdx->acy,dropWhile_cons->acG,take_length->acA,length_take->abg,length_map->aaz,map_id'->acL
open Bool renaming and_eq_true->v0,or_eq_false_iff->aao,eq_iff_iff->abZ,not_eq_false'->ab7,and_true->ab5,not_eq_true'->aay,true_and->ab6,or_self->ace,and_false->acJ,false_and->acK,false_or->aaJ,or_false->acC
open Int renaming toNat_natCast->abY,tmod_eq_emod_of_nonneg->ab0,tmod->abW,add_emod_right->acH,emod_lt_of_pos->acz,emod_eq_of_lt->acI,emod_nonneg->acB
open Nat renaming add_sub_cancel->aca,le_refl->aai,mul_le_mul->acx,zero_le->aat,le_trans->abb
namespace Go.AM
variable {σ τ ρ α β:Type} {n:Go.AM.ab} {k:Nat} {p:Go.AM.cR} {a:Go.AM.am} {b i B:Int} {r:Go.AM.aO} {w:Go.AM.aY} {s:Go.AM.ah} {x:Go.AM.ae} {m:Go.AM.aS} {f:Go.AM.bF} {q:Go.AM.cX} {t:List Go.AM.aH}
theorem gW:9223372036854775808<=FU:=by unfold FU;omega
def kX {α σ ρ:Type} (body:σ->α->Option (cq σ ρ)) (fin:σ->Option ρ):List α->σ->Option ρ
 |[],s=>fin s
 |x::xs,s=>match body s x with
  |some (.next s')=>kX body fin xs s'
  |some (.done r)=>some r
  |none=>none
def CY (f:σ->τ):Option (cq σ ρ)->Option (cq τ ρ)
 |some (.next s)=>some (.next (f s))
 |some (.done r)=>some (.done r)
 |none=>none
@[simp] theorem stepM_next (f:σ->τ) (s:σ):CY (ρ:=ρ) f (some (.next s))=some (.next (f s)):=rfl
@[simp] theorem stepM_done (f:σ->τ) (r:ρ):CY f (some (.done r))=some (.done r):=rfl
@[simp] theorem stepM_none (f:σ->τ):CY (ρ:=ρ) f none=none:=rfl
@[simp] theorem stepM_cond (f:σ->τ) (b:Bool) (x y:Option (cq σ ρ)):CY f (bif b then x else y)=bif b then CY f x else CY f y:=by cases b<;>rfl
@[simp] theorem stepM_bind (f:σ->τ) (o:Option α) (k:α->Option (cq σ ρ)):CY f (abU o k)=abU o (λa=>CY f (k a)):=by cases o<;>rfl
@[simp] theorem dn_some (r:ρ):dn (σ:=σ) (some r)=some (.done r):=rfl
@[simp] theorem dn_none {ρ:Type}:dn (σ:=σ) (ρ:=ρ) none=none:=rfl
theorem eK {step:τ->Option (cq τ ρ)} (xs:List α) (mk:Nat->σ->τ) (body:σ->α->Option (cq σ ρ)) (fin:σ->Option ρ) (hl:xs.length<=9223372036854775806)
 (hs:∀(k:Nat) (x:α) (s:σ),xs[k]?=some x->k<xs.length->step (mk k s)=CY (mk (k+1)) (body s x))
 (he:∀s,step (mk xs.length s)=dn (fin s)) (s0:σ):iter step FU (mk 0 s0)=kX body fin xs s0:=by
 have key:∀(m n:Nat) (s:σ) (k:Nat),m=xs.length-k->k<=xs.length->m<n->iter step n (mk k s)=kX body fin (xs.drop k) s:=by
  intro m
  induction m with
  |zero=>
   intro n s k hm hk hn
   cases n with
   |zero=>omega
   |succ n=>
    have:k=xs.length:=by omega
    subst this
    rw[acw,kX,iter,he]
    cases fin s<;>rfl
  |succ m ih=>
   intro n s k hm hk hn
   cases n with
   |zero=>omega
   |succ n=>
    have hlt:k<xs.length:=by omega
    rw[aaY hlt,kX,iter,hs k xs[k] s (aaa hlt) hlt]
    cases hb:body s xs[k] with
    |none=>rfl
    |some o=>
     cases o with
     |done r=>rfl
     |next s'=>exact ih n s' (k+1) oaa oaa oaa
 have:=key (xs.length-0) FU s0 0 rfl (aat _) (by have:=gW;omega)
 simp_all
theorem bu (xs:List α) (k:Nat):ix xs (k:Int)=xs[k]?:=by simp[ix,leB]
theorem bK {n:Int} (h: -9223372036854775808<=n/\n<=9223372036854775807):WR n=n:=Lw h
theorem nN (h:k<9223372036854775807):WR ((k:Int)+1)=((k+1:Nat):Int):=by rw[bK oaa];omega
theorem WRs (h:k<9223372036854775807:=by omega):WR ((k:Int)+1)=((k+1:Nat):Int):=nN h
theorem rt {p:Prop} (h:p:=by first|rfl|trivial):p:=h
theorem cy {a b:Nat} (h:a<b):ltB (a:Int) (b:Int)=true:=by simp[ltB,h]
theorem bR (a:Int):ltB a a=false:=by simp[ltB]
theorem bw (a:Int):eqB a a=true:=by simp[eqB]
theorem Rw {step:Int×List β->Option (cq (Int×List β) (List β))} (f:α->β) (z:β) (xs:List α) (hl:xs.length<=9223372036854775806)
 (hs:∀(k:Nat) (x:α) (v:List β),xs[k]?=some x->v.length=xs.length->step ((k:Int),v)=some (.next (((k+1:Nat):Int),v.set k (f x))))
 (he:∀v,step ((xs.length:Nat),v)=some (.done v)):iter step FU (0,aag xs.length z)=some (xs.map f):=by
 have key:∀(m n:Nat) (k:Nat),m=xs.length-k->k<=xs.length->m<n->iter step n ((k:Int),(xs.take k).map f++aag (xs.length-k) z)=some (xs.map f):=by
  intro m
  induction m with
  |zero=>
   intro n k hm hk hn
   cases n with
   |zero=>omega
   |succ n=>
    have:k=xs.length:=by omega
    subst this
    rw[iter,he]
    simp
  |succ m ih=>
   intro n k hm hk hn
   cases n with
   |zero=>omega
   |succ n=>
    have hlt:k<xs.length:=by omega
    rw[iter,hs k xs[k] _ (aaa hlt) (by simp;omega)]
    have e:((xs.take k).map f++aag (xs.length-k) z).set k (f xs[k])=(xs.take (k+1)).map f++aag (xs.length-(k+1)) z:=by
     apply ab8
     intro j
     rw[abJ]
     by_cases hj:k=j
     .grind
     grind
    grind
 have:=key (xs.length-0) FU 0 rfl (aat _) (by have:=gW;omega)
 simp_all
attribute [local simp] bR bw bu
def okL (ok:α->Prop) (xs:List α):Prop:=xs.length<=1048576/\∀x∈xs,ok x
def preL (pre:α->Prop) (xs:List α):Prop:=xs.length<=9223372036854775807/\∀x∈xs,pre x
theorem Gk {α ρ:Type} {body:Unit->α->Option (cq Unit ρ)} {fin:Unit->Option ρ}:∀(xs:List α),(∀x∈xs,body () x=some (.next ()))->kX body fin xs ()=fin ()
 |[],_=>rfl
 |x::xs,h=>by rw[kX,h x (by simp)];exact Gk xs (λy hy=>h y (by simp[hy]))
theorem lt0_t {r:Int} (h:r<0):ltB r 0=true:=by simp[ltB,h]
theorem lt0_f {r:Int} (h:0<=r):ltB r 0=false:=by simp[ltB];omega
def sC (by_:Nat) (p:α->Bool) (f:α->β) (acc:List β) (x:α):Option (cq (List β) (List β)):=
 bif p x then(bif c8 by_ (acc++[f x]).length then some (.next (acc++[f x])) else none) else some (.next acc)
theorem tu {α β:Type} {by_:Nat} (hb:by_<=100000) (p:α->Bool) (f:α->β):∀(xs:List α) (acc:List β),acc.length+xs.length<=1048576->kX (sC by_ p f) some xs acc=some (acc++(xs.filter p).map f)
 |[],acc,h=>by simp[kX]
 |x::xs,acc,h=>by
  simp only[aaj] at h
  rw[kX]
  cases hp:p x with
  |false=>
   rw[List.filter_cons_of_neg (by simp[hp])]
   simpa [sC,hp] using tu hb p f xs acc oaa
  |true=>
   have ha:c8 by_ (acc++[f x]).length=true:=by
    have h1:(acc++[f x]).length*by_<=1048577*100000:=acx (by simp;omega) hb
    simp only[c8,decide_eq_true_eq]
    refine⟨by omega,by simp;omega⟩
   rw[List.filter_cons_of_pos (by simp[hp])]
   simp only[sC,hp,ha,cond_true]
   rw[tu hb p f xs (acc++[f x]) (by simp;omega)]
   simp
theorem cB {by_ n:Nat} (hb:by_<=100000) (hn:n<=1048577):c8 by_ n=true:=by
 have h1:n*by_<=1048577*100000:=acx hn hb
 simp only[c8,decide_eq_true_eq]
 omega
def wN (n:Int):Prop:=0<=n/\n<=255
theorem wf_u8 {n:Int} (h:(Lit.int .u8 n).wf=true):wN n:=by
 simp[Lit.wf,IntKind.min,IntKind.max,IntKind.signed,IntKind.bits] at h
 exact⟨by omega,by omega⟩
theorem ve {L:Int->Option (cq Int Int)} (xs:List α) (p:α->Bool) (hl:xs.length<=9223372036854775806)
 (hs:∀(k:Nat) (x:α),xs[k]?=some x->k<xs.length->L (k:Int)=bif p x then some (.done (k:Int)) else some (.next ((k+1:Nat):Int))) (he:L (xs.length:Int)=some (.done (-1))):
 iter L FU 0=some (nK p 0 xs):=by
 have key:∀(m n:Nat) (k:Nat),m=xs.length-k->k<=xs.length->m<n->iter L n (k:Int)=some (nK p k (xs.drop k)):=by
  intro m
  induction m with
  |zero=>
   intro n k hm hk hn
   cases n with
   |zero=>omega
   |succ n=>
    have:k=xs.length:=by omega
    subst this
    rw[iter,he,acw,nK]
  |succ m ih=>
   intro n k hm hk hn
   cases n with
   |zero=>omega
   |succ n=>
    have hlt:k<xs.length:=by omega
    rw[iter,hs k xs[k] (aaa hlt) hlt,Uh hlt]
    cases p xs[k] with
    |true=>rfl
    |false=>exact ih n (k+1) oaa oaa oaa
 have:=key (xs.length-0) FU 0 rfl (aat _) (by have:=gW;omega)
 simpa using this
theorem Du {α:Type} (p:α->Bool):∀(xs:List α) (i:Nat),nK p (i:Int) xs= -1/\(∀x∈xs,p x=false)\/∃j:Nat,nK p (i:Int) xs=((i+j:Nat):Int)/\∃x,xs[j]?=some x/\p x=true/\∀y∈xs.take j,p y=false
 |[],i=>.inl ⟨rfl,by simp⟩
 |x::xs,i=>by
  rw[nK]
  cases hp:p x with
  |true=>exact .inr ⟨0,by simp,x,rfl,hp,by simp⟩
  |false=>
   rcases Du p xs (i+1) with⟨h1,h2⟩|⟨j,h1,y,h2,h3,h4⟩
   .exact .inl ⟨by simpa using h1,by simp[hp];exact h2⟩
   refine .inr ⟨j+1,?_,y,by simpa using h2,h3,by simp[hp];exact h4⟩
   have:nK p ((i:Int)+1) xs=((i+1+j:Nat):Int):=by simpa using h1
   simp only[cond_false]
   rw[this];omega
theorem LH {L:Int->Option (cq Int Bool)} (xs:List α) (p:α->Bool) (hl:xs.length<=9223372036854775806)
 (hs:∀(k:Nat) (x:α),xs[k]?=some x->k<xs.length->L (k:Int)=bif p x then some (.done true) else some (.next ((k+1:Nat):Int))) (he:L (xs.length:Int)=some (.done false)):
 iter L FU 0=some (xs.any p):=by
 have:=eK (step:=L) xs (λk (_:Unit)=>(k:Int)) (λ_ x=>bif p x then some (.done true) else some (.next ())) (λ_=>some false) hl
  (λk x s hx hk=>by rw[hs k x hx hk];cases p x<;>rfl) (λs=>by rw[he];rfl) ()
 refine Eq.trans (show iter L FU 0=_ from this) ?_
 have key:∀xs:List α,kX (λ(_:Unit) x=>bif p x then some (cq.done true) else some (.next ())) (λ_=>some false) xs ()=some (xs.any p):=by
  intro xs
  induction xs with
  |nil=>rfl
  |cons x xs ih=>rw[kX];cases hp:p x<;>simp[hp,ih]
 exact key xs
theorem Ta {L:Int->Option (cq Int Bool)} (xs:List α) (p:α->Bool) (hl:xs.length<=9223372036854775806)
 (hs:∀(k:Nat) (x:α),xs[k]?=some x->k<xs.length->L (k:Int)=bif p x then some (.next ((k+1:Nat):Int)) else some (.done false)) (he:L (xs.length:Int)=some (.done true)):
 iter L FU 0=some (xs.all p):=by
 have:=eK (step:=L) xs (λk (_:Unit)=>(k:Int)) (λ_ x=>bif p x then some (.next ()) else some (.done false)) (λ_=>some true) hl
  (λk x s hx hk=>by rw[hs k x hx hk];cases p x<;>rfl) (λs=>by rw[he];rfl) ()
 refine Eq.trans (show iter L FU 0=_ from this) ?_
 have key:∀xs:List α,kX (λ(_:Unit) x=>bif p x then some (.next ()) else some (cq.done false)) (λ_=>some true) xs ()=some (xs.all p):=by
  intro xs
  induction xs with
  |nil=>rfl
  |cons x xs ih=>rw[kX];cases hp:p x<;>simp[hp,ih]
 exact key xs
theorem allK {L:Int->Option (cq Int Bool)} (xs:List α) (p:Nat->α->Bool) (c:Option Bool) (hl:xs.length<=9223372036854775806)
 (hs:∀(k:Nat) (x:α),xs[k]?=some x->k<xs.length->L (k:Int)=bif p k x then some (.next ((k+1:Nat):Int)) else some (.done false)) (he:L (xs.length:Int)=dn c):
 iter L FU 0=bif xs.zipIdx.all (λy=>p y.2 y.1) then c else some false:=by
 have:=eK (step:=L) xs.zipIdx (λk (_:Unit)=>(k:Int)) (λ_ y=>bif p y.2 y.1 then some (.next ()) else some (.done false)) (λ_=>c) (by simp_all)
  (λk y s hy hk=>by
   have hk':k<xs.length:=by simpa using hk
   have:y=(xs[k],k):=by rw[aaa hk] at hy;simpa using hy.symm
   simp_all) (λs=>by simp_all) ()
 refine Eq.trans (show iter L FU 0=_ from this) ?_
 have key:∀ys:List (α×Nat),kX (λ(_:Unit) y=>bif p y.2 y.1 then some (.next ()) else some (cq.done false)) (λ_=>c) ys ()=bif ys.all (λy=>p y.2 y.1) then c else some false:=by
  intro ys
  induction ys with
  |nil=>rfl
  |cons x xs ih=>rw[kX];grind
 exact key _
def inR (n a b:Int):Bool:=leB a n&&leB n b
theorem bO {n a:Int}:inR n a b=true↔a<=n/\n<=b:=by simp[inR,leB]
theorem Bz {n:Nat} (h:n<=1048576):WR ((n:Int)-1)=(n:Int)-1:=bK oaa
theorem Uq {xs:List α} (h0:0<=i) (h1:i<xs.length):∃x,x∈xs/\ix xs i=some x:=by
 obtain⟨k,rfl⟩:=Int.eq_ofNat_of_zero_le h0
 have hk:k<xs.length:=by omega
 exact⟨xs[k],ach hk,by rw[bu,aaa hk]⟩
theorem IO (b:Bool):booB b b=true:=by simp
def rgI (k:IntKind) (n:Int):Prop:=(Lit.int k n).wf=true
theorem WT.rg {k:IntKind} {n:Int} (h:WT (.i k) (.i k n)):rgI k n:=by
 cases h with|i h=>exact h
theorem Pu {α:Type} {e:List Sh} {f:α->List D}:∀{xs:List α},WTL e (xs.map f)->∀x∈xs,WTs e (f x)
 |[],_,x,hx=>by cases hx
 |y::ys,h,x,hx=>by
  cases h with
  |cons h1 h2=>
   rcases aaf.1 hx with rfl|hx
   .exact h1
   exact Pu h2 x hx
theorem WT.rl {e:List Sh} {f:α->List D} {xs:List α} (h:WT (.l e) (.l (xs.map f))):∀x∈xs,WTs e (f x):=by
 cases h with|l hl h=>exact Pu h
def Wp (m:Option α) (Q:α->Prop):Prop:=match m with
 |some a=>Q a
 |none=>False
theorem Wp.ex {m:Option α} {Q:α->Prop} (h:Wp m Q):∃a,m=some a/\Q a:=by
 cases m with
 |none=>exact h.elim
 |some a=>exact⟨a,rfl,h⟩
theorem Wp.of {m:Option α} {Q:α->Prop} {a:α} (h:m=some a) (q:Q a):Wp m Q:=by subst h;exact q
theorem Wp.some {α:Type} {a:α} {Q:α->Prop} (h:Q a):Wp (some a) Q:=h
theorem Wp.bind {m:Option α} {k:α->Option β} {Q:β->Prop} (h:Wp m (λa=>Wp (k a) Q)):Wp (abU m k) Q:=by
 cases m with
 |none=>exact h.elim
 |some a=>exact h
theorem Wp.mono {m:Option α} {P Q:α->Prop} (h:Wp m P) (k:∀a,P a->Q a):Wp m Q:=by
 cases m with
 |none=>exact h.elim
 |some a=>exact k a h
theorem Wp.call {m:Option α} {k:α->Option β} {P:α->Prop} {Q:β->Prop} (h:Wp m P) (hk:∀a,P a->Wp (k a) Q):Wp (abU m k) Q:=Wp.bind (h.mono hk)
theorem Wp.eq {m:Option α} {k:α->Option β} {a:α} {Q:β->Prop} (h:m= .some a) (hk:Wp (k a) Q):Wp (abU m k) Q:=by subst h;exact hk
theorem Wp.cond {b:Bool} {x y:Option α} {Q:α->Prop} (h1:b=true->Wp x Q) (h0:b=false->Wp y Q):Wp (bif b then x else y) Q:=by
 cases b
 .exact h0 rfl
 exact h1 rfl
theorem Wp.ok {b:Bool} {x:Option α} {Q:α->Prop} (hb:b=true) (h:Wp x Q):Wp (bif b then x else none) Q:=by subst hb;exact h
theorem Wp.iter {step:σ->Option (cq σ ρ)} {Q:ρ->Prop} (I:σ->Prop) (μ:σ->Nat) (h:∀x,I x->Wp (step x) (λs=>match s with| .next x'=>I x'/\μ x'<μ x| .done r=>Q r)):
 ∀(n:Nat) (x:σ),I x->μ x<n->Wp (AM.iter step n x) Q
 |0,_,_,h=>by omega
 |n+1,x,hI,hn=>by
  obtain⟨s,e,hs⟩:=(h x hI).ex
  rw[AM.iter,e]
  cases s with
  |next x'=>exact Wp.iter I μ h n x' hs.1 (by have:=hs.2;omega)
  |done r=>exact hs
theorem Wp.iterF {step:σ->Option (cq σ ρ)} {Q:ρ->Prop} (I:σ->Prop) (μ:σ->Nat) {x:σ} (hI:I x) (hn:μ x<=1000000000000) (h:∀x,I x->Wp (step x) (λs=>match s with| .next x'=>I x'/\μ x'<μ x| .done r=>Q r)):Wp (AM.iter step FU x) Q:=
 Wp.iter I μ h FU x hI (by have:=gW;omega)
theorem Wp.dn {m:Option ρ} {Q:cq σ ρ->Prop} (h:Wp m (λr=>Q (.done r))):Wp (AM.dn m) Q:=by
 cases m with
 |none=>exact h.elim
 |some r=>exact h
theorem Wp.ix {xs:List α} {k:α->Option β} {Q:β->Prop} (h0:0<=i) (h1:i<xs.length) (hk:∀x,x∈xs->xs[i.toNat]?= .some x->Wp (k x) Q):Wp (abU (AM.ix xs i) k) Q:=by
 have hl:i.toNat<xs.length:=by omega
 have hx:xs[i.toNat]?= .some xs[i.toNat]:=aaa hl
 refine Wp.eq (a:=xs[i.toNat]) ?_ (hk _ (ach hl) hx)
 unfold AM.ix
 rw[show leB 0 i=true from by simp[leB,h0]]
 exact hx
theorem lP {a:Int} (h:ltB a b=true):a<b:=ltB_t.1 h
theorem px {a:Int} (h:ltB a b=false):b<=a:=ltB_f.1 h
theorem Am {a:Int} (h:leB a b=true):a<=b:=leB_t.1 h
theorem yK {a:Int} (h:leB a b=false):b<a:=leB_f.1 h
theorem mc {a:Int} (h:eqB a b=true):a=b:=eqB_t.1 h
theorem H6 {a:Int} (h:eqB a b=false):a≠b:=eqB_f.1 h
theorem gj {b n:Nat} (h:n*b<=140737488355328) (h':n<=9223372036854775807):c8 b n=true:=by simp[c8,h,h']
def Xl (a:fr):Prop:=okL (λ_=>True) a.cr
def f8 (a:aS):Prop:=okL Xl a.aX
def fC (a:ae):Prop:=okL (λ_=>True) a.bg
def pA (a:bM):Prop:=okL (λ_=>True) a.bg
def eM (a:aO):Prop:=okL fC a.aC/\okL pA a.bi
def eb (a:aJ):Prop:=eM a.bV
def ez (a:bD):Prop:=okL (λ_=>True) a.bC
def il (a:aY):Prop:=okL fC a.aw
def dU (a:ah):Prop:=ez a.gF/\okL pA a.aM/\il a.ax
def gq (a:am):Prop:=okL (λ_=>True) a.aj
def tN (a:bp):Prop:=okL (λ_=>True) a.bg
def oE (a:aA):Prop:=tN a.bz
def jD (a:bF):Prop:=oE a.cz
def g8 (a:ab):Prop:=f8 a.eo/\okL eb a.av/\okL dU a.aF/\okL gq a.bG/\okL jD a.aK
open Go.Proofs
def fM (p:Nat->α->Bool) (xs:List α):Bool:=xs.zipIdx.all (λy=>p y.2 y.1)
theorem eJ {p:Nat->α->Bool} {xs:List α}:fM p xs=true↔∀(k:Nat) (x:α),xs[k]?=some x->p k x=true:=by
 unfold fM
 rw[aah]
 constructor
 .intro h k x hx
  exact h (x,k) (by rw[acs];simpa using hx)
 rintro h ⟨x,k⟩ hm
 rw[acs] at hm
 exact h k x (by simpa using hm)
theorem NU {p q:Nat->α->Bool} {xs:List α} (h:∀(k:Nat) (x:α),xs[k]?=some x->p k x=q k x):fM p xs=fM q xs:=by
 rw[abZ,eJ,eJ]
 constructor
 .intro g k x hx;rw[<-h k x hx];exact g k x hx
 intro g k x hx;rw[h k x hx];exact g k x hx
theorem LF {p q:Nat->α->Bool} {xs:List α}:(fM p xs&&fM q xs)=fM (λk x=>p k x&&q k x) xs:=by
 rw[abZ,v0,eJ,eJ,eJ]
 constructor
 .rintro⟨h1,h2⟩ k x hx;simp[h1 k x hx,h2 k x hx]
 intro h
 exact⟨λk x hx=>by have:=h k x hx;simp at this;exact this.1,λk x hx=>by have:=h k x hx;simp at this;exact this.2⟩
theorem sh {p:α->Bool} {xs:List α}:fM (λ_ x=>p x) xs=xs.all p:=by
 rw[abZ,eJ,aah]
 constructor
 .intro h x hx
  obtain⟨k,hk,rfl⟩:=List.getElem_of_mem hx
  exact h k _ (aaa hk)
 intro h k x hx;exact h x (aac hx)
theorem ga {L:Int->Option (cq Int Bool)} (xs:List α) (p:Nat->α->Bool) (c:Option Bool) (hl:xs.length<=9223372036854775806)
 (hs:∀(k:Nat) (x:α),xs[k]?=some x->k<xs.length->L (k:Int)=bif p k x then some (.next ((k+1:Nat):Int)) else some (.done false)) (he:L (xs.length:Int)=dn c):
 iter L FU 0=bif fM p xs then c else some false:=allK xs p c hl hs he
theorem wF {xs:List α} (hk:k<xs.length) (h0:0<k) (hl:xs.length<=9223372036854775806):∃y,xs[k-1]?=some y/\ix xs (WR ((k:Int)-1))=some y:=by
 have h1:k-1<xs.length:=by omega
 refine⟨xs[k-1],aaa h1,?_⟩
 rw[bK oaa,show((k:Int)-1)=((k-1:Nat):Int) from by omega,bu,aaa h1]
def jE (key:α->Int) (xs:List α) (k:Nat) (x:α):Bool:=match k with
 |0=>true
 |j+1=>match xs[j]? with
  |some y=>!leB (key x) (key y)
  |none=>false
def asc (xs:List Int):Bool:=fM (jE id xs) xs
theorem gv (a b c:Int):b9 a b c=some (inR a b c):=by
 unfold b9 inR
 cases leB b a<;>rfl
theorem fS (a b c:Int):dB a b c=some (inR a b c):=by
 unfold dB inR
 cases leB b a<;>rfl
theorem PW {xs:List Int} (h:xs.length<=1048576):ox xs=some (asc xs):=by
 have key:∀(n m:Nat) (j:Nat),j+n=xs.length->1<=j->n<m->∃b,iter (kf xs) m (j:Int)=some b/\(b=true↔∀k x,j<=k->xs[k]?=some x->jE id xs k x=true):=by
  intro n
  induction n with
  |zero=>
   intro m j hj h1 hm
   cases m with
   |zero=>omega
   |succ m=>
    simp only[iter,kf]
    rw[show ltB (j:Int) (xs.length:Int)=false from by simp[ltB];omega]
    refine⟨true,rfl,λ_ k x hk hx=>?_,λ_=>rfl⟩
    have:=(aab.1 hx).1
    omega
  |succ n ih=>
   intro m j hj h1 hm
   cases m with
   |zero=>omega
   |succ m=>
    have hjl:j<xs.length:=by omega
    obtain⟨y,hy,hi⟩:=wF hjl oaa oaa
    simp only[iter,kf]
    rw[cy hjl,hi,bu,aaa hjl]
    simp only[au]
    obtain⟨i,rfl⟩:∃i,j=i+1:=⟨j-1,by omega⟩
    simp only[aca] at hy
    cases hle:leB xs[i+1] y with
    |true=>
     refine⟨false,rfl,(λh=>by cases h),λhh=>?_⟩
     have:=hh (i+1) _ (aai _) (aaa hjl)
     simp[jE,hy,hle] at this
    |false=>
     simp only[cond_false]
     rw[WRs (k:=i+1)]
     obtain⟨b,hb,hi⟩:=ih m (i+1+1) oaa oaa oaa
     refine⟨b,hb,hi.trans ⟨λhh k x hk hx=>?_,λhh k x hk hx=>hh k x oaa hx⟩⟩
     by_cases e:k=i+1
     .subst e
      rw[aaa hjl] at hx;cases hx
      simp[jE,hy,hle]
     exact hh k x oaa hx
 unfold ox
 cases hx:xs with
 |nil=>
  have:FU=(FU-1)+1:=by have:=gW;omega
  rw[this,iter]
  simp[kf,dn,ltB,asc,fM]
 |cons a l=>
  rw[<-hx]
  obtain⟨b,hb,hi⟩:=key (xs.length-1) FU 1 (by have:0<xs.length:=(by rw[hx];simp);omega) (aai _) (by have:=gW;omega)
  rw[show(1:Int)=((1:Nat):Int) from rfl,hb]
  congr 1
  rw[abZ,hi,asc,eJ]
  constructor
  .intro hh k x hk
   cases k with
   |zero=>rfl
   |succ k=>exact hh _ x oaa hk
  intro hh k x _ hk;exact hh k x hk
def mI (k:Int):Bool:=inR k 1 2147483646
theorem Mr (k:Int):gJ k=some (mI k):=by simp only[gJ,gv,abX,mI]
theorem Ms (k:Int):im k=some (mI k):=by simp only[im,fS,abX,mI]
def HV (x:dD):Bool:=inR x.dN 0 3&&inR x.bL 0 99
theorem Yp (x:dD):gK x=some (HV x):=by
 simp only[gK,gv,abX,HV];cases inR x.dN 0 3<;>rfl
theorem Yq (x:dD):gP x=some (HV x):=by
 simp only[gP,fS,abX,HV];cases inR x.dN 0 3<;>rfl
def ti (x:kZ):Bool:=HV x.ID&&(mI x.eP&&inR x.dm 0 999999)
theorem V3 (x:kZ):n9 x=some (ti x):=by
 simp only[n9,Yp,Mr,gv,abX,ti];cases HV x.ID<;>cases mI x.eP<;>rfl
theorem V4 (x:kZ):oO x=some (ti x):=by
 simp only[oO,Yq,Ms,fS,abX,ti];cases HV x.ID<;>cases mI x.eP<;>rfl
def tp (x:aP):Bool:=HV x.ID&&(mI x.eP&&inR x.cV 0 999999)
theorem Yj (x:aP):fH x=some (tp x):=by
 simp only[fH,Yp,Mr,gv,abX,tp];cases HV x.ID<;>cases mI x.eP<;>rfl
theorem Vf (x:aP):eN x=some (tp x):=by
 simp only[eN,Yq,Ms,fS,abX,tp];cases HV x.ID<;>cases mI x.eP<;>rfl
def jX (x:cR):Bool:=inR x.fJ 0 2&&(inR x.eQ 0 4&&inR x.eU 0 3)
theorem U3 (x:cR):n0 x=some (jX x):=by
 simp only[n0,gv,abX,jX];cases inR x.fJ 0 2<;>cases inR x.eQ 0 4<;>rfl
theorem U4 (x:cR):oK x=some (jX x):=by
 simp only[oK,fS,abX,jX];cases inR x.fJ 0 2<;>cases inR x.eQ 0 4<;>rfl
def jK (x:bN):Bool:=inR x.fo 1 6&&inR x.fj 0 (WR ((lJ .i64 1 x.fo)-1))
theorem KR (x:bN):jM x=some (jK x):=by
 simp only[jM,gv,abX,jK]
 cases h:inR x.fo 1 6 with
 |false=>rfl
 |true=>rw[show leB 0 x.fo=true from by rw[bO] at h;simp[leB];omega];rfl
theorem OD (x:bN):lQ x=some (jK x):=by
 simp only[lQ,fS,abX,jK]
 cases h:inR x.fo 1 6 with
 |false=>rfl
 |true=>rw[show leB 0 x.fo=true from by rw[bO] at h;simp[leB];omega];rfl
def ji (x:cX):Bool:=leB 0 x.aG&&(leB 0 x.ev&&(leB x.ev x.cG&&leB x.cG 100000))
theorem Fq (x:cX):je x=some (ji x):=by
 simp only[je,abX,ji];cases leB 0 x.aG<;>cases leB 0 x.ev<;>cases leB x.ev x.cG<;>rfl
theorem Cm (x:cX):ip x=some (ji x):=by
 have:ji x=(leB 0 x.aG&&(inR x.cG 0 100000&&inR x.ev 0 x.cG)):=by
  rw[abZ];simp[ji,inR,leB];omega
 rw[this]
 simp only[ip,fS,abX];cases leB 0 x.aG<;>cases inR x.cG 0 100000<;>rfl
def vf (n:Nat):Bool:=!ltB 60 (n:Int)
def Bw (xs:List bM):Bool:=xs.all λx=>vf x.bg.length
theorem Ya {xs:List bM} (h:xs.length<=1048576):tH xs=some (Bw xs):=
 Ta xs (λx=>vf x.bg.length) oaa (λk x hx hk=>by
  simp only[sL,cy hk,bu,hx,WRs (k:=k),vf,au]
  cases ltB 60 (x.bg.length:Int)<;>rfl) (by simp[sL,dn])
def yS (r:aO) (k:Nat) (x:ae):Bool:=inR x.cV (WR (r.bB+1)) (WR (WR (r.bB+8)-1))&&(jE ae.cV r.aC k x&&vf x.bg.length)
def pa (r:aO):Bool:=eqB r.bB (WR ((r.bi.length:Int)+1))&&(leB (r.bi.length:Int) 24&&(Bw r.bi&&(leB (r.aC.length:Int) 8&&fM (yS r) r.aC)))
theorem sN (a b:Int):ltB a b=!leB b a:=by rw[abZ];simp[ltB,leB]
theorem Vi (h1:r.bi.length<=1048576) (h2:r.aC.length<=1048576):ju r=some (pa r):=by
 have hL:iter (jl r) FU 0=bif fM (yS r) r.aC then some true else some false:=by
  refine ga r.aC (yS r) (some true) oaa (λk x hx hk=>?_) (by simp[jl])
  simp only[jl,cy hk,bu,hx,WRs (k:=k),gv,yS,vf,au]
  cases k with
  |zero=>
   simp only[jE,show ltB 0 ((0:Nat):Int)=false from by simp[ltB]]
   cases ltB 60 (x.bg.length:Int)<;>cases inR x.cV (WR (r.bB+1)) (WR (WR (r.bB+8)-1))<;>rfl
  |succ k=>
   obtain⟨y,hy,hi⟩:=wF hk oaa oaa
   simp only[aca] at hy
   simp only[jE,hy,hi,show ltB 0 ((k+1:Nat):Int)=true from by simp[ltB],abX]
   cases ltB 60 (x.bg.length:Int)<;>cases inR x.cV (WR (r.bB+1)) (WR (WR (r.bB+8)-1))<;>cases leB x.cV y.cV<;>rfl
 simp only[ju,Ya h1,abX,hL,pa,sN 24,sN 8]
 cases eqB r.bB (WR ((r.bi.length:Int)+1))<;>cases leB (r.bi.length:Int) 24<;>cases Bw r.bi<;>cases leB (r.aC.length:Int) 8<;>cases fM (yS r) r.aC<;>rfl
theorem Vj (h1:r.bi.length<=1048576) (h2:r.aC.length<=1048576):jF r=some (pa r):=by
 have hF:iter (ic r) FU 0=bif fM (λ_ x=>vf x.bg.length) r.bi then some (eqB r.bB (WR ((r.bi.length:Int)+1))&&(leB (r.bi.length:Int) 24&&leB (r.aC.length:Int) 8)) else some false:=by
  refine ga r.bi (λ_ x=>vf x.bg.length) _ oaa (λk x hx hk=>?_) ?_
  .simp only[ic,cy hk,bu,hx,WRs (k:=k),vf,au]
   cases ltB 60 (x.bg.length:Int)<;>rfl
  simp only[ic,bR,cond_false]
  cases eqB r.bB (WR ((r.bi.length:Int)+1))<;>cases leB (r.bi.length:Int) 24<;>rfl
 have hL:iter (jn r) FU 0=bif fM (yS r) r.aC then iter (ic r) FU 0 else some false:=by
  refine ga r.aC (yS r) _ oaa (λk x hx hk=>?_) (by simp[jn])
  simp only[jn,cy hk,bu,hx,WRs (k:=k),fS,yS,vf,au]
  cases k with
  |zero=>
   simp only[jE,show ltB 0 ((0:Nat):Int)=false from by simp[ltB]]
   cases ltB 60 (x.bg.length:Int)<;>cases inR x.cV (WR (r.bB+1)) (WR (WR (r.bB+8)-1))<;>rfl
  |succ k=>
   obtain⟨y,hy,hi⟩:=wF hk oaa oaa
   simp only[aca] at hy
   simp only[jE,hy,hi,show ltB 0 ((k+1:Nat):Int)=true from by simp[ltB],abX]
   cases ltB 60 (x.bg.length:Int)<;>cases inR x.cV (WR (r.bB+1)) (WR (WR (r.bB+8)-1))<;>cases leB x.cV y.cV<;>rfl
 rw[sh] at hF
 simp only[jF,hL,hF,pa,Bw]
 cases eqB r.bB (WR ((r.bi.length:Int)+1))<;>cases leB (r.bi.length:Int) 24<;>cases(r.bi.all λx=>vf x.bg.length)<;>cases leB (r.aC.length:Int) 8<;>cases fM (yS r) r.aC<;>rfl
def kW (d:aJ):Bool:=ti d.df&&(inR d.bj 0 3&&(inR d.be 0 5&&(inR d.ag 0 999999&&(inR d.aT 0 999999&&(inR d.aV 0 2147483646&&((!inR d.bj 2 3||mI d.aV)&&(inR d.eU 0 3&&pa d.bV)))))))
theorem st23 (n:Int):inR n 2 3=(eqB n 2||eqB n 3):=by rw[abZ];simp[inR,leB,eqB];omega
theorem TF {d:aJ} (h1:d.bV.bi.length<=1048576) (h2:d.bV.aC.length<=1048576):nW d=some (kW d):=by
 simp only[nW,V3,gv,Mr,Vi h1 h2,abX,kW,st23]
 cases ti d.df<;>cases inR d.bj 0 3<;>cases inR d.be 0 5<;>try rfl
 cases inR d.ag 0 999999<;>cases inR d.aT 0 999999<;>cases inR d.aV 0 2147483646<;>try rfl
 cases eqB d.bj 2<;>cases eqB d.bj 3<;>cases mI d.aV<;>cases inR d.eU 0 3<;>rfl
theorem TG {d:aJ} (h1:d.bV.bi.length<=1048576) (h2:d.bV.aC.length<=1048576):oH d=some (kW d):=by
 simp only[oH,V4,fS,Ms,Vj h1 h2,abX,kW]
 cases inR d.bj 2 3<;>cases mI d.aV<;>cases ti d.df<;>cases inR d.bj 0 3<;>cases inR d.be 0 5<;>cases inR d.ag 0 999999<;>try rfl
 all_goals (cases inR d.aT 0 999999<;>cases inR d.aV 0 2147483646<;>cases inR d.eU 0 3<;>rfl)
theorem vg {α:Type} {step:Int×Int->Option (cq (Int×Int) Int)} (xs:List α) (f:Int->α->Int) (hl:xs.length<=9223372036854775806)
 (hs:∀(k:Nat) (x:α) (a:Int),xs[k]?=some x->k<xs.length->step (a,(k:Int))=some (.next (f a x,((k+1:Nat):Int)))) (he:∀a,step (a,(xs.length:Int))=some (.done a)) (a0:Int):
 iter step FU (a0,0)=some (xs.foldl f a0):=by
 have:=eK (step:=step) xs (λk (v:Int)=>(v,(k:Int))) (λv x=>some (.next (f v x))) some hl
  (λk x s hx hk=>by rw[hs k x s hx hk];rfl) (λs=>by rw[he];rfl) a0
 refine Eq.trans (show iter step FU (a0,0)=_ from this) ?_
 clear this he hs
 induction xs generalizing a0 with
 |nil=>rfl
 |cons x xs ih=>rw[kX,ack];exact ih (by simp at hl;omega) _
def yO (xs:List ae):Int:=xs.foldl (λa x=>WR (a+(x.bg.length:Int))) 0
theorem nb_i {xs:List ae} (h:xs.length<=1048576):oA xs=some (yO xs):=by
 unfold oA
 rw[vg xs (λa x=>WR (a+(x.bg.length:Int))) oaa (λk x a hx hk=>by
  simp only[oB,cy hk,bu,hx,WRs (k:=k),au]) (λa=>by simp[oB])]
 rfl
theorem Xh {xs:List ae} (h:xs.length<=1048576):pH xs=some (yO xs):=by
 unfold pH
 rw[vg xs (λa x=>WR (a+(x.bg.length:Int))) oaa (λk x a hx hk=>by
  simp only[w9,cy hk,bu,hx,WRs (k:=k),au]) (λa=>by simp[w9])]
 rfl
def MX (q:cX):Int:=bif ji q then WR (q.cG-q.ev) else 0
theorem Yk (q:cX):ka q=some (MX q):=by simp only[ka,Fq,abX,MX];cases ji q<;>rfl
theorem Yl (q:cX):ks q=some (MX q):=by simp only[ks,Cm,abX,MX];cases ji q<;>rfl
def DA (p:bD):Bool:=inR p.iv 1 1000&&(inR p.iu 1 4&&inR p.eg 1 100000)
def qx (p:bD):Bool:=DA p&&fM (λk x=>inR x 0 3&&jE id p.bC k x) p.bC
theorem ZQ {p:bD} (h:ez p):iV p=some (qx p):=by
 have hl:=h.1
 have hL:iter (gS p) FU 0=bif fM (λ_ x=>inR x 0 3) p.bC then some (asc p.bC) else some false:=by
  refine ga p.bC (λ_ x=>inR x 0 3) _ oaa (λk x hx hk=>?_) (by simp[gS,PW hl])
  simp only[gS,cy hk,bu,hx,WRs (k:=k),gv,au]
  cases inR x 0 3<;>rfl
 simp only[iV,gv,abX,hL,qx,DA,<-LF,asc]
 cases inR p.iv 1 1000<;>cases inR p.iu 1 4<;>cases inR p.eg 1 100000<;>cases fM (λ_ x=>inR x 0 3) p.bC<;>rfl
theorem VL {p:bD} (h:ez p):gQ p=some (qx p):=by
 have hl:=h.1
 have hL:iter (gV p) FU 0=bif fM (λk x=>inR x 0 3&&jE id p.bC k x) p.bC then some (DA p) else some false:=by
  refine ga p.bC _ _ oaa (λk x hx hk=>?_) ?_
  .simp only[gV,cy hk,bu,hx,WRs (k:=k),fS,au]
   cases k with
   |zero=>
    simp only[jE,show ltB 0 ((0:Nat):Int)=false from by simp[ltB]]
    cases inR x 0 3<;>rfl
   |succ k=>
    obtain⟨y,hy,hi⟩:=wF hk oaa oaa
    simp only[aca] at hy
    simp only[jE,hy,hi,hx,bu,show ltB 0 ((k+1:Nat):Int)=true from by simp[ltB],abX,id]
    cases inR x 0 3<;>cases leB x y<;>rfl
  simp only[gV,bR,fS,DA,au]
  cases inR p.iv 1 1000<;>cases inR p.iu 1 4<;>rfl
 simp only[gQ,hL,qx]
 cases DA p<;>cases fM (λk x=>inR x 0 3&&jE id p.bC k x) p.bC<;>rfl
def unB (w:aY) (k:Nat) (x:ae):Bool:=eqB x.cV (WR (WR (w.bB-(w.aw.length:Int))+(k:Int)))&&vf x.bg.length
def jp (w:aY):Bool:=inR w.bB 1 100000&&(leB (w.aw.length:Int) 8&&(leB 1 (WR (w.bB-(w.aw.length:Int)))&&fM (unB w) w.aw))
theorem Ng (h:il w):lf w=some (jp w):=by
 have hl:=h.1
 have hL:iter (kJ w) FU 0=bif fM (unB w) w.aw then some true else some false:=by
  refine ga w.aw (unB w) _ oaa (λk x hx hk=>?_) (by simp[kJ])
  simp only[kJ,cy hk,bu,hx,WRs (k:=k),unB,vf,au]
  cases eqB x.cV (WR (WR (w.bB-(w.aw.length:Int))+(k:Int)))<;>cases ltB 60 (x.bg.length:Int)<;>rfl
 simp only[lf,gv,abX,hL,jp,sN]
 cases inR w.bB 1 100000<;>cases leB (w.aw.length:Int) 8<;>cases leB 1 (WR (w.bB-(w.aw.length:Int)))<;>cases fM (unB w) w.aw<;>rfl
theorem Nh (h:il w):lC w=some (jp w):=by
 have hl:=h.1
 have hL:iter (kU w) FU 0=bif fM (unB w) w.aw then some (inR w.bB 1 100000&&(leB (w.aw.length:Int) 8&&leB 1 (WR (w.bB-(w.aw.length:Int))))) else some false:=by
  refine ga w.aw (unB w) _ oaa (λk x hx hk=>?_) ?_
  .simp only[kU,cy hk,bu,hx,WRs (k:=k),unB,vf,au]
   cases eqB x.cV (WR (WR (w.bB-(w.aw.length:Int))+(k:Int)))<;>cases ltB 60 (x.bg.length:Int)<;>rfl
  simp only[kU,bR,fS,au]
  cases inR w.bB 1 100000<;>cases leB (w.aw.length:Int) 8<;>rfl
 simp only[lC,hL,jp]
 cases inR w.bB 1 100000<;>cases leB (w.aw.length:Int) 8<;>cases leB 1 (WR (w.bB-(w.aw.length:Int)))<;>cases fM (unB w) w.aw<;>rfl
def Jy (a b:List Int):Bool:=strB (xP a) (xP b)
theorem eqb_i (a b:List Int):yk a b=some (Jy a b):=rfl
theorem eqb_s (a b:List Int):qo a b=some (Jy a b):=rfl
def Bv (s:ah) (x:ae):Bool:=match s.aM[(x.cV-1).toNat]? with
 |some y=>Jy x.bg y.bg
 |none=>false
def mW (s:ah):Bool:=leB (s.aM.length:Int) 24&&(Bw s.aM&&(jp s.ax&&leB s.ax.bB (WR ((s.aM.length:Int)+1))))
def tQ (s:ah):Bool:=leB (yO s.ax.aw) (MX s.bT)
def GH (s:ah):Bool:=(!eqB s.bj 1||mI s.aV)&&(!ltB 0 s.bE||mI s.aC.eP)
def jb (s:ah):Bool:=tp s.bA&&(qx s.gF&&(jX s.ge&&(jp s.ax&&(ji s.bT&&(inR s.bj 0 1&&(GH s&&(inR s.bE 0 999999&&(inR s.ag 0 999999&&(inR s.aT 0 999999&&(inR s.aV 0 2147483646&&
 (inR s.be 0 5&&(inR s.d6 0 5&&(inR s.dP 0 3&&(leB (s.aM.length:Int) 24&&(Bw s.aM&&(leB s.ax.bB (WR ((s.aM.length:Int)+1))&&(s.ax.aw.all (Bv s)&&tQ s)))))))))))))))))
theorem Ys (hs:mW s=true) (hx:s.ax.aw[k]?=some x):∃y,ix s.aM (WR (x.cV-1))=some y/\s.aM[(x.cV-1).toNat]?=some y:=by
 simp only[mW,jp,v0,eJ,bO] at hs
 obtain⟨h1,h2,⟨⟨h3,h3'⟩,h4,h5,h6⟩,h7⟩:=hs
 have hk:=(aab.1 hx).1
 have h8:=h6 k x hx
 simp only[unB,v0] at h8
 have h4':(s.ax.aw.length:Int)<=8:=by simpa [leB] using h4
 have h1':(s.aM.length:Int)<=24:=by simpa [leB] using h1
 rw[bK oaa] at h5
 rw[bK oaa] at h7
 have h9:=h8.1
 rw[bK (n:=s.ax.bB-_) oaa,bK oaa] at h9
 have h9':x.cV=s.ax.bB-s.ax.aw.length+k:=by simpa [eqB] using h9
 have h5':1<=s.ax.bB-(s.ax.aw.length:Int):=by simpa [leB] using h5
 have h7':s.ax.bB<=(s.aM.length:Int)+1:=by simpa [leB] using h7
 have hlt:(x.cV-1).toNat<s.aM.length:=by omega
 refine⟨s.aM[(x.cV-1).toNat],?_,aaa hlt⟩
 have hm:x.cV-1=(((x.cV-1).toNat:Nat):Int):=by omega
 rw[bK oaa]
 generalize (x.cV-1).toNat=m at hm hlt ⊢
 rw[hm,bu,aaa hlt]
theorem ZV (h:dU s) (hs:mW s=true):iter (gp s) FU 0=some (s.ax.aw.all (Bv s)&&tQ s):=by
 have hl:=h.2.2.1
 have:=ga (L:=gp s) s.ax.aw (λ_ x=>Bv s x) (some (tQ s)) oaa (λk x hx hk=>by
  obtain⟨y,h1,h2⟩:=Ys hs hx
  simp only[gp,cy hk,bu,hx,h1,eqb_i,WRs (k:=k),Bv,h2,au]
  cases Jy x.bg y.bg<;>rfl) (by simp[gp,iW,nb_i hl,Yk,tQ])
 rw[this,sh]
 cases s.ax.aw.all (Bv s)<;>rfl
theorem ZW (h:dU s) (hs:mW s=true):iter (kB s) FU 0=some (s.ax.aw.all (Bv s)&&tQ s):=by
 have hl:=h.2.2.1
 have:=ga (L:=kB s) s.ax.aw (λ_ x=>Bv s x) (some (tQ s)) oaa (λk x hx hk=>by
  obtain⟨y,h1,h2⟩:=Ys hs hx
  simp only[kB,cy hk,bu,hx,h1,eqb_s,WRs (k:=k),Bv,h2,au]
  cases Jy x.bg y.bg<;>rfl) (by simp[kB,Xh hl,Yl,tQ])
 rw[this,sh]
 cases s.ax.aw.all (Bv s)<;>rfl
theorem VK (h:dU s):xb s=some (mW s&&(s.ax.aw.all (Bv s)&&tQ s)):=by
 have hl:=h.2.1.1
 have hL:=ga (L:=pZ s) s.aM (λ_ x=>vf x.bg.length) (bif leB (s.aM.length:Int) 24&&(jp s.ax&&leB s.ax.bB (WR ((s.aM.length:Int)+1))) then iter (kB s) FU 0 else some false) oaa (λk x hx hk=>by
  simp only[pZ,cy hk,bu,hx,WRs (k:=k),vf,au]
  cases ltB 60 (x.bg.length:Int)<;>rfl) (by
  simp only[pZ,bR,Nh h.2.2,sN,au]
  cases leB (s.aM.length:Int) 24<;>cases jp s.ax<;>cases leB s.ax.bB (WR ((s.aM.length:Int)+1))<;>rfl)
 rw[sh] at hL
 unfold xb
 rw[hL]
 cases hs:mW s with
 |true=>
  rw[ZW h hs]
  simp only[mW,Bw,v0] at hs
  simp[hs.1,hs.2.1,hs.2.2.1,hs.2.2.2]
 |false=>
  have:(leB (s.aM.length:Int) 24&&(jp s.ax&&leB s.ax.bB (WR ((s.aM.length:Int)+1))))=false\/(s.aM.all λx=>vf x.bg.length)=false:=by
   simp only[mW,Bw] at hs
   revert hs
   cases leB (s.aM.length:Int) 24<;>cases jp s.ax<;>cases leB s.ax.bB (WR ((s.aM.length:Int)+1))<;>cases(s.aM.all λx=>vf x.bg.length)<;>simp
  rcases this with e|e<;>rw[e]
  .cases(s.aM.all λx=>vf x.bg.length)<;>rfl
  rfl
theorem st01 (n:Int):inR n 0 1=(eqB n 0||eqB n 1):=by rw[abZ];simp[inR,leB,eqB];omega
theorem D0 (h:dU s):iP s=some (jb s):=by
 have hz:=λhs=>ZV h hs
 simp only[iP,Yj,ZQ h.1,U3,Ng h.2.2,Fq,Mr,gv,Ya h.2.1.1,abX,jb,GH,st01,sN 24,sN (WR ((s.aM.length:Int)+1))]
 simp only[mW] at hz
 revert hz
 generalize iter (gp s) FU 0=z
 cases tp s.bA
 .intro _;rfl
 cases qx s.gF
 .intro _;rfl
 cases jX s.ge
 .intro _;rfl
 cases jp s.ax
 .intro _;rfl
 cases ji s.bT
 .intro _;rfl
 cases eqB s.bj 0<;>cases eqB s.bj 1<;>try (intro _;rfl)
 all_goals
  cases mI s.aV<;>cases ltB 0 s.bE<;>cases mI s.aC.eP<;>try (intro _;rfl)
 all_goals
  cases inR s.bE 0 999999<;>cases inR s.ag 0 999999<;>cases inR s.aT 0 999999<;>cases inR s.aV 0 2147483646<;>try (intro _;rfl)
 all_goals
  cases inR s.be 0 5<;>cases inR s.d6 0 5<;>cases inR s.dP 0 3<;>try (intro _;rfl)
 all_goals
  cases leB (s.aM.length:Int) 24<;>cases Bw s.aM<;>cases leB s.ax.bB (WR ((s.aM.length:Int)+1))<;>intro hz<;>first|rfl|exact hz rfl
theorem D1 (h:dU s):kr s=some (jb s):=by
 have:jb s=(inR s.bj 0 1&&(GH s&&(tp s.bA&&(qx s.gF&&(jX s.ge&&(ji s.bT&&((mW s&&(s.ax.aw.all (Bv s)&&tQ s))&&(inR s.bE 0 999999&&(inR s.ag 0 999999&&(inR s.aT 0 999999&&(inR s.aV 0 2147483646&&(inR s.be 0 5&&(inR s.d6 0 5&&inR s.dP 0 3))))))))))))):=by
  simp only[jb,mW];ac_rfl
 rw[this]
 simp only[kr,Vf,VL h.1,U4,Cm,Ms,fS,VK h,abX,GH,st01]
 cases eqB s.bj 0<;>cases eqB s.bj 1<;>cases mI s.aV<;>cases ltB 0 s.bE<;>cases mI s.aC.eP<;>try rfl
 all_goals
  cases tp s.bA<;>cases qx s.gF<;>cases jX s.ge<;>cases ji s.bT<;>cases(mW s&&(s.ax.aw.all (Bv s)&&tQ s))<;>try rfl
 all_goals
  cases inR s.bE 0 999999<;>cases inR s.ag 0 999999<;>cases inR s.aT 0 999999<;>cases inR s.aV 0 2147483646<;>try rfl
 all_goals
  cases inR s.be 0 5<;>cases inR s.d6 0 5<;>rfl
def SC (a:am):Int:=a.aj.foldl (λs x=>WR (s+x.d8)) 0
theorem Z2 (h:gq a):ot a=some (SC a):=by
 have:=h.1
 unfold ot
 rw[vg a.aj (λs x=>WR (s+x.d8)) oaa (λk x s hx hk=>by
  simp only[ou,cy hk,bu,hx,WRs (k:=k),au]) (λs=>by simp[ou])]
 rfl
theorem Z3 (h:gq a):oY a=some (SC a):=by
 have:=h.1
 unfold oY
 rw[vg a.aj (λs x=>WR (s+x.d8)) oaa (λk x s hx hk=>by
  simp only[oZ,cy hk,bu,hx,WRs (k:=k),au]) (λs=>by simp[oZ])]
 rfl
def EX (a:am) (k:Nat) (x:aH):Bool:=!ltB x.aG 0&&(inR x.d8 1 100000&&jE aH.aG a.aj k x)
def SB (a:am):Bool:=eqB (WR (WR (a.bJ+a.eD)+SC a)) a.fw
def iL (a:am):Bool:=inR a.fw 0 100000&&(inR a.bJ 0 a.fw&&(inR a.eD 0 a.fw&&(leB (a.aj.length:Int) 8&&(fM (EX a) a.aj&&SB a))))
theorem zH (h:gq a):gX a=some (iL a):=by
 have hl:=h.1
 have hL:iter (jL a) FU 0=bif fM (EX a) a.aj then some (SB a) else some false:=by
  refine ga a.aj (EX a) _ oaa (λk x hx hk=>?_) (by simp[jL,Z2 h,SB])
  simp only[jL,cy hk,bu,hx,WRs (k:=k),gv,EX,au]
  cases k with
  |zero=>
   simp only[jE,show ltB 0 ((0:Nat):Int)=false from by simp[ltB]]
   cases ltB x.aG 0<;>cases inR x.d8 1 100000<;>rfl
  |succ k=>
   obtain⟨y,hy,hi⟩:=wF hk oaa oaa
   simp only[aca] at hy
   simp only[jE,hy,hi,show ltB 0 ((k+1:Nat):Int)=true from by simp[ltB],abX]
   cases ltB x.aG 0<;>cases inR x.d8 1 100000<;>cases leB x.aG y.aG<;>rfl
 simp only[gX,gv,abX,hL,iL,sN 8]
 cases inR a.fw 0 100000<;>cases inR a.bJ 0 a.fw<;>cases inR a.eD 0 a.fw<;>cases leB (a.aj.length:Int) 8<;>cases fM (EX a) a.aj<;>rfl
theorem zJ (h:gq a):g9 a=some (iL a):=by
 have hl:=h.1
 have hL:iter (jS a) FU 0=bif fM (EX a) a.aj then some (inR a.fw 0 100000&&(inR a.bJ 0 a.fw&&(inR a.eD 0 a.fw&&(leB (a.aj.length:Int) 8&&SB a)))) else some false:=by
  refine ga a.aj (EX a) _ oaa (λk x hx hk=>?_) ?_
  .simp only[jS,cy hk,bu,hx,WRs (k:=k),fS,EX,au]
   cases k with
   |zero=>
    simp only[jE,show ltB 0 ((0:Nat):Int)=false from by simp[ltB]]
    cases ltB x.aG 0<;>cases inR x.d8 1 100000<;>rfl
   |succ k=>
    obtain⟨y,hy,hi⟩:=wF hk oaa oaa
    simp only[aca] at hy
    simp only[jE,hy,hi,hx,bu,show ltB 0 ((k+1:Nat):Int)=true from by simp[ltB],abX]
    cases ltB x.aG 0<;>cases inR x.d8 1 100000<;>cases leB x.aG y.aG<;>rfl
  simp only[jS,bR,fS,Z3 h,SB,au]
  cases inR a.fw 0 100000<;>cases inR a.bJ 0 a.fw<;>cases inR a.eD 0 a.fw<;>cases leB (a.aj.length:Int) 8<;>rfl
 simp only[g9,hL,iL]
 cases inR a.fw 0 100000<;>cases inR a.bJ 0 a.fw<;>cases inR a.eD 0 a.fw<;>cases leB (a.aj.length:Int) 8<;>cases fM (EX a) a.aj<;>rfl
def iO (a:am) (i:Int):Int:=match a.aj.find? (λx=>eqB x.aG i) with
 |some x=>x.d8
 |none=>0
theorem PL (p:α->Bool) (xs:List α):(nK p 0 xs= -1/\xs.find? p=none)\/∃x,ltB (nK p 0 xs) 0=false/\ix xs (nK p 0 xs)=some x/\xs.find? p=some x:=by
 rcases Du p xs 0 with⟨h1,h2⟩|⟨j,h1,x,h2,h3,h4⟩
 .exact .inl ⟨h1,by rw[acu];intro x hx;simp[h2 x hx]⟩
 right
 have h1':nK p 0 xs=(j:Int):=by simpa using h1
 refine⟨x,by rw[h1'];simp[ltB],by rw[h1',bu,h2],?_⟩
 have hj:=(aab.1 h2)
 rw[List.find?_eq_some_iff_getElem]
 have hjl:=hj.1
 refine⟨h3,j,hjl,hj.2,λi hi=>?_⟩
 have hil:i<xs.length:=Nat.lt_trans hi hjl
 have:xs[i]∈xs.take j:=List.mem_take_iff_getElem.2 ⟨i,by omega,rfl⟩
 simp[h4 _ this]
theorem MZ (h:gq a) (i:Int):om a i=some (iO a i):=by
 have:=h.1
 have hf:=ve (L:=iY a i) a.aj (λx=>eqB x.aG i) oaa (λk x hx hk=>by
  simp only[iY,cy hk,bu,hx,WRs (k:=k),au]
  cases eqB x.aG i<;>rfl) (by simp[iY,dn])
 unfold om f6 iO
 rw[hf]
 rcases PL (λx:aH=>eqB x.aG i) a.aj with⟨e1,e2⟩|⟨x,e1,e2,e3⟩
 .rw[e1,e2];simp[ltB]
 simp only[e1,e2,e3,au]
theorem M2 (h:gq a) (i:Int):oW a i=some (iO a i):=by
 have:=h.1
 have hf:=ve (L:=uf a i) a.aj (λx=>eqB x.aG i) oaa (λk x hx hk=>by
  simp only[uf,cy hk,bu,hx,WRs (k:=k),au]
  cases eqB x.aG i<;>rfl) (by simp[uf,dn])
 unfold oW qv iO
 rw[hf]
 rcases PL (λx:aH=>eqB x.aG i) a.aj with⟨e1,e2⟩|⟨x,e1,e2,e3⟩
 .rw[e1,e2];simp[ltB]
 simp only[e1,e2,e3,au]
def xj (a:am) (q:cX):Bool:=iL a&&(ji q&&eqB (iO a q.aG) q.cG)
theorem Ky (h:gq a) (q:cX):fR a q=some (xj a q):=by
 simp only[fR,zH h,Fq,MZ h,abX,xj];cases iL a<;>cases ji q<;>rfl
theorem Kz (h:gq a) (q:cX):fT a q=some (xj a q):=by
 simp only[fT,zJ h,Cm,M2 h,abX,xj];cases iL a<;>cases ji q<;>rfl
theorem lc {L:Int->Option (cq Int ρ)} (xs:List α) (p:Nat->α->Bool) (f:ρ) (c:Option ρ) (hl:xs.length<=9223372036854775806)
 (hs:∀(k:Nat) (x:α),xs[k]?=some x->k<xs.length->L (k:Int)=bif p k x then some (.next ((k+1:Nat):Int)) else some (.done f)) (he:L (xs.length:Int)=dn c):
 iter L FU 0=bif fM p xs then c else some f:=by
 have:=eK (step:=L) xs.zipIdx (λk (_:Unit)=>(k:Int)) (λ_ y=>bif p y.2 y.1 then some (.next ()) else some (.done f)) (λ_=>c) (by simpa using hl)
  (λk y s hy hk=>by
   have hk':k<xs.length:=by simpa using hk
   have:y=(xs[k],k):=by rw[aaa hk] at hy;simpa using hy.symm
   subst this
   rw[hs k xs[k] (aaa hk') hk'];cases p k xs[k]<;>rfl) (λs=>by rw[List.length_zipIdx,he]) ()
 refine Eq.trans (show iter L FU 0=_ from this) ?_
 have key:∀ys:List (α×Nat),kX (λ(_:Unit) y=>bif p y.2 y.1 then some (.next ()) else some (cq.done f)) (λ_=>c) ys ()=bif ys.all (λy=>p y.2 y.1) then c else some f:=by
  intro ys
  induction ys with
  |nil=>rfl
  |cons x xs ih=>rw[kX];cases hp:p x.2 x.1<;>simp[hp,ih]
 exact key _
theorem Ue {l:List Int} (h:l.length<=1048576) (v:Int):CJ l v=some (l.any λx=>eqB x v):=
 LH l (λx=>eqB x v) oaa (λk x hx hk=>by
  simp only[Bn,cy hk,bu,hx,WRs (k:=k),au]
  cases eqB x v<;>rfl) (by simp[Bn,dn])
theorem TU (a b:Int):eqB a b=eqB b a:=by rw[abZ];simp[eqB];exact eq_comm
theorem has_i {l:List Int} (h:l.length<=1048576) (v:Int):gA l v=some (l.any λx=>eqB x v):=by
 have hf:=ve (L:=gB l v) l (λx=>eqB x v) oaa (λk x hx hk=>by
  simp only[gB,cy hk,bu,hx,WRs (k:=k),TU v x,au]
  cases eqB x v<;>rfl) (by simp[gB,dn])
 unfold gA kD
 rw[hf]
 simp only[abX]
 rw[GF oaa]
def eO (m:aS) (i:Int):Bool:=inR i 0 ((m.aX.length:Int)-1)
theorem wc (h:m.aX.length<=1048576) (i:Int):kP m i=some (eO m i):=by
 simp only[kP,gv,Bz h,abX,eO]
def BD (m:aS) (x:Int) (i:Nat):Bool:=match m.aX[x.toNat]? with
 |some d=>d.cr.any λy=>eqB y (i:Int)
 |none=>false
def nbB (m:aS) (i:Nat) (ns:List Int) (k:Nat) (x:Int):Bool:=eO m x&&(!eqB x (i:Int)&&(jE id ns k x&&BD m x i))
def zy (m:aS) (i:Nat) (c:fr):Bool:=inR c.fJ 0 2&&fM (nbB m i c.cr) c.cr
def pJ (m:aS):Bool:=inR (m.aX.length:Int) 1 6&&fM (zy m) m.aX
theorem BH {x:Int} (h:eO m x=true):∃d,d∈m.aX/\ix m.aX x=some d/\m.aX[x.toNat]?=some d:=by
 simp only[eO,bO] at h
 have hlt:x.toNat<m.aX.length:=by omega
 refine⟨m.aX[x.toNat],ach hlt,?_,aaa hlt⟩
 have hm:x=(x.toNat:Int):=by omega
 generalize x.toNat=m at hm hlt ⊢
 rw[hm,bu,aaa hlt]
theorem map_i (h:f8 m):tA m=some (pJ m):=by
 have hl:=h.1
 have h2:∀(i:Nat) (c:fr),c∈m.aX->i<m.aX.length->iter (nY m (i:Int) c) FU 0=bif fM (λk x=>!eqB x (i:Int)&&(eO m x&&BD m x i)) c.cr then some (.next ((i+1:Nat):Int)) else some (.done false):=by
  intro i c hc hi
  have hn:=(h.2 c hc).1
  refine lc c.cr (λk x=>!eqB x (i:Int)&&(eO m x&&BD m x i)) (cq.done false) _ oaa (λk x hx hk=>?_) (by simp[nY,WRs (k:=i)])
  simp only[nY,cy hk,bu,hx,WRs (k:=k),wc hl,uI,au]
  cases eqB x (i:Int) with
  |true=>rfl
  |false=>
   cases hcb:eO m x with
   |false=>rfl
   |true=>
    obtain⟨d,d1,d2,d3⟩:=BH hcb
    simp only[d2,has_i (h.2 d d1).1,BD,d3,au]
    cases(d.cr.any λy=>eqB y (i:Int))<;>rfl
 have hL:iter (nX m) FU 0=bif fM (zy m) m.aX then some true else some false:=by
  refine lc m.aX (zy m) false (some true) oaa (λk x hx hk=>?_) (by simp[nX])
  have hm:=aac hx
  simp only[nX,cy hk,bu,hx,gv,PW (h.2 x hm).1,h2 k x hm hk,zy,au]
  have:fM (nbB m k x.cr) x.cr=(asc x.cr&&fM (λj y=>!eqB y (k:Int)&&(eO m y&&BD m y k)) x.cr):=by
   rw[asc,LF]
   exact NU λj y _=>by simp only[nbB];ac_rfl
  rw[this]
  cases inR x.fJ 0 2<;>cases asc x.cr<;>cases fM (λj y=>!eqB y (k:Int)&&(eO m y&&BD m y k)) x.cr<;>rfl
 simp only[tA,gv,abX,hL,pJ]
 cases inR (m.aX.length:Int) 1 6<;>cases fM (zy m) m.aX<;>rfl
theorem Ye (h:f8 m):qq m=some (pJ m):=by
 have hl:=h.1
 have h2:∀(i:Nat) (c:fr),c∈m.aX->i<m.aX.length->iter (oJ m (i:Int) c) FU 0=bif fM (nbB m i c.cr) c.cr then some (.next ((i+1:Nat):Int)) else some (.done false):=by
  intro i c hc hi
  have hn:=(h.2 c hc).1
  refine lc c.cr (nbB m i c.cr) (cq.done false) _ oaa (λk x hx hk=>?_) (by simp[oJ,WRs (k:=i)])
  simp only[oJ,cy hk,bu,hx,WRs (k:=k),fS,Bz hl,nbB,au]
  cases hcb:eO m x with
  |false=>rw[show inR x 0 ((m.aX.length:Int)-1)=false from hcb];rfl
  |true=>
   rw[show inR x 0 ((m.aX.length:Int)-1)=true from hcb]
   obtain⟨d,d1,d2,d3⟩:=BH hcb
   cases k with
   |zero=>
    simp only[jE,show ltB 0 ((0:Nat):Int)=false from by simp[ltB],d2,Ue (h.2 d d1).1,BD,d3,au]
    cases eqB x (i:Int)<;>cases(d.cr.any λy=>eqB y (i:Int))<;>rfl
   |succ k=>
    obtain⟨y,hy,hi⟩:=wF hk oaa oaa
    simp only[aca] at hy
    simp only[jE,hy,hi,show ltB 0 ((k+1:Nat):Int)=true from by simp[ltB],d2,Ue (h.2 d d1).1,BD,d3,id,au]
    cases eqB x (i:Int)<;>cases leB x y<;>cases(d.cr.any λy=>eqB y (i:Int))<;>rfl
 have hL:iter (oI m) FU 0=bif fM (zy m) m.aX then some (inR (m.aX.length:Int) 1 6) else some false:=by
  refine lc m.aX (zy m) false _ oaa (λk x hx hk=>?_) (by simp[oI,fS])
  have hm:=aac hx
  simp only[oI,cy hk,bu,hx,fS,h2 k x hm hk,zy,au]
  cases inR x.fJ 0 2<;>cases fM (nbB m k x.cr) x.cr<;>rfl
 simp only[qq,hL,pJ]
 cases inR (m.aX.length:Int) 1 6<;>cases fM (zy m) m.aX<;>rfl
def GE (d:aJ) (s:ah):Bool:=(eqB d.df.ID.dN s.bA.ID.dN&&(eqB d.df.ID.bL s.bA.ID.bL&&true))&&eqB d.df.eP s.bA.eP
def wM (n:ab) (i:Nat) (d:aJ):Bool:=match n.aF[i]?,n.bG[i]? with
 |some s,some a=>kW d&&(jb s&&(iL a&&(GE d s&&(eO n.eo d.be&&(eO n.eo s.be&&(eqB s.bT.aG (i:Int)&&xj a s.bT))))))
 |_,_=>false
def flB (n:ab) (f:bF):Bool:=inR f.bk 0 ((n.av.length:Int)-1)&&eO n.eo f.be
def AY (n:ab):Bool:=inR n.dv 0 (WR ((lJ .i64 1 (n.eo.aX.length:Int))-1))&&(inR n.qz 0 100000&&leB 0 n.jr)
def mJ (n:ab):Bool:=pJ n.eo&&(jK n.ef&&(!eqB n.ef.fj 0&&(leB (n.av.length:Int) 4&&(eqB (n.aF.length:Int) (n.av.length:Int)&&(eqB (n.bG.length:Int) (n.av.length:Int)&&
 (fM (wM n) n.av&&(leB (n.aK.length:Int) 200&&(n.aK.all (flB n)&&AY n))))))))
theorem Py {x:Int} (h:inR x 0 b=true):eO m x=ltB x (m.aX.length:Int):=by
 rw[bO] at h
 rw[abZ];simp[eO,inR,leB,ltB];omega
theorem flt_i (h:g8 n):iter (iE n) FU 0=some (n.aK.all (flB n)&&AY n):=by
 have hl:=h.2.2.2.2.1
 have:=ga (L:=iE n) n.aK (λ_ f=>flB n f) (some (AY n)) oaa (λk x hx hk=>by
  simp only[iE,cy hk,bu,hx,WRs (k:=k),gv,Bz h.2.1.1,wc h.1.1,flB,au]
  cases inR x.bk 0 ((n.av.length:Int)-1)<;>cases eO n.eo x.be<;>rfl) (by
  simp only[iE,bR,gv,AY,show leB 0 (n.eo.aX.length:Int)=true from by simp[leB],au]
  cases inR n.dv 0 (WR ((lJ .i64 1 (n.eo.aX.length:Int))-1))<;>cases inR n.qz 0 100000<;>rfl)
 rw[this,sh]
 cases n.aK.all (flB n)<;>rfl
theorem flt_s (h:g8 n):iter (iG n) FU 0=some (n.aK.all (flB n)&&AY n):=by
 have hl:=h.2.2.2.2.1
 have:=ga (L:=iG n) n.aK (λ_ f=>flB n f) (some (AY n)) oaa (λk x hx hk=>by
  simp only[iG,cy hk,bu,hx,WRs (k:=k),fS,Bz h.2.1.1,Bz h.1.1,flB,eO,au]
  cases inR x.bk 0 ((n.av.length:Int)-1)<;>cases inR x.be 0 ((n.eo.aX.length:Int)-1)<;>rfl) (by
  simp only[iG,bR,fS,AY,show leB 0 (n.eo.aX.length:Int)=true from by simp[leB],au]
  cases inR n.dv 0 (WR ((lJ .i64 1 (n.eo.aX.length:Int))-1))<;>cases inR n.qz 0 100000<;>rfl)
 rw[this,sh]
 cases n.aK.all (flB n)<;>rfl
section
variable {n:ab} (h:g8 n) (e1:n.aF.length=n.av.length) (e2:n.bG.length=n.av.length)
include h e1 e2
omit h in
theorem at_i (hk:k<n.av.length):∃s a,s∈n.aF/\a∈n.bG/\n.aF[k]?=some s/\n.bG[k]?=some a:=
 ⟨n.aF[k]'(by omega),n.bG[k]'(by omega),ach _,ach _,aaa _,aaa _⟩
theorem mem_i {d:aJ} (hd:n.av[k]?=some d):jP n (k:Int)=some (wM n k d):=by
 have hk:=(aab.1 hd).1
 obtain⟨s,a,s1,a1,s2,a2⟩:=at_i e1 e2 hk
 have od:=h.2.1.2 d (aac hd)
 have os:=h.2.2.1.2 s s1
 have oa:=h.2.2.2.1.2 a a1
 simp only[jP,bu,hd,s2,a2,TF od.2.1 od.1.1,D0 os,zH oa,wc h.1.1,Ky oa,abX,wM,GE]
 cases kW d<;>cases jb s<;>cases iL a<;>try rfl
 cases(eqB d.df.ID.dN s.bA.ID.dN&&(eqB d.df.ID.bL s.bA.ID.bL&&true))<;>cases eqB d.df.eP s.bA.eP<;>try rfl
 cases eO n.eo d.be<;>cases eO n.eo s.be<;>cases eqB s.bT.aG (k:Int)<;>rfl
theorem mem_s {d:aJ} (hd:n.av[k]?=some d):xc n (k:Int)=some (wM n k d):=by
 have hk:=(aab.1 hd).1
 obtain⟨s,a,s1,a1,s2,a2⟩:=at_i e1 e2 hk
 have od:=h.2.1.2 d (aac hd)
 have os:=h.2.2.1.2 s s1
 have oa:=h.2.2.2.1.2 a a1
 simp only[xc,bu,hd,s2,a2,TG od.2.1 od.1.1,D1 os,zJ oa,Kz oa,abX,wM,GE]
 cases hv:kW d
 .rfl
 cases hs:jb s
 .rfl
 have c1:eO n.eo d.be=ltB d.be (n.eo.aX.length:Int):=by
  simp only[kW,v0] at hv;exact Py hv.2.2.1
 have c2:eO n.eo s.be=ltB s.be (n.eo.aX.length:Int):=by
  simp only[jb,v0] at hs;exact Py hs.2.2.2.2.2.2.2.2.2.2.2.1
 rw[c1,c2]
 cases iL a<;>cases(eqB d.df.ID.dN s.bA.ID.dN&&(eqB d.df.ID.bL s.bA.ID.bL&&true))<;>cases eqB d.df.eP s.bA.eP<;>try rfl
 cases ltB d.be (n.eo.aX.length:Int)<;>cases ltB s.be (n.eo.aX.length:Int)<;>cases eqB s.bT.aG (k:Int)<;>rfl
theorem Zh:iter (iD n) FU 0=some (fM (wM n) n.av&&(leB (n.aK.length:Int) 200&&(n.aK.all (flB n)&&AY n))):=by
 have hl:=h.2.1.1
 have:=ga (L:=iD n) n.av (wM n) (some (leB (n.aK.length:Int) 200&&(n.aK.all (flB n)&&AY n))) oaa (λk x hx hk=>by
  simp only[iD,cy hk,mem_i h e1 e2 hx,WRs (k:=k),au]
  cases wM n k x<;>rfl) (by
  simp only[iD,bR,cond_false,flt_i h,sN 200]
  cases leB (n.aK.length:Int) 200<;>rfl)
 rw[this]
 cases fM (wM n) n.av<;>rfl
theorem Zi:iter (iF n) FU 0=some (fM (wM n) n.av&&(n.aK.all (flB n)&&AY n)):=by
 have hl:=h.2.1.1
 have:=ga (L:=iF n) n.av (wM n) (some (n.aK.all (flB n)&&AY n)) oaa (λk x hx hk=>by
  simp only[iF,cy hk,mem_s h e1 e2 hx,WRs (k:=k),au]
  cases wM n k x<;>rfl) (by simp only[iF,bR,cond_false,flt_s h])
 rw[this]
 cases fM (wM n) n.av<;>rfl
end
theorem zP {a b:Nat} (h:eqB (a:Int) (b:Int)=true):a=b:=by
 have:(a:Int)=b:=by simpa [eqB] using h
 omega
theorem zW (h:g8 n):gY n=some (mJ n):=by
 simp only[gY,map_i h.1,KR,abX,mJ,sN 4]
 cases pJ n.eo<;>cases jK n.ef<;>cases eqB n.ef.fj 0<;>cases leB (n.av.length:Int) 4<;>try rfl
 cases e1:eqB (n.aF.length:Int) (n.av.length:Int)<;>cases e2:eqB (n.bG.length:Int) (n.av.length:Int)<;>try rfl
 rw[Zh h (zP e1) (zP e2)];rfl
theorem RU (h:g8 n):mT n=some (mJ n):=by
 simp only[mT,Ye h.1,OD,abX,mJ,sN 4,sN 200]
 cases pJ n.eo<;>cases jK n.ef<;>cases eqB n.ef.fj 0<;>cases leB (n.av.length:Int) 4<;>try rfl
 cases e1:eqB (n.aF.length:Int) (n.av.length:Int)<;>cases e2:eqB (n.bG.length:Int) (n.av.length:Int)<;>try rfl
 rw[Zi h (zP e1) (zP e2)]
 cases fM (wM n) n.av<;>cases leB (n.aK.length:Int) 200<;>rfl
attribute [local simp] bR bu
theorem pt {by_:Nat} {L:Int×List α->Option (cq (Int×List α) (List α))} (xs:List α) (hb:by_<=100000) (hl:xs.length<=1048576)
 (hs:∀(k:Nat) (x:α),xs[k]?=some x->k<xs.length->L ((k:Int),xs.take k)=bif c8 by_ (xs.take k++[x]).length then some (.next (((k+1:Nat):Int),xs.take k++[x])) else none)
 (he:L ((xs.length:Nat),xs)=some (.done xs)):iter L FU (0,[])=some xs:=by
 have:=eK (step:=L) xs (λk (_:Unit)=>((k:Int),xs.take k)) (λ_ _=>some (.next ())) (λ_=>some xs) oaa
  (λk x _ hx hk=>by
   rw[hs k x hx hk,cB hb (by simp;omega)]
   have e:xs.take (k+1)=xs.take k++[x]:=by rw[acf,hx];rfl
   simp[e]) (λ_=>by rw[acA,he];rfl) ()
 rw[Gk xs (λ_ _=>rfl)] at this
 exact this
theorem BI (z:α) (xs:List α):cpL (aag ((xs.length:Int)).toNat z) xs=xs:=by simp[cpL]
theorem g7 {b n:Nat} (hb:b<=100000) (hn:n<=1048576):qk b (n:Int) (n:Int)=true:=by
 have h:b*n<=100000*1048576:=acx hb hn
 have h2:(b:Int)*(n:Int)<=104857600000:=by rw[<-Int.natCast_mul];omega
 simp only[qk,decide_eq_true_eq];omega
theorem pu {f:α->Option α} {L:Int×List α->Option (cq (Int×List α) (List α))} (z:α) (xs:List α) (hl:xs.length<=1048576) (hf:∀x∈xs,f x=some x)
 (hs:∀(k:Nat) (v:List α),L ((k:Int),v)=bif ltB (k:Int) (xs.length:Int) then(abU (ix xs (k:Int)) λx=>abU (f x) λr=>abU (ix v (k:Int)) λ_=>some (.next (WR ((k:Int)+1),v.set ((k:Int)).toNat r))) else some (.done v)):
 iter L FU (0,aag ((xs.length:Int)).toNat z)=some xs:=by
 have:=Rw (step:=L) id z xs oaa
  (λk x v hx hv=>by
   have hk:=(aab.1 hx).1
   rw[hs]
   simp[cy hk,hx,hf x (aac hx),WRs (k:=k),aaa (show k<v.length by omega)])
  (λv=>by rw[hs];simp)
 simpa using this
theorem IN {xs:List bM} (h:okL pA xs):s3 xs=some xs:=by
 rw[s3,pt (by_:=24) (L:=pY xs) xs oaa h.1 (λk x hx hk=>by
  simp[pY,cy hk,hx,nN (show k<9223372036854775807 by have:=h.1;omega),cB (by_:=1) (n:=x.bg.length) oaa (by have:=(h.2 x (aac hx)).1;omega)]) (by simp[pY])]
 rfl
theorem Ni {xs:List ae} (h:okL fC xs):vM xs=some xs:=by
 rw[vM,pt (by_:=32) (L:=rP xs) xs oaa h.1 (λk x hx hk=>by
  simp[rP,cy hk,hx,nN (show k<9223372036854775807 by have:=h.1;omega),cB (by_:=1) (n:=x.bg.length) oaa (by have:=(h.2 x (aac hx)).1;omega)]) (by simp[rP])]
 rfl
theorem HA (h:il w):nn w=some w:=by rw[nn,Ni h];rfl
theorem Vh (h:eM r):zn r=some r:=by rw[zn,Ni h.1,abX,IN h.2];rfl
theorem Zz {p:bD} (h:ez p):vP p=some p:=by
 rw[vP,aa9,cB oaa (by have:=h.1;omega)];rfl
theorem qS (h:dU s):ja s=some s:=by rw[ja,Zz h.1,abX,IN h.2.1,abX,HA h.2.2];rfl
theorem BL {d:aJ} (h:eb d):kv d=some d:=by rw[kv,Vh h];rfl
theorem FG (h:gq a):mG a=some a:=by
 rw[mG,aa9,cB oaa (by have:=h.1;omega)];rfl
theorem Xw {x:aA} (h:oE x):CO x=some x:=by
 rw[CO,aa9,cB oaa (by have:=h.1;omega)];rfl
theorem L8 (h:jD f):s9 f=some f:=by rw[s9,Xw h];rfl
theorem map_c (h:f8 m):qt m=some m:=by
 rw[qt,pt (by_:=32) (L:=jJ m) m.aX oaa h.1 (λk x hx hk=>by
  simp[jJ,cy hk,hx,nN (show k<9223372036854775807 by have:=h.1;omega),cB (by_:=8) (n:=x.cr.length) oaa (by have:=(h.2 x (aac hx)).1;omega)]) (by simp[jJ])]
 rfl
theorem Yi (h:g8 n):zu n=some n:=by
 obtain⟨h1,h2,h3,h4,h5⟩:=h
 rw[zu,map_c h1,abX,
  pt (by_:=144) (L:=uj n) n.av oaa h2.1 (λk x hx hk=>by simp[uj,cy hk,hx,nN (show k<9223372036854775807 by have:=h2.1;omega),BL (h2.2 x (aac hx))]) (by simp[uj]),abX,
  pt (by_:=288) (L:=uk n) n.aF oaa h3.1 (λk x hx hk=>by simp[uk,cy hk,hx,nN (show k<9223372036854775807 by have:=h3.1;omega),qS (h3.2 x (aac hx))]) (by simp[uk]),abX,
  pt (by_:=48) (L:=ul n) n.bG oaa h4.1 (λk x hx hk=>by simp[ul,cy hk,hx,nN (show k<9223372036854775807 by have:=h4.1;omega),FG (h4.2 x (aac hx))]) (by simp[ul]),abX,
  pt (by_:=176) (L:=um n) n.aK oaa h5.1 (λk x hx hk=>by simp[um,cy hk,hx,nN (show k<9223372036854775807 by have:=h5.1;omega),L8 (h5.2 x (aac hx))]) (by simp[um])]
 rfl
theorem Ul {xs:List Int} (h:xs.length<=1048576):rS xs=some xs:=by rw[rS,g7 oaa h,BI];rfl
theorem wa {xs:List Int} (h:xs.length<=1048576):eZ xs=some xs:=by rw[eZ,g7 oaa h,BI];rfl
theorem W4 {xs:List aH} (h:xs.length<=1048576):fX xs=some xs:=by rw[fX,g7 oaa h,BI];rfl
theorem VF {xs:List aD} (h:xs.length<=1048576):f5 xs=some xs:=by rw[f5,g7 oaa h,BI];rfl
theorem G1 {xs:List bM} (h:okL pA xs):mu xs=some xs:=by
 rw[mu,g7 oaa h.1,pu (f:=λx=>abU (eZ x.bg) λr=>some (⟨r⟩:bM)) (L:=pm xs) (⟨[]⟩:bM) xs h.1 (λx hx=>by rw[wa (h.2 x hx).1];rfl) (λk v=>by
  simp only[pm];cases ltB (k:Int) (xs.length:Int)<;>simp[acv])]
 rfl
theorem Bc {xs:List ae} (h:okL fC xs):kx xs=some xs:=by
 rw[kx,g7 oaa h.1,pu (f:=λx=>abU (eZ x.bg) λr=>some (⟨x.cV,r⟩:ae)) (L:=pk xs) bP xs h.1 (λx hx=>by rw[wa (h.2 x hx).1];rfl) (λk v=>by
  simp only[pk];cases ltB (k:Int) (xs.length:Int)<;>simp[acv])]
 rfl
theorem QJ (h:eM r):mw r=some r:=by rw[mw,Bc h.1,abX,G1 h.2];rfl
theorem N5 {d:aJ} (h:eb d):lk d=some d:=by rw[lk,QJ h];rfl
theorem Xs {p:bD} (h:ez p):kO p=some p:=by rw[kO,Ul h.1];rfl
theorem DY (h:il w):lr w=some w:=by rw[lr,Bc h];rfl
theorem wZ (h:dU s):gD s=some s:=by rw[gD,Xs h.1,abX,G1 h.2.1,abX,DY h.2.2];rfl
theorem C8 (h:gq a):fk a=some a:=by rw[fk,W4 h.1];rfl
theorem OT {x:bp} (h:tN x):rr x=some x:=by rw[rr,wa h.1];rfl
theorem Vb {x:aA} (h:oE x):wz x=some x:=by rw[wz,OT h];rfl
theorem I9 (h:jD f):p9 f=some f:=by rw[p9,Vb h];rfl
theorem Zd (h:f8 m):B6 m=some m:=by
 rw[B6,g7 oaa h.1,pu (f:=λx=>abU (rS x.cr) λr=>some (⟨x.fJ,r⟩:fr)) (L:=yw m) Pn m.aX h.1 (λx hx=>by rw[Ul (h.2 x hx).1];rfl) (λk v=>by
  simp only[yw];cases ltB (k:Int) (m.aX.length:Int)<;>simp[acv])]
 rfl
theorem Ox (h:g8 n):iX n=some n:=by
 obtain⟨h1,h2,h3,h4,h5⟩:=h
 rw[iX,Zd h1,abX,fN,g7 oaa h2.1,pu (L:=gT n.av) _ _ h2.1 (λx hx=>N5 (h2.2 x hx)) (λk v=>rfl),cond_true,abX,abX,
  fy,g7 oaa h3.1,pu (L:=gu n.aF) _ _ h3.1 (λx hx=>wZ (h3.2 x hx)) (λk v=>rfl),cond_true,abX,abX,
  fx,g7 oaa h4.1,pu (L:=gr n.bG) _ _ h4.1 (λx hx=>C8 (h4.2 x hx)) (λk v=>rfl),cond_true,abX,abX,
  fO,g7 oaa h5.1,pu (L:=gU n.aK) _ _ h5.1 (λx hx=>I9 (h5.2 x hx)) (λk v=>rfl),cond_true,abX,abX]
theorem Eh (n a b:Int):b9 n a b=some (inR n a b):=by unfold b9 inR;cases leB a n<;>rfl
theorem Nn (n a b:Int):dB n a b=some (inR n a b):=by unfold dB inR;cases leB a n<;>rfl
theorem JF (x m:Int):(abW x m)%m=x%m:=by
 have h:=Int.mul_tdiv_add_tmod x m
 have h2:x%m=(m*x.tdiv m+x.tmod m)%m:=by rw[h]
 rw[h2,Int.mul_add_emod_self_left]
theorem NE {m:Int} (x:Int) (hm:0<m): -m<abW x m/\abW x m<m:=⟨Int.lt_tmod_of_pos x hm,Int.tmod_lt_of_pos x hm⟩
theorem W9 {r m:Int} (h1: -m<r) (h2:r<0):r%m=r+m:=by
 rw[<-acH r m,acI oaa oaa]
theorem PU (x:Int) {m:Int} (h1:1<=m) (h2:m<=1000000000000):Rs x m=some (x%m):=by
 obtain⟨a,b⟩:=NE x (show 0<m by omega)
 have hr:inR m 1 1000000000000=true:=bO.2 ⟨h1,h2⟩
 have hz:(!eqB m 0)=true:=by simp[eqB];omega
 simp only[Rs,Eh,hr,hz,au]
 rw[<-JF x m]
 by_cases h:abW x m<0
 .rw[show ltB (abW x m) 0=true from lt0_t h,W9 a h]
  simp only[au]
  rw[bK oaa]
 rw[show ltB (abW x m) 0=false from lt0_f oaa,acI oaa b]
 simp only[au]
theorem z0 (x:Int) {m:Int} (h1:1<=m) (h2:m<=1000000000000):Iw x m=some (x%m):=by
 obtain⟨a,b⟩:=NE x (show 0<m by omega)
 have hr:inR m 1 1000000000000=true:=bO.2 ⟨h1,h2⟩
 have hz:(!eqB m 0)=true:=by simp[eqB];omega
 simp only[Iw,Nn,hr,hz,au]
 rw[bK oaa,ab0 oaa,acH,JF]
abbrev hM:Int:=2147483647
def BT (v x:Int):Int:=(v*1000003+x%hM+13)%hM
theorem p6 (v x:Int):0<=BT v x/\BT v x<hM:=⟨acB _ (by decide),acz _ (by decide)⟩
theorem Vc {v x:Int} (h0:0<=v) (h1:v<hM):abW (WR (WR (WR (v*1000003)+x%hM)+13)) hM=BT v x:=by
 have a:=acB x (show hM≠0 by decide)
 have b:=acz x (show 0<hM by decide)
 unfold hM at*
 rw[bK (n:=v*1000003) oaa,bK (n:=v*1000003+x%2147483647) oaa,bK (n:=v*1000003+x%2147483647+13) oaa,ab0 oaa]
 rfl
theorem wD {v x:Int} (h0:0<=v) (h1:v<hM):lO v x=some (BT v x):=by
 rw[lO,PU x oaa oaa]
 simp only[abX]
 rw[Vc h0 h1]
def Gq (v:Int) (xs:List Int):Int:=xs.foldl BT v
theorem Mf {v:Int} (h0:0<=v) (h1:v<hM):∀(xs:List Int),0<=Gq v xs/\Gq v xs<hM
 |[]=>⟨h0,h1⟩
 |x::xs=>Mf (p6 v x).1 (p6 v x).2 xs
theorem L9:∀(xs:List Int) (v:Int),0<=v->v<hM->kX (λ(s x:Int)=>some (cq.next (ρ:=Int) (abW (WR (WR (WR (s*1000003)+x%hM)+13)) hM))) some xs v=some (Gq v xs)
 |[],v,_,_=>rfl
 |x::xs,v,h0,h1=>by
  rw[kX,Vc h0 h1]
  exact L9 xs _ (p6 v x).1 (p6 v x).2
theorem Vu {xs:List Int} (hl:xs.length<=1048576):QL xs=some (Gq 11 xs):=by
 have:=eK (step:=y3 xs) xs (λk (s:Int)=>(s,(k:Int))) (λs x=>some (cq.next (abW (WR (WR (WR (s*1000003)+x%hM)+13)) hM))) some oaa
  (λk x s hx hk=>by
   simp only[y3,cy hk,bu,hx,z0 x (m:=2147483647) oaa oaa,WRs (k:=k),au];rfl) (λs=>by simp[y3]) 11
 rw[QL,show iter (y3 xs) FU (11,0)=_ from this,L9 xs 11 (by decide) (by decide)]
 rfl
theorem Je:∀(xs:List Int) (v:Int),0<=v->v<hM->kX (λ(s x:Int)=>abU (lO s x) λr=>some (cq.next (ρ:=Int) r)) some xs v=some (Gq v xs)
 |[],v,_,_=>rfl
 |x::xs,v,h0,h1=>by
  rw[kX,wD h0 h1]
  exact Je xs _ (p6 v x).1 (p6 v x).2
def ed (k:Int) (xs:List Int):Int:=BT (Gq (BT 11 k) xs) k
theorem lu (k:Int) (xs:List Int):0<=ed k xs/\ed k xs<hM:=p6 _ _
theorem et {xs:List Int} (hl:xs.length<=1048576) (k:Int):eY k xs=some (ed k xs):=by
 have:=eK (step:=mq xs) xs (λk (s:Int)=>(s,(k:Int))) (λs x=>abU (lO s x) λr=>some (cq.next r)) some oaa
  (λk x s hx hk=>by
   simp only[mq,cy hk,bu,hx,WRs (k:=k),au]
   cases lO s x<;>rfl) (λs=>by simp[mq]) (BT 11 k)
 rw[eY,wD (by decide) (by decide)]
 simp only[abX]
 have h2:=p6 11 k
 rw[show iter (mq xs) FU (BT 11 k,0)=_ from this,Je xs _ h2.1 h2.2]
 have h3:=Mf h2.1 h2.2 xs
 simp only[abX]
 rw[wD h3.1 h3.2]
 rfl
theorem eu {xs:List Int} (hl:xs.length<=100000) (k:Int):fa k xs=some (ed k xs):=by
 have a1:c8 8 ([k]++xs).length=true:=cB oaa (by simp;omega)
 have a2:c8 8 (([k]++xs)++[k]).length=true:=cB oaa (by simp;omega)
 rw[fa,a1,a2]
 simp only[cond_true]
 rw[Vu (by simp;omega)]
 simp[Gq,ed]
def dk (k x:Int):Int:=if ed k [9,x]=0 then 1 else ed k [9,x]
theorem uK (k x:Int):ph k x=some (dk k x):=by
 rw[ph,et (by simp)]
 simp only[abX,dk]
 by_cases h:ed k [9,x]=0
 .rw[h];simp
 rw[show eqB (ed k [9,x]) 0=false from eqB_f.2 h];simp[h]
theorem uV (k x:Int):pD k x=some (dk k x):=by
 have:=(lu k [9,x]).1
 rw[pD,eu (by simp)]
 simp only[abX,dk,Hi]
 by_cases h:ed k [9,x]=0
 .rw[h,show ltB 1 0=false from ltB_f.2 oaa];simp
 by_cases h1:ed k [9,x]=1
 .rw[h1];simp
 rw[show ltB 1 (ed k [9,x])=true from ltB_t.2 oaa];simp[h]
def Mu (k:Int) (xs:List Int):Int:=xs.foldl dk k
theorem Dw:∀(xs:List Int) (v:Int),kX (λ(s x:Int)=>some (cq.next (ρ:=Int) (dk s x))) some xs v=some (Mu v xs)
 |[],v=>rfl
 |x::xs,v=>by rw[kX];exact Dw xs _
theorem ym {p:fF} (hl:p.Steps.length<=1048576) (k:Int):p8 k p=some (Mu k p.Steps):=by
 have:=eK (step:=ke p.Steps) p.Steps (λj (s:Int)=>(s,(j:Int))) (λs x=>some (cq.next (dk s x))) some oaa
  (λj x s hx hj=>by simp[ke,cy hj,hx,WRs (k:=j),uK]) (λs=>by simp[ke]) k
 rw[p8,wC,show iter (ke p.Steps) FU (k,0)=_ from this,Dw]
 rfl
theorem y5 {p:fF} (hl:p.Steps.length<=1048576) (k:Int):qr k p=some (Mu k p.Steps):=by
 have:=eK (step:=lE p) p.Steps (λj (s:Int)=>(s,(j:Int))) (λs x=>some (cq.next (dk s x))) some oaa
  (λj x s hx hj=>by simp[lE,cy hj,hx,WRs (k:=j),uV]) (λs=>by simp[lE]) k
 rw[qr,show iter (lE p) FU (k,0)=_ from this,Dw]
 rfl
def M3 (k e:Int):Int:=Mu k [1,3,e]
theorem wr (k e:Int):rR k e=some (M3 k e):=by
 rw[rR,uL]
 simp only[abX]
 rw[ym (by simp)];rfl
theorem wX (k e:Int):rX k e=some (M3 k e):=by
 rw[rX,uX]
 simp only[abX]
 rw[y5 (by simp)];rfl
def okB (xs:List Int):Prop:=∀x∈xs,wN x
theorem SV {x:Int} (h:wN x):WR x=x:=bK (by simp only[wN] at h;omega)
theorem Dc:∀(xs acc:List Int),okB xs->acc.length+xs.length<=100000->kX (λ(s:List Int) (x:Int)=>bif c8 8 (s++[WR x]).length then some (cq.next (ρ:=List Int) (s++[WR x])) else none) some xs acc=some (acc++xs)
 |[],acc,_,_=>by simp[kX]
 |x::xs,acc,h,hl=>by
  simp only[aaj] at hl
  rw[kX,show c8 8 (acc++[WR x]).length=true from gj (by simp;omega) (by simp;omega),SV (h x (.head _))]
  simp only[cond_true]
  rw[Dc xs (acc++[x]) (λy hy=>h y (.tail _ hy)) (by simp;omega)]
  simp
theorem Jd {xs:List Int} (hb:okB xs) (hl:xs.length<=50000):rh xs=some ((xs.length:Int)::xs):=by
 have:=eK (step:=jZ xs) xs (λj (s:List Int)=>((j:Int),s)) (λ(s:List Int) (x:Int)=>bif c8 8 (s++[WR x]).length then some (cq.next (ρ:=List Int) (s++[WR x])) else none) some oaa
  (λj x s hx hj=>by
   simp only[jZ,cy hj,bu,hx,WRs (k:=j),au]
   cases c8 8 (s++[WR x]).length<;>rfl) (λs=>by simp[jZ]) [(xs.length:Int)]
 have hm:qk 8 0 (WR ((xs.length:Int)+1))=true:=by
  rw[bK oaa];simp only[qk,decide_eq_true_eq];omega
 rw[rh,hm]
 simp only[cond_true]
 rw[show((aag ((0:Int)).toNat 0)++[(xs.length:Int)])=[(xs.length:Int)] from rfl,show c8 8 [(xs.length:Int)].length=true from gj (by simp) (by simp)]
 simp only[cond_true]
 rw[show iter (jZ xs) FU (0,[(xs.length:Int)])=_ from this,Dc xs _ hb (by simp;omega)]
 rfl
theorem Jx {xs:List Int} (hb:okB xs) (hl:xs.length<=50000):rD xs=some ((xs.length:Int)::xs):=by
 have:=eK (step:=km xs) xs (λj (s:List Int)=>((j:Int),s)) (λ(s:List Int) (x:Int)=>bif c8 8 (s++[WR x]).length then some (cq.next (ρ:=List Int) (s++[WR x])) else none) some oaa
  (λj x s hx hj=>by
   simp only[km,cy hj,bu,hx,WRs (k:=j),au]
   cases c8 8 (s++[WR x]).length<;>rfl) (λs=>by simp[km]) [(xs.length:Int)]
 rw[rD,show iter (km xs) FU (0,[(xs.length:Int)])=_ from this,Dc xs _ hb (by simp;omega)]
 rfl
def Fc (m:bp):Bool:=inR m.cM 0 1&&(inR m.fE 1 100000&&(leB (m.bg.length:Int) 60&&inR m.iM 0 2147483646))
theorem sV (m:bp):kq m=some (Fc m):=by
 simp only[kq,Nn,abX,Fc]
 cases inR m.cM 0 1<;>cases inR m.fE 1 100000<;>cases leB (m.bg.length:Int) 60<;>rfl
theorem A2 (m:bp):mO m=some (Fc m):=by
 simp only[mO,Eh,abX,Fc]
 by_cases h0:m.cM=0
 .rw[h0,show inR 0 0 1=true from bO.2 oaa]
  simp only[bw,cond_true]
  cases inR m.fE 1 100000<;>cases leB (m.bg.length:Int) 60<;>rfl
 by_cases h1:m.cM=1
 .rw[h1,show inR 1 0 1=true from bO.2 oaa,show eqB 1 0=false from eqB_f.2 oaa]
  simp only[bw,au]
  cases inR m.fE 1 100000<;>cases leB (m.bg.length:Int) 60<;>rfl
 rw[show eqB m.cM 0=false from eqB_f.2 h0,show eqB m.cM 1=false from eqB_f.2 h1,show inR m.cM 0 1=false from by
  cases h:inR m.cM 0 1 with
  |false=>rfl
  |true=>have:=bO.1 h;omega]
 rfl
def mac (k:Int) (m:bp):Int:=ed k ([m.cM,m.fE]++((m.bg.length:Int)::m.bg))
theorem Ic {m:bp} (hb:okB m.bg) (hl:m.bg.length<=50000) (k:Int):wx k m=some (eqB m.iM (mac k m)):=by
 rw[wx,ny,Jd hb hl]
 simp only[abX]
 rw[show c8 8 ([m.cM,m.fE]++((m.bg.length:Int)::m.bg)).length=true from gj (by simp;omega) (by simp;omega),et (by simp;omega)]
 rfl
theorem AL {m:bp} (hb:okB m.bg) (hl:m.bg.length<=50000) (k:Int):sY k m=some (eqB m.iM (mac k m)):=by
 rw[sY,D7,Jx hb hl]
 simp only[abX]
 rw[show c8 8 ([m.cM,m.fE]++((m.bg.length:Int)::m.bg)).length=true from gj (by simp;omega) (by simp;omega),eu (by simp;omega)]
 rfl
theorem HW {m:bp} (h:Fc m=true):m.bg.length<=60:=by
 simp only[Fc,v0] at h
 have:=Am h.2.2.1
 omega
def xk (k:Int) (p:aA):Bool:=Fc p.bz&&(eqB p.bz.cM 1&&eqB p.bz.iM (mac (M3 k p.aT) p.bz))
theorem EQ {p:aA} (hb:okB p.bz.bg) (k:Int):rp k p=some (xk k p):=by
 rw[rp,A2]
 simp only[abX,xk,wr]
 cases hv:Fc p.bz
 .rfl
 rw[Ic hb (abb (HW hv) oaa)]
 cases eqB p.bz.cM 1<;>rfl
theorem xK {p:aA} (hb:okB p.bz.bg) (k:Int):o3 k p=some (xk k p):=by
 rw[o3,sV]
 simp only[abX,xk,wX]
 cases hv:Fc p.bz
 .rfl
 rw[AL hb (abb (HW hv) oaa)]
 cases eqB p.bz.cM 1<;>rfl
def d1 (k:Int) (i:Nat) (x:Int):Int:=(x-ed k [(i:Int)]%256)%256
def yd (k:Int) (xs:List Int):List Int:=xs.mapIdx (λi x=>d1 k i x)
theorem F8 (k:Int) (xs:List Int):(yd k xs).length=xs.length:=by simp[yd]
theorem WJ (k:Int) (xs:List Int):okB (yd k xs):=by
 intro x hx
 obtain⟨i,hi⟩:=aar hx
 simp only[yd,ab9] at hi
 cases h:xs[i]? with
 |none=>rw[h] at hi;cases hi
 |some y=>
  rw[h] at hi;simp at hi;subst hi
  simp only[wN,d1]
  omega
theorem HY (n:Int):IntKind.u8.wrap n=n%256:=by rw[IntKind.wrap_u8]
theorem Mg {xs:List Int} (hb:okB xs) (hl:xs.length<=50000) (k:Int):BW k xs=some (yd k xs):=by
 have hc:eZ xs=some xs:=by
  have hm:qk 1 (xs.length:Int) (xs.length:Int)=true:=by simp only[qk,decide_eq_true_eq];omega
  rw[eZ,hm]
  simp[cpL]
 have goal:Wp (iter (yh k xs) FU (0,xs)) (λr=>r=yd k xs):=by
  refine Wp.iterF (λs=>∃i:Nat,i<=xs.length/\s.1=(i:Int)/\s.2.length=xs.length/\(∀j,j<i->s.2[j]?=(yd k xs)[j]?)/\(∀j,i<=j->s.2[j]?=xs[j]?)) (λs=>((xs.length:Int)-s.1).toNat) ⟨0,by omega,rfl,rfl,by omega,λ_ _=>rfl⟩ (by simp;omega) ?_
  rintro⟨v2,v3⟩ ⟨i,hi,rfl,h3,h4,h5⟩
  simp only at h3 h4 h5
  simp only[yh]
  refine Wp.cond (λhlt=>?_) (λhlt=>?_)
  .have hlt:=lP hlt
   have hil:i<xs.length:=by omega
   refine Wp.ix oaa oaa λx hx hxi=>?_
   refine Wp.eq (et (by simp) _) (Wp.ix oaa oaa λx' _ _=>Wp.some ?_)
   simp only[abY] at hxi
   have hxi':xs[i]?=some x:=by rw[<-h5 i (aai _)];exact hxi
   have hr:=lu k [(i:Int)]
   have e1:abW (ed k [(i:Int)]) 256=ed k [(i:Int)]%256:=ab0 hr.1
   have e2:IntKind.u8.wrap (x-IntKind.u8.wrap (abW (ed k [(i:Int)]) 256))=d1 k i x:=by
    rw[HY,HY,e1,d1]
    omega
   have e3:WR ((i:Int)+1)=((i+1:Nat):Int):=by rw[bK oaa];rfl
   rw[e2,e3]
   refine⟨⟨i+1,by omega,rfl,by simpa using h3,λj hj=>?_,λj hj=>?_⟩,?_⟩
   .simp only[abY]
    rw[abJ]
    by_cases hij:i=j
    .subst hij
     rw[if_pos rfl,if_pos oaa]
     simp only[yd,ab9,hxi',acd]
    rw[if_neg hij];exact h4 j oaa
   .simp only[abY]
    rw[abJ,if_neg oaa]
    exact h5 j oaa
   simp only;omega
  have hlt:=px hlt
  refine Wp.some (ab8 λj=>?_)
  by_cases hj:j<xs.length
  .exact h4 j oaa
  rw[acb oaa,acb (by rw[F8];omega)]
 obtain⟨r,h1,h2⟩:=goal.ex
 rw[BW,hc]
 simp only[abX]
 rw[h1,h2];rfl
theorem M6 {xs:List Int} (hb:okB xs) (hl:xs.length<=50000) (k:Int):Cr k xs=some (yd k xs):=by
 have goal:Wp (iter (yY k xs) FU (0,[])) (λr=>r=yd k xs):=by
  refine Wp.iterF (λs=>∃i:Nat,i<=xs.length/\s.1=(i:Int)/\s.2=(yd k xs).take i) (λs=>((xs.length:Int)-s.1).toNat) ⟨0,by omega,rfl,rfl⟩ (by simp;omega) ?_
  rintro⟨v2,v3⟩ ⟨i,hi,rfl,rfl⟩
  simp only[yY]
  refine Wp.cond (λhlt=>?_) (λhlt=>?_)
  .have hlt:=lP hlt
   have hil:i<xs.length:=by omega
   refine Wp.ix oaa oaa λx hx hxi=>?_
   simp only[abY] at hxi
   have hx8:=hb x hx
   have hr:=lu k [(i:Int)]
   have e1:abW (ed k [(i:Int)]) 256=ed k [(i:Int)]%256:=ab0 hr.1
   have hb8:0<=ed k [(i:Int)]%256/\ed k [(i:Int)]%256<256:=by omega
   simp only[wN] at hx8
   refine Wp.eq (eu (by simp) _) (Wp.eq (z0 _ oaa oaa) ?_)
   have hlen:((yd k xs).take i).length=i:=by rw[abg,F8];omega
   rw[e1,SV (hb x hx),bK oaa,HY]
   have e4:(x-ed k [(i:Int)]%256)%256%256=d1 k i x:=by rw[d1];omega
   rw[e4]
   refine Wp.ok (gj (by simp only[aav,hlen,aaj,ab1];omega) (by simp only[aav,hlen,aaj,ab1];omega)) (Wp.some ?_)
   have e3:WR ((i:Int)+1)=((i+1:Nat):Int):=by rw[bK oaa];rfl
   rw[e3]
   have hxd:(yd k xs)[i]?=some (d1 k i x):=by simp only[yd,ab9,hxi,acd]
   refine⟨⟨i+1,by omega,rfl,by rw[acf,hxd];rfl⟩,?_⟩
   simp only;omega
  have hlt:=px hlt
  refine Wp.some ?_
  rw[acj (by rw[F8];omega)]
 obtain⟨r,h1,h2⟩:=goal.ex
 rw[Cr,h1,h2];rfl
def e1 (k:Int) (i:Nat) (x:Int):Int:=(x+ed k [(i:Int)]%256)%256
def tl (k:Int) (xs:List Int):List Int:=xs.mapIdx (λi x=>e1 k i x)
@[simp] theorem encL_len (k:Int) (xs:List Int):(tl k xs).length=xs.length:=by simp[tl]
theorem Ke (k:Int) (xs:List Int):okB (tl k xs):=by
 intro x hx
 obtain⟨i,hi⟩:=aar hx
 simp only[tl,ab9] at hi
 cases h:xs[i]? with
 |none=>rw[h] at hi;cases hi
 |some y=>rw[h] at hi;simp at hi;subst hi;simp only[wN,e1];omega
theorem WK {xs:List Int} (h:okB xs) (k:Int):yd k (tl k xs)=xs:=by
 apply ab8
 intro i
 simp only[yd,tl,ab9,Option.map_map]
 cases hx:xs[i]? with
 |none=>rfl
 |some x=>
  have:=h x (aac hx)
  simp only[wN] at this
  simp only[acd,Function.comp,d1,e1,Option.some.injEq]
  omega
theorem Mh {xs:List Int} (hb:okB xs) (hl:xs.length<=50000) (k:Int):Gs k xs=some (tl k xs):=by
 have hc:eZ xs=some xs:=wa oaa
 have goal:Wp (iter (yi k xs) FU (0,xs)) (λr=>r=tl k xs):=by
  refine Wp.iterF (λs=>∃i:Nat,i<=xs.length/\s.1=(i:Int)/\s.2.length=xs.length/\(∀j,j<i->s.2[j]?=(tl k xs)[j]?)/\(∀j,i<=j->s.2[j]?=xs[j]?)) (λs=>((xs.length:Int)-s.1).toNat) ⟨0,by omega,rfl,rfl,by omega,λ_ _=>rfl⟩ (by simp;omega) ?_
  rintro⟨v2,v3⟩ ⟨i,hi,rfl,h3,h4,h5⟩
  simp only at h3 h4 h5
  simp only[yi]
  refine Wp.cond (λhlt=>?_) (λhlt=>?_)
  .have hlt:=lP hlt
   have hil:i<xs.length:=by omega
   refine Wp.ix oaa oaa λx hx hxi=>?_
   refine Wp.eq (et (by simp) _) (Wp.ix oaa oaa λx' _ _=>Wp.some ?_)
   simp only[abY] at hxi
   have hxi':xs[i]?=some x:=by rw[<-h5 i (aai _)];exact hxi
   have hr:=lu k [(i:Int)]
   have t1:abW (ed k [(i:Int)]) 256=ed k [(i:Int)]%256:=ab0 hr.1
   have t2:IntKind.u8.wrap (x+IntKind.u8.wrap (abW (ed k [(i:Int)]) 256))=e1 k i x:=by
    rw[HY,HY,t1,e1]
    omega
   have t3:WR ((i:Int)+1)=((i+1:Nat):Int):=by rw[bK oaa];rfl
   rw[t2,t3]
   refine⟨⟨i+1,by omega,rfl,by simpa using h3,λj hj=>?_,λj hj=>?_⟩,?_⟩
   .simp only[abY]
    rw[abJ]
    by_cases hij:i=j
    .subst hij
     rw[if_pos rfl,if_pos oaa]
     simp only[tl,ab9,hxi',acd]
    rw[if_neg hij];exact h4 j oaa
   .simp only[abY]
    rw[abJ,if_neg oaa]
    exact h5 j oaa
   simp only;omega
  have hlt:=px hlt
  refine Wp.some (ab8 λj=>?_)
  by_cases hj:j<xs.length
  .exact h4 j oaa
  rw[acb oaa,acb (by rw[encL_len];omega)]
 obtain⟨r,h1,h2⟩:=goal.ex
 rw[Gs,hc]
 simp only[abX]
 rw[h1,h2];rfl
theorem M7 {xs:List Int} (hb:okB xs) (hl:xs.length<=50000) (k:Int):Cs k xs=some (tl k xs):=by
 have goal:Wp (iter (yZ k xs) FU (0,[])) (λr=>r=tl k xs):=by
  refine Wp.iterF (λs=>∃i:Nat,i<=xs.length/\s.1=(i:Int)/\s.2=(tl k xs).take i) (λs=>((xs.length:Int)-s.1).toNat) ⟨0,by omega,rfl,rfl⟩ (by simp;omega) ?_
  rintro⟨v2,v3⟩ ⟨i,hi,rfl,rfl⟩
  simp only[yZ]
  refine Wp.cond (λhlt=>?_) (λhlt=>?_)
  .have hlt:=lP hlt
   have hil:i<xs.length:=by omega
   refine Wp.ix oaa oaa λx hx hxi=>?_
   simp only[abY] at hxi
   have hx8:=hb x hx
   have hr:=lu k [(i:Int)]
   have t1:abW (ed k [(i:Int)]) 256=ed k [(i:Int)]%256:=ab0 hr.1
   have hb8:0<=ed k [(i:Int)]%256/\ed k [(i:Int)]%256<256:=by omega
   simp only[wN] at hx8
   refine Wp.eq (eu (by simp) _) ?_
   have hlen:((tl k xs).take i).length=i:=by rw[abg,encL_len];omega
   rw[t1,SV (hb x hx),bK oaa,ab0 oaa,HY]
   have t4:(x+ed k [(i:Int)]%256)%256%256=e1 k i x:=by rw[e1];omega
   rw[t4]
   refine Wp.ok (gj (by simp only[aav,hlen,aaj,ab1];omega) (by simp only[aav,hlen,aaj,ab1];omega)) (Wp.some ?_)
   have t3:WR ((i:Int)+1)=((i+1:Nat):Int):=by rw[bK oaa];rfl
   rw[t3]
   have hxd:(tl k xs)[i]?=some (e1 k i x):=by simp only[tl,ab9,hxi,acd]
   refine⟨⟨i+1,by omega,rfl,by rw[acf,hxd];rfl⟩,?_⟩
   simp only;omega
  have hlt:=px hlt
  refine Wp.some ?_
  rw[acj (by rw[encL_len];omega)]
 obtain⟨r,h1,h2⟩:=goal.ex
 rw[Cs,h1,h2];rfl
theorem Ux {b:List Int} (hb:okB b) (hl:b.length<=50000) (k d c:Int):ny k d c b=some (ed k ([d,c]++((b.length:Int)::b))):=by
 rw[ny,Jd hb hl]
 simp only[abX]
 rw[show c8 8 ([d,c]++((b.length:Int)::b)).length=true from gj (by simp;omega) (by simp;omega),et (by simp;omega)]
 rfl
theorem Uy {m:bp} (hb:okB m.bg) (hl:m.bg.length<=50000) (k:Int):D7 k m=some (mac k m):=by
 rw[D7,Jx hb hl]
 simp only[abX]
 rw[show c8 8 ([m.cM,m.fE]++((m.bg.length:Int)::m.bg)).length=true from gj (by simp;omega) (by simp;omega),eu (by simp;omega)]
 rfl
def Hw (k c:Int) (b:List Int):bp:=⟨1,c,tl (dk k (2*c+1)) b,mac k ⟨1,c,tl (dk k (2*c+1)) b,0⟩⟩
def iJ (root g e:Int) (x:ae):aA:=⟨g,e,Hw (M3 root e) x.cV x.bg⟩
theorem OS (h0:0<=x.cV) (h1:x.cV<=1000000) (hb:okB x.bg) (hl:x.bg.length<=50000) (root g e:Int):sW root g e x=some (iJ root g e x):=by
 simp only[sW,wX,Ho,abX,bK (n:=2*x.cV) oaa,bK (n:=2*x.cV+1) oaa,uV,M7 hb hl,Uy (m:=⟨1,x.cV,tl _ x.bg,0⟩) (Ke _ _) (by simpa using hl)]
 rfl
theorem Vz (h0:0<=x.cV) (h1:x.cV<=1000000) (hb:okB x.bg) (hl:x.bg.length<=50000) (root g e:Int):wu root g e x=some (iJ root g e x):=by
 simp only[wu,wr,Mj,abX,bK (n:=2*x.cV) oaa,bK (n:=2*x.cV+1) oaa,uK,Mh hb hl,Ux (Ke _ _) (show(tl _ x.bg).length<=50000 by simpa using hl)]
 rfl
theorem hM_le (k:Int) (xs:List Int):inR (ed k xs) 0 2147483646=true:=by have:=lu k xs;rw[bO];unfold hM at this;omega
theorem XG {c:Int} {b:List Int} (h0:1<=c) (h1:c<=100000) (hl:b.length<=60) (k:Int):Fc (Hw k c b)=true:=by
 simp only[Fc,Hw,encL_len,mac];rw[hM_le];simp[inR,leB];omega
theorem ZL (h0:1<=x.cV) (h1:x.cV<=100000) (hl:x.bg.length<=60) (root g e:Int):xk root (iJ root g e x)=true:=by
 simp only[xk,iJ,XG h0 h1 hl];simp[Hw,mac,eqB]
def qm (root g e:Int) (x:aA):ae×Bool:=
 if x.ag=g/\x.aT=e/\xk root x=true then(⟨x.bz.fE,yd (dk (M3 root e) (2*x.bz.fE+1)) x.bz.bg⟩,true) else(bP,false)
theorem Jj {p:aA} (hb:okB p.bz.bg) (k g e:Int):sH k g e p=some (qm k g e p)/\wW k g e p=some (qm k g e p):=by
 simp only[sH,EQ hb,wr,wW,xK hb,wX,abX,qm]
 cases hg:eqB p.ag g
 .rw[if_neg (λh=>H6 hg h.1)];exact⟨rt,rt⟩
 cases he:eqB p.aT e
 .rw[if_neg (λh=>H6 he h.2.1)];exact⟨rt,rt⟩
 cases hv:xk k p
 .rw[if_neg (λh=>by cases h.2.2)];exact⟨rt,rt⟩
 have he:=mc he
 rw[if_pos ⟨mc hg,he,rfl⟩]
 simp only[xk,v0] at hv
 obtain⟨h1,h2,h3⟩:=hv
 have hlen:=HW h1
 have hd:=mc h2
 have hm:=mc h3
 have hcnt:1<=p.bz.fE/\p.bz.fE<=100000:=by
  simp only[Fc,v0] at h1
  exact bO.1 h1.2.1
 rw[he] at hm
 have ek:eqB p.bz.iM (mac (M3 k e) p.bz)=true:=by rw[hm];simp
 simp only[wE,uK,Mg hb (show p.bz.bg.length<=50000 by omega),Bk,sV,AL hb (show p.bz.bg.length<=50000 by omega),uV,M6 hb (show p.bz.bg.length<=50000 by omega),h1,h2,ek,show leB p.bz.fE 0=false from leB_f.2 oaa,hd,bK (n:=2*p.bz.fE) oaa,bK (n:=2*p.bz.fE+1) oaa,au]
 refine⟨?_,?_⟩<;>first|trivial|rfl|(rw[bw];rfl)
theorem R4 (h0:1<=x.cV) (h1:x.cV<=100000) (hb:okB x.bg) (hl:x.bg.length<=60) (root g e:Int):qm root g e (iJ root g e x)=(x,true):=by
 rw[qm,if_pos ⟨rfl,rfl,ZL h0 h1 hl _ _ _⟩]
 simp[iJ,Hw,WK hb]
def OU (root:Int) (m:aD):Int:=ed (Mu root [1,2]) [23,m.a8,m.be,m.ag,m.aT,m.bL]
def sZ (root:Int) (m:aD):aD:={m with iM:=OU root m}
def qT (root:Int) (m:aD):Bool:=eqB m.iM (OU root m)
theorem VE (root:Int) (m:aD):sX root m=some (OU root m):=by simp[sX,oX,y5,eu,OU]
theorem VD (root:Int) (m:aD):sI root m=some (OU root m):=by simp[sI,oo,ym,et,OU]
theorem D2 (root:Int) (m:aD):jI root m=some (sZ root m):=by simp[jI,VE,sZ]
theorem Lc (root:Int) (m:aD):nu root m=some (sZ root m):=by simp[nu,VD,sZ]
theorem Lr (root:Int) (m:aD):it root m=some (qT root m):=by simp[it,VE,qT]
theorem Pf (root:Int) (m:aD):jf root m=some (qT root m):=by simp[jf,VD,qT]
@[simp] theorem vSig_sign (root:Int) (m:aD):qT root (sZ root m)=true:=by simp[qT,sZ,OU,eqB]
def ki (m:aD):Bool:=inR m.a8 1 8&&(inR m.be 0 5&&(inR m.ag 0 999999&&(inR m.aT 0 999999&&inR m.bL 0 1000000000000)))
theorem Qv (m:aD):lD m=some (ki m):=by
 simp only[lD,fS,abX,ki]
 cases inR m.a8 1 8<;>cases inR m.be 0 5<;>cases inR m.ag 0 999999<;>cases inR m.aT 0 999999<;>rfl
theorem Qu (m:aD):lg m=some (ki m):=by
 simp only[lg,gv,abX,ki]
 cases inR m.a8 1 8<;>cases inR m.be 0 5<;>cases inR m.ag 0 999999<;>cases inR m.aT 0 999999<;>rfl
def msk (k r:Int):Int:=ed k [1,r]%1000000
theorem GS (k r:Int):0<=msk k r/\msk k r<1000000:=by unfold msk;omega
theorem Yh (k r:Int):mB k r=some (msk k r):=by simp[mB,eu,z0,msk]
theorem Yg (k r:Int):mr k r=some (msk k r):=by simp[mr,et,msk,ab0 (lu k [1,r]).1]
def unm (k r a:Int):Int:=(a%1000000-msk k r)%1000000
theorem Pe (k r a:Int):0<=unm k r a/\unm k r a<=999999:=by unfold unm;omega
theorem Yu (k r a:Int):kt k r a=some (unm k r a):=by
 have:=GS k r
 simp only[kt,z0 _ (show(1:Int)<=1000000 by omega) oaa,Yh,abX,unm];rw[bK oaa]
theorem Yt (k r a:Int):kc k r a=some (unm k r a):=by
 have:=GS k r
 simp only[kc,PU _ (show(1:Int)<=1000000 by omega) oaa,Yg,abX,unm];rw[bK oaa]
def KA (x:Int):Int:=if x=0 then 1 else x
def vec (k r q:Int):cA:=bif inR q 0 999999 then⟨r,(q+msk k r)%1000000,ed k [2,r,q],ed k [3,r],KA (ed k [4,r,q])⟩ else cg
theorem W8 (k:Int) (xs:List Int):1<=KA (ed k xs)/\KA (ed k xs)<=2147483646:=by have:=lu k xs;unfold hM KA at*;split<;>omega
theorem Q3 (k r q:Int):iI k r q=some (vec k r q):=by
 simp only[iI,fS,abX,vec]
 cases hq:inR q 0 999999
 .rfl
 rw[bO] at hq
 have h1:=GS k r
 have h2:=lu k [4,r,q]
 simp only[Yh,z0 _ (show(1:Int)<=1000000 by omega) oaa,eu (show [2,r,q].length<=100000 by simp),eu (show [3,r].length<=100000 by simp),eu (show [4,r,q].length<=100000 by simp),Hi,au]
 rw[bK oaa]
 by_cases h:ed k [4,r,q]=0
 .rw[show ltB 1 (ed k [4,r,q])=false from ltB_f.2 oaa];simp[KA,h]
 by_cases h':ed k [4,r,q]=1
 .rw[h'];simp[ltB,KA]
 rw[show ltB 1 (ed k [4,r,q])=true from ltB_t.2 oaa];simp[KA,h]
theorem Yv (k r q:Int):li k r q=some (vec k r q):=by
 simp only[li,gv,abX,vec]
 cases hq:inR q 0 999999
 .rfl
 rw[bO] at hq
 have h1:=GS k r
 simp only[Yg,et (show [2,r,q].length<=1048576 by simp),et (show [3,r].length<=1048576 by simp),et (show [4,r,q].length<=1048576 by simp),au]
 rw[bK oaa,ab0 oaa]
 by_cases h:ed k [4,r,q]=0
 .rw[h];simp[KA]
 rw[show eqB (ed k [4,r,q]) 0=false from eqB_f.2 h];simp[KA,h]
theorem QY {k r q:Int} (h0:0<=q) (h1:q<=999999):unm k r ((q+msk k r)%1000000)=q:=by have:=GS k r;unfold unm;omega
def jj (k last:Int) (v:cA):Int:=
 if v.iM≠ed k [2,v.er,unm k v.er v.fY] then 1 else if unm k v.er v.fY<=last then 2 else if last<unm k v.er v.fY-1000 then 3 else 0
theorem Q1 (k last:Int) (v:cA):mE k last v=some (jj k last v):=by
 have hu:=Pe k v.er v.fY
 simp only[mE,Yu,eu (show [2,v.er,unm k v.er v.fY].length<=100000 by simp),abX,jj]
 rw[bK oaa]
 by_cases h1:v.iM=ed k [2,v.er,unm k v.er v.fY]
 .rw[show eqB v.iM (ed k [2,v.er,unm k v.er v.fY])=true from eqB_t.2 h1]
  simp only[ne_eq,h1,not_true_eq_false,if_false,au]
  by_cases h2:unm k v.er v.fY<=last
  .rw[show leB (unm k v.er v.fY) last=true from leB_t.2 h2,if_pos h2];rfl
  rw[show leB (unm k v.er v.fY) last=false from leB_f.2 oaa,if_neg h2]
  by_cases h3:last<unm k v.er v.fY-1000
  .rw[show ltB last (unm k v.er v.fY-1000)=true from ltB_t.2 h3,if_pos h3];rfl
  rw[show ltB last (unm k v.er v.fY-1000)=false from ltB_f.2 oaa,if_neg h3];rfl
 rw[show eqB v.iM (ed k [2,v.er,unm k v.er v.fY])=false from eqB_f.2 h1]
 simp[h1]
theorem XV {last:Int} (hl: -9000000000000<=last/\last<=9000000000000) (k:Int) (v:cA):pQ k last v=some (jj k last v):=by
 have hu:=Pe k v.er v.fY
 simp only[pQ,Yt,et (show [2,v.er,unm k v.er v.fY].length<=1048576 by simp),abX,jj]
 rw[bK oaa]
 by_cases h1:v.iM=ed k [2,v.er,unm k v.er v.fY]
 .rw[show eqB v.iM (ed k [2,v.er,unm k v.er v.fY])=true from eqB_t.2 h1]
  simp only[ne_eq,h1,not_true_eq_false,if_false,au]
  by_cases h2:unm k v.er v.fY<=last
  .rw[show leB (unm k v.er v.fY) last=true from leB_t.2 h2,if_pos h2];rfl
  rw[show leB (unm k v.er v.fY) last=false from leB_f.2 oaa,if_neg h2]
  by_cases h3:last<unm k v.er v.fY-1000
  .rw[show ltB (last+1000) (unm k v.er v.fY)=true from ltB_t.2 oaa,if_pos h3];rfl
  rw[show ltB (last+1000) (unm k v.er v.fY)=false from ltB_f.2 oaa,if_neg h3];rfl
 rw[show eqB v.iM (ed k [2,v.er,unm k v.er v.fY])=false from eqB_f.2 h1]
 simp[h1]
theorem SD {k r q:Int} (h0:0<=q) (h1:q<=999999) (last:Int):jj k last (vec k r q)=if q<=last then 2 else if last<q-1000 then 3 else 0:=by
 have hq:inR q 0 999999=true:=bO.2 ⟨h0,h1⟩
 simp only[vec,hq,cond_true,jj,QY h0 h1,ne_eq,not_true_eq_false,if_false]
def FY (id:dD) (q:Int):Int:=ed 29 [id.dN,id.bL,q]
theorem To (id:dD) (q:Int):lA id q=some (FY id q):=by simp[lA,eu,FY]
theorem YG (id:dD) (q:Int):nV id q=some (FY id q):=by simp[nV,et,FY]
theorem Ny {α:Type} (p:α->Bool):∀(xs:List α) (i:Nat),i<(xs.takeWhile p).length->∃x,xs[i]?=some x/\p x=true
 |[],i,h=>by simp at h
 |x::xs,i,h=>by
  rw[acg] at h
  cases hp:p x<;>rw[hp] at h
  .simp at h
  cases i with
  |zero=>exact⟨x,rfl,hp⟩
  |succ i=>exact Ny p xs i (by simpa using h)
theorem Nx {α:Type} (p:α->Bool):∀(xs:List α) (x:α),xs[(xs.takeWhile p).length]?=some x->p x=false
 |[],x,h=>by simp at h
 |y::xs,x,h=>by
  rw[acg] at h
  cases hp:p y<;>rw[hp] at h
  .simp at h;subst h;exact hp
  exact Nx p xs x (by simpa using h)
theorem HT (p:α->Bool) (xs:List α):(xs.takeWhile p).length<=xs.length:=(List.takeWhile_prefix p).length_le
theorem HU {α:Type} (p:α->Bool):∀xs:List α,xs.take (xs.takeWhile p).length=xs.takeWhile p
 |[]=>rfl
 |x::xs=>by
  rw[acg]
  cases p x
  .rfl
  simp[HU p xs]
theorem HS {α:Type} (p:α->Bool):∀xs:List α,xs.drop (xs.takeWhile p).length=xs.dropWhile p
 |[]=>rfl
 |x::xs=>by
  rw[acg,acG]
  cases p x
  .rfl
  simp[HS p xs]
theorem xl {L:Int->Option (cq Int Int)} (xs:List α) (p:α->Bool) (hl:xs.length<=1048576)
 (h1:∀(k:Nat) (x:α),xs[k]?=some x->L k=bif p x then some (.next (WR ((k:Int)+1))) else some (.done k)) (h0:L xs.length=some (.done xs.length)):iter L FU 0=some (((xs.takeWhile p).length:Nat):Int):=by
 have hle:=HT p xs
 have:Wp (iter L FU 0) (λr=>r=(((xs.takeWhile p).length:Nat):Int)):=by
  refine Wp.iterF (λs=>∃i:Nat,s=(i:Int)/\i<=(xs.takeWhile p).length) (λs=>((xs.length:Int)-s).toNat) ⟨0,rfl,by omega⟩ oaa ?_
  rintro _ ⟨i,rfl,hi⟩
  by_cases e:i<(xs.takeWhile p).length
  .obtain⟨x,hx,hp⟩:=Ny p xs i e
   rw[h1 i x hx,hp]
   exact⟨⟨i+1,by rw[bK oaa];rfl,by omega⟩,by simp only[bK (show-9223372036854775808<=(i:Int)+1/\(i:Int)+1<=9223372036854775807 by omega)];omega⟩
  have e:i=(xs.takeWhile p).length:=by omega
  by_cases hn:i<xs.length
  .obtain⟨x,hx⟩:∃x,xs[i]?=some x:=⟨_,aaa hn⟩
   rw[h1 i x hx,Nx p xs x (by rw[<-e];exact hx)]
   subst e;rfl
  have:i=xs.length:=by omega
  subst this
  rw[h0]
  show(xs.length:Int)=_
  omega
 obtain⟨r,hr,rfl⟩:=this.ex
 exact hr
def before (q:Int) (x:ae):Bool:=ltB x.cV q
def qc (x:ae) (xs:List ae):List ae:=xs.takeWhile (before x.cV)++[x]++xs.dropWhile (before x.cV)
def sv:List ae->Int->List bM->aO
 |[],n,dl=>⟨n,[],dl⟩
 |x::xs,n,dl=>if x.cV=n/\dl.length<24 then sv xs (n+1) (dl++[⟨x.bg⟩]) else⟨n,x::xs,dl⟩
def yJ (r:aO) (x:ae):Bool:=!pa r||(ltB 60 (x.bg.length:Int)||(!inR x.cV r.bB (r.bB+7)||(r.aC.any (λy=>eqB y.cV x.cV)||leB 24 (r.bi.length:Int))))
def nJ (r:aO) (x:ae):aO:=
 bif yJ r x then r else
  let o:=sv (qc x r.aC) r.bB r.bi
  bif leB 24 (o.bi.length:Int) then {o with aC:=[]} else o
theorem IT:∀(xs:List ae) (n:Int) (dl:List bM),dl.length<=24->(sv xs n dl).bi.length<=24
 |[],n,dl,h=>h
 |x::xs,n,dl,h=>by
  rw[sv];split
  .exact IT xs _ _ (by simp;omega)
  exact h
theorem Df {L:aO->Option (cq aO aO)}
 (hL:∀v:aO,v.aC.length<=1000->v.bi.length<=24->0<=v.bB->v.bB<=2000000->L v=match v.aC with
  |[]=>some (.done v)
  |x::xs=>if x.cV=v.bB/\v.bi.length<24 then some (.next ⟨v.bB+1,xs,v.bi++[⟨x.bg⟩]⟩) else some (.done v)):
 ∀(xs:List ae) (n:Int) (dl:List bM) (fu:Nat),xs.length<=1000->dl.length<=24->0<=n->n+xs.length<=2000000->xs.length<fu->iter L fu ⟨n,xs,dl⟩=some (sv xs n dl)
 |[],n,dl,fu,h1,h2,h3,h4,h5=>by
  cases fu with
  |zero=>omega
  |succ fu=>rw[iter,hL _ h1 h2 h3 (by simpa using h4)];rfl
 |x::xs,n,dl,fu,h1,h2,h3,h4,h5=>by
  simp only[aaj] at h1 h4 h5
  cases fu with
  |zero=>omega
  |succ fu=>
   rw[iter,hL ⟨n,x::xs,dl⟩ (by simpa using h1) h2 h3 (by simp only;omega),sv]
   simp only
   by_cases e:x.cV=n/\dl.length<24
   .rw[if_pos e,if_pos e]
    exact Df hL xs (n+1) _ fu oaa (by simp;omega) oaa oaa oaa
   rw[if_neg e,if_neg e]
theorem T0 {xs:List ae} (h:xs.length<=1048576) (q:Int):∃r,HD xs q=some r/\leB 0 r=xs.any (λy=>eqB y.cV q):=by
 refine⟨_,ve (L:=uh xs q) xs (λy=>eqB y.cV q) oaa (λk x hx hk=>?_) ?_,?_⟩
 .simp[uh,cy hk,hx];cases eqB x.cV q<;>simp[WRs (k:=k)]
 .simp[uh]
 rcases Du (λy:ae=>eqB y.cV q) xs 0 with⟨e,ha⟩|⟨j,e,x,hx,hp,_⟩
 .rw[show((0:Nat):Int)=0 from rfl] at e
  rw[e,show xs.any (λy=>eqB y.cV q)=false from by rw[abl];intro y hy;simp[ha y hy]];simp[leB]
 rw[show((0:Nat):Int)=0 from rfl] at e
 rw[e,show xs.any (λy=>eqB y.cV q)=true from List.any_eq_true.2 ⟨x,aac hx,hp⟩,leB_t];omega
theorem U6 (h:r.aC.length<=1048576) (q:Int):A6 r q=some (r.aC.any (λy=>eqB y.cV q)):=
 LH (L:=pS r q) r.aC (λy=>eqB y.cV q) oaa (λk x hx hk=>by
  simp[pS,cy hk,hx];cases eqB x.cV q<;>simp[WRs (k:=k)]) (by simp[pS])
theorem rY (h:pa r=true):r.bB=(r.bi.length:Int)+1/\r.bi.length<=24/\r.aC.length<=8:=by
 simp only[pa,v0] at h
 obtain⟨h1,h2,h3,h4,h5⟩:=h
 have h2:=Am h2
 have h4:=Am h4
 have h1:=mc h1
 rw[bK oaa] at h1
 omega
theorem oy (x:ae) (xs:List ae):(qc x xs).length=xs.length+1:=by
 have:(xs.takeWhile (before x.cV)).length+(xs.dropWhile (before x.cV)).length=xs.length:=by rw[<-aav,acl]
 simp[qc];omega
theorem L2_i:∀v:aO,v.aC.length<=1000->v.bi.length<=24->0<=v.bB->v.bB<=2000000->kL v=match v.aC with
 |[]=>some (.done v)
 |x::xs=>if x.cV=v.bB/\v.bi.length<24 then some (.next ⟨v.bB+1,xs,v.bi++[⟨x.bg⟩]⟩) else some (.done v):=by
 rintro⟨n,p,dl⟩ h1 h2 h3 h4
 cases p with
 |nil=>simp[kL]
 |cons x xs=>
  simp only[aaj] at h1 h2
  have i0:ix (x::xs) 0=some x:=by simp[ix,leB]
  have hlt:ltB 0 (((x::xs).length:Nat):Int)=true:=ltB_t.2 (by simp only[aaj];omega)
  simp only[kL,i0,hlt,au]
  by_cases e:x.cV=n
  .by_cases e2:dl.length<24
   .rw[if_pos ⟨e,e2⟩,eqB_t.2 e,show ltB (dl.length:Int) 24=true from ltB_t.2 oaa]
    have a1:c8 24 (dl++[(⟨x.bg⟩:bM)]).length=true:=cB oaa (by simp;omega)
    have a2:eT (x::xs) 1 (((x::xs).length:Nat):Int)=true:=by simp[eT];omega
    simp only[a1,a2,bK (n:=n+1) (by simp only at h3 h4;omega),au]
    rfl
   rw[if_neg (λh=>e2 h.2),eqB_t.2 e,show ltB (dl.length:Int) 24=false from ltB_f.2 oaa];rfl
  rw[if_neg (λh=>e h.1),eqB_f.2 e];rfl
theorem L2_s:∀v:aO,v.aC.length<=1000->v.bi.length<=24->0<=v.bB->v.bB<=2000000->t0 v=match v.aC with
 |[]=>some (.done v)
 |x::xs=>if x.cV=v.bB/\v.bi.length<24 then some (.next ⟨v.bB+1,xs,v.bi++[⟨x.bg⟩]⟩) else some (.done v):=L2_i
theorem zL (b:Bool) (x y:α):(bif b then some x else some y)=some (bif b then x else y):=by cases b<;>rfl
theorem P9 (a b c d e:Bool):(bif !a then some true else bif b then some true else bif !c then some true else bif d then some true else some e)=some (!a||(b||(!c||(d||e)))):=by cases a<;>cases b<;>cases c<;>cases d<;>rfl
theorem ZY (h:eM r) :oT r x=some (nJ r x):=by
 obtain⟨q,hq,hq2⟩:=T0 h.1.1 x.cV
 have hw:pa r=true->inR x.cV r.bB (WR (WR (r.bB+8)-1))=inR x.cV r.bB (r.bB+7):=λhv=>by
  have:=rY hv
  rw[bK (n:=r.bB+8) oaa,bK oaa,show r.bB+8-1=r.bB+7 by omega]
 have hl:(bif !pa r then some true else(bif ltB 60 (x.bg.length:Int) then some true else(bif !(inR x.cV r.bB (WR (WR (r.bB+8)-1))) then some true else(bif leB 0 q then some true else some (leB 24 (r.bi.length:Int))))))=some (yJ r x):=by
  rw[hq2,P9]
  cases hv:pa r
  .simp[yJ,hv]
  rw[hw hv];simp[yJ,hv]
 simp only[oT,Vh h,Vj h.2.1 h.1.1,fS,hq,abX,hl]
 rw[nJ]
 cases hlt:yJ r x
 .simp only[yJ,aao,ab7] at hlt
  obtain⟨l1,l2,l3,l4,l5⟩:=hlt
  have hv:=rY l1
  have l2:=px l2
  have l5:=yK l5
  have hw2:=HT (before x.cV) r.aC
  have hrun:=xl (L:=kV x r) r.aC (before x.cV) oaa (λk y hy=>by
   have hk:=(aab.1 hy).1
   simp[kV,cy hk,hy,before]) (by simp[kV])
  have hxs:([]:List ae)++r.aC.take ((((r.aC.takeWhile (before x.cV)).length:Nat):Int)).toNat++[(⟨x.cV,[]++x.bg⟩:ae)]++r.aC.drop ((((r.aC.takeWhile (before x.cV)).length:Nat):Int)).toNat=qc x r.aC:=by
   simp[HU,HS,qc]
  have a1:eT r.aC 0 (((r.aC.takeWhile (before x.cV)).length:Nat):Int)=true:=by simp[eT];omega
  have a2:eT r.aC (((r.aC.takeWhile (before x.cV)).length:Nat):Int) (r.aC.length:Int)=true:=by simp[eT];omega
  have a3:c8 1 (([]:List Int)++x.bg).length=true:=cB oaa (by simp;omega)
  have a4:c8 32 (([]:List ae)++r.aC.take ((((r.aC.takeWhile (before x.cV)).length:Nat):Int)).toNat).length=true:=cB oaa (by simp;omega)
  have a5:c8 32 (([]:List ae)++r.aC.take ((((r.aC.takeWhile (before x.cV)).length:Nat):Int)).toNat++[(⟨x.cV,[]++x.bg⟩:ae)]).length=true:=cB oaa (by simp;omega)
  simp only[hrun,a1,a2,a3,a4,a5,au]
  rw[hxs,cB oaa (show(qc x r.aC).length<=1048577 by rw[oy];omega),Df L2_s (qc x r.aC) r.bB r.bi FU (by rw[oy];omega) oaa oaa (by rw[oy];omega) (by have:=gW;rw[oy];omega)]
  have hd:=IT (qc x r.aC) r.bB r.bi oaa
  simp only[zL,au]
  rw[show eqB (((sv (qc x r.aC) r.bB r.bi).bi.length:Nat):Int) 24=leB 24 (((sv (qc x r.aC) r.bB r.bi).bi.length:Nat):Int) from by rw[abZ];simp[eqB,leB];omega]
  cases leB 24 (((sv (qc x r.aC) r.bB r.bi).bi.length:Nat):Int)<;>rfl
 rfl
theorem P3 (xs ys:List α) (z x:α):((cpD ((xs++ys)++[z]) (xs.length+1) (((xs++ys)++[z]).drop xs.length)).set xs.length x)=xs++[x]++ys:=by
 have e1:((xs++ys)++[z]).drop xs.length=ys++[z]:=by rw[aaT,acn]
 have e2:((xs++ys)++[z]).drop (xs.length+1)=(ys++[z]).drop 1:=by rw[<-abd,e1]
 have e3:((xs++ys)++[z]).take (xs.length+1)=xs++(ys++[z]).take 1:=by rw[aaT,List.take_append,acj oaa];simp
 rw[cpD,e1,e2,e3,cpL]
 cases ys with
 |nil=>simp
 |cons y ys=>simp[List.set_append]
theorem ZX (h:eM r) :og r x=some (nJ r x):=by
 have hw:pa r=true->inR x.cV r.bB (WR (WR (r.bB+8)-1))=inR x.cV r.bB (r.bB+7):=λhv=>by
  have:=rY hv
  rw[bK (n:=r.bB+8) oaa,bK oaa,show r.bB+8-1=r.bB+7 by omega]
 have hl:(bif !pa r then some true else(bif ltB 60 (x.bg.length:Int) then some true else(bif !(inR x.cV r.bB (WR (WR (r.bB+8)-1))) then some true else(bif r.aC.any (λy=>eqB y.cV x.cV) then some true else some (leB 24 (r.bi.length:Int))))))=some (yJ r x):=by
  rw[P9]
  cases hv:pa r
  .simp[yJ,hv]
  rw[hw hv];simp[yJ,hv]
 simp only[og,QJ h,Vi h.2.1 h.1.1,gv,U6 h.1.1,abX,hl]
 rw[nJ]
 cases hlt:yJ r x
 .simp only[yJ,aao,ab7] at hlt
  obtain⟨l1,l2,l3,l4,l5⟩:=hlt
  have hv:=rY l1
  have l2:=px l2
  have l5:=yK l5
  have hw2:=HT (before x.cV) r.aC
  have hrun:=xl (L:=kK x r) r.aC (before x.cV) oaa (λk y hy=>by
   have hk:=(aab.1 hy).1
   simp[kK,cy hk,hy,before]) (by simp[kK])
  generalize hm:(r.aC.takeWhile (before x.cV)).length=m at*
  have hxs:(cpD (r.aC++[bP]) (m+1) ((r.aC++[bP]).drop m)).set m (⟨x.cV,x.bg⟩:ae)=qc x r.aC:=by
   have:=P3 (r.aC.takeWhile (before x.cV)) (r.aC.dropWhile (before x.cV)) bP x
   rw[acl,hm] at this
   exact this
  have w1:WR ((m:Int)+1)=((m+1:Nat):Int):=nN oaa
  have a1:eT (r.aC++[bP]) ((m+1:Nat):Int) (((r.aC++[bP]).length:Nat):Int)=true:=by simp[eT];omega
  have a2:eT (r.aC++[bP]) (m:Int) (((r.aC++[bP]).length:Nat):Int)=true:=by simp[eT];omega
  have a3:c8 32 (r.aC++[bP]).length=true:=cB oaa (by simp;omega)
  obtain⟨y,_,hy⟩:=Uq (xs:=cpD (r.aC++[bP]) (m+1) ((r.aC++[bP]).drop m)) (i:=(m:Int)) oaa (by simp;omega)
  simp only[hrun,w1,abY,a1,a2,a3,wa (show x.bg.length<=1048576 by omega),hy,au]
  rw[hxs,Df L2_i (qc x r.aC) r.bB r.bi FU (by rw[oy];omega) oaa oaa (by rw[oy];omega) (by have:=gW;rw[oy];omega)]
  simp only[abX,zL]
 rfl
def xt (d:aJ):aD:=sZ d.aV ⟨5,d.be,d.ag,d.aT,0,cg,0⟩
def zN (d:aJ):aD:={dQ with a8:=1,be:=d.be}
def qW (d:aJ):a9:=
 bif ltB 0 d.eU then⟨{d with eU:=d.eU-1},[]⟩ else bif eqB d.bj 1 then⟨{d with eU:=3},[zN d]⟩ else bif eqB d.bj 2&&!d.cj then⟨{d with eU:=3},[xt d]⟩ else⟨d,[]⟩
def dOn (d:aJ):a9:=bif eqB d.bj 0 then⟨{d with bj:=1,eU:=3},[zN d]⟩ else⟨d,[]⟩
def va (d:aJ):a9:=⟨{d with cj:=false,eU:=3},[xt d]⟩
def sr (d:aJ) (c:Int):a9:=
 bif eqB c d.be||!inR c 0 5 then⟨d,[]⟩ else bif eqB d.bj 2&&ltB d.aT 999999 then va {d with be:=c,aT:=d.aT+1} else⟨{d with be:=c},[]⟩
def F6 (d:aJ) (m:aD):a9:=
 bif eqB (jj d.df.eP d.df.dm m.bW) 0 then
  ⟨{d with df:={d.df with dm:=unm d.df.eP m.bW.er m.bW.fY},ag:=m.ag,aV:=(vec d.df.eP m.bW.er (unm d.df.eP m.bW.er m.bW.fY)).eP},
   [⟨3,d.be,m.ag,0,ed d.df.eP [3,m.bW.er],cg,0⟩]⟩
 else⟨d,[]⟩
def wg (d:aJ) (m:aD):a9:=
 bif !ki m||(!eqB m.be d.be||eqB d.bj 0) then⟨d,[]⟩ else
 bif eqB m.a8 2&&eqB d.bj 1 then F6 d m else
 bif eqB m.a8 4&&(eqB d.bj 1&&(mI d.aV&&(eqB m.ag d.ag&&qT d.aV m))) then⟨{d with bj:=2,aT:=m.aT,cj:=true},[]⟩ else
 bif eqB m.a8 6&&(eqB d.bj 2&&(eqB m.ag d.ag&&(eqB m.aT d.aT&&qT d.aV m))) then⟨{d with cj:=true},[]⟩ else
 bif eqB m.a8 7&&(eqB d.bj 3&&ltB d.aT 999999) then va {d with bj:=2,aT:=d.aT+1} else
 bif eqB m.a8 7&&eqB d.bj 2 then va d else⟨d,[]⟩
def YK (d:aJ) (r:aO):aD:=sZ d.aV ⟨8,d.be,d.ag,d.aT,r.bB,cg,0⟩
def we (d:aJ) (x:aA):a9:=
 let o:=qm d.aV d.ag d.aT x
 bif eqB d.bj 2&&o.2 then⟨{d with bV:=nJ d.bV o.1},[YK d (nJ d.bV o.1)]⟩ else⟨d,[]⟩
def vb (d:aJ):aJ:=bif eqB d.bj 2 then {d with bj:=3} else d
theorem KO {d:aJ} (h:eb d):s5 d=some ⟨d,[]⟩:=by simp[s5,BL h]
theorem OC (d:aJ):vN d=some (xt d):=by simp[vN,D2,xt]
theorem U5 (d:aJ):qd d=some (xt d):=by simp[qd,Lc,xt]
theorem Ym {d:aJ} (h:eb d) {l:List aD} (hl:l.length<=1048576):cO d l=some ⟨d,l⟩:=by simp[cO,N5 h,VF hl]
theorem qP {d:aJ} (h:eb d):cO d []=some ⟨d,[]⟩:=Ym h (by simp)
theorem G6 {d:aJ} (h:eb d) (m:aD):cO d [m]=some ⟨d,[m]⟩:=Ym h (by simp)
theorem Z1 {d:aJ} (h:eb d) (hw:d.eU<=3):uc d=some (qW d):=by
 simp only[uc,BL h,abX,s4,mH,OC,qW]
 cases hb:ltB 0 d.eU
 .cases eqB d.bj 1<;>cases eqB d.bj 2<;>cases hp:d.cj<;>rfl
 have:=lP hb
 rw[bK oaa];rfl
theorem Z0 {d:aJ} (h:eb d) (hw:d.eU<=3):yr d=some (qW d):=by
 have h2:∀w,eb {d with eU:=w}:=λ_=>h
 simp only[yr,qP h,qP (h2 _),G6 (h2 _),pR,U5,abX,qW]
 cases hb:ltB 0 d.eU
 .cases eqB d.bj 1<;>cases eqB d.bj 2<;>cases hp:d.cj<;>rfl
 have:=lP hb
 rw[bK oaa];rfl
theorem on_s {d:aJ} (h:eb d):y7 d=some (dOn d):=by
 simp only[y7,KO h,BL h,abX,s4,mH,dOn]
 cases eqB d.bj 0<;>rfl
theorem on_i {d:aJ} (h:eb d):Gv d=some (dOn d):=by
 simp only[Gv,qP h,G6 (d:={d with bj:=1,eU:=3}) h,abX,pR,dOn]
 cases eqB d.bj 0<;>rfl
theorem UP {d:aJ} (he:0<=d.aT/\d.aT<=999999):zo d=some (va {d with aT:=d.aT+1}):=by
 simp only[zo,OC,abX,mH]
 rw[bK oaa];rfl
theorem Tb {d:aJ} (h:eb d):ik d=some (va d):=by
 simp only[ik,U5,abX,G6 (d:={d with cj:=false,eU:=3}) h];rfl
theorem Zk {d:aJ} (h:eb d) (he:0<=d.aT/\d.aT<=999999) (c:Int):tW d c=some (sr d c):=by
 simp only[tW,KO h,BL h,abX,fS,UP (d:={d with be:=c}) he,sr]
 cases eqB c d.be<;>cases inR c 0 5<;>cases eqB d.bj 2<;>cases ltB d.aT 999999<;>rfl
theorem Zj {d:aJ} (h:eb d) (he:0<=d.aT/\d.aT<=999999) (c:Int):yn d c=some (sr d c):=by
 simp only[yn,qP h,qP (d:={d with be:=c}) h,Tb (d:={d with be:=c,aT:=WR (d.aT+1)}) h,abX,gv,sr,sN]
 rw[bK oaa]
 cases eqB c d.be<;>cases inR c 0 5<;>cases eqB d.bj 2<;>cases leB 999999 d.aT<;>rfl
theorem tok_s (k r last:Int):∃t,rJ k r last=some t:=by
 simp only[rJ,fS,abX,eu (show [5,r,last].length<=100000 by simp),z0 _ (show(1:Int)<=1000 by omega) oaa]
 cases inR last 0 999999<;>exact⟨_,rfl⟩
theorem tok_i (k r last:Int):∃t,ro k r last=some t:=by
 simp only[ro,gv,abX,et (show [5,r,last].length<=1048576 by simp)]
 cases inR last 0 999999<;>exact⟨_,rfl⟩
theorem ask_s {d:aJ} (h:eb d) (hc:ti d.df=true) (m:aD):z7 d m=some (F6 d m):=by
 obtain⟨t,ht⟩:=tok_s d.df.eP m.bW.er d.df.dm
 simp only[z7,mg,V4,hc,Q1,Yu,Q3,eu (show [3,m.bW.er].length<=100000 by simp),ht,BL h,F6,au]
 cases h0:eqB (jj d.df.eP d.df.dm m.bW) 0
 .cases h2:eqB (jj d.df.eP d.df.dm m.bW) 2<;>cases h3:eqB (jj d.df.eP d.df.dm m.bW) 3<;>simp[h0]
 simp[eC]
theorem ask_i {d:aJ} (h:eb d) (hc:ti d.df=true) (m:aD):lN d m=some (F6 d m):=by
 obtain⟨t,ht⟩:=tok_i d.df.eP m.bW.er d.df.dm
 have hl: -9000000000000<=d.df.dm/\d.df.dm<=9000000000000:=by
  simp only[ti,v0,bO] at hc;omega
 simp only[lN,md,V3,hc,XV hl,Yt,Yv,et (show [3,m.bW.er].length<=1048576 by simp),ht,F6,au]
 cases h0:eqB (jj d.df.eP d.df.dm m.bW) 0
 .cases h2:eqB (jj d.df.eP d.df.dm m.bW) 2<;>cases h3:eqB (jj d.df.eP d.df.dm m.bW) 3<;>simp[h0,qP h]
 simp only[h0,au]
 rw[G6 (d:={d with df:={d.df with dm:=unm d.df.eP m.bW.er m.bW.fY},ag:=m.ag,aV:=(vec d.df.eP m.bW.er (unm d.df.eP m.bW.er m.bW.fY)).eP}) h]
 rfl
theorem sig_s {d:aJ} (h:eb d) (hc:ti d.df=true) (he:0<=d.aT/\d.aT<=999999) (m:aD):oU d m=some (wg d m):=by
 simp only[oU,Qv,KO h,BL h,ask_s h hc,Ms,Lr,UP (d:={d with bj:=2}) he,OC,mH,abX,wg]
 cases ki m<;>cases eqB m.be d.be<;>cases eqB d.bj 0<;>try rfl
 simp only[ace,au]
 cases eqB m.a8 2<;>cases eqB d.bj 1<;>try rfl
 all_goals cases eqB m.a8 4<;>cases mI d.aV<;>cases eqB m.ag d.ag<;>cases qT d.aV m<;>cases eqB m.a8 6<;>cases eqB d.bj 2<;>cases eqB m.aT d.aT<;>cases eqB m.a8 7<;>cases eqB d.bj 3<;>cases ltB d.aT 999999<;>rfl
theorem Dg {a c:Int} (h:eqB a b=true) (hn:b≠c):eqB a c=false:=by rw[eqB_t] at h;rw[eqB_f];omega
theorem sig_i {d:aJ} (h:eb d) (hc:ti d.df=true) (he:0<=d.aT/\d.aT<=999999) (m:aD):oh d m=some (wg d m):=by
 have a1:ik d=some (va d):=Tb h
 have a2:ik {d with bj:=2,aT:=WR (d.aT+1)}=some (va {d with bj:=2,aT:=d.aT+1}):=by rw[bK oaa];exact Tb (d:={d with bj:=2,aT:=d.aT+1}) h
 have a3:cO {d with bj:=2,aT:=m.aT,cj:=true} []=some ⟨{d with bj:=2,aT:=m.aT,cj:=true},[]⟩:=qP (d:={d with bj:=2,aT:=m.aT,cj:=true}) h
 have a4:∀b,cO {d with cj:=b} []=some ⟨{d with cj:=b},[]⟩:=λb=>qP (d:={d with cj:=b}) h
 simp only[oh,Qu,ask_i h hc,Mr,Pf,a1,a2,a4,qP h,abX,wg]
 cases ki m<;>cases eqB m.be d.be<;>cases eqB d.bj 0<;>try rfl
 simp only[ace,au]
 cases h2:eqB m.a8 2
 .cases h4:eqB m.a8 4
  .cases h6:eqB m.a8 6
   .cases h7:eqB m.a8 7
    .rfl
    cases eqB d.bj 3<;>cases ltB d.aT 999999<;>cases eqB d.bj 2<;>rfl
   rw[Dg h6 (show(6:Int)≠7 by omega)]
   cases eqB d.bj 2<;>cases eqB m.ag d.ag<;>cases eqB m.aT d.aT<;>cases qT d.aV m<;>rfl
  rw[Dg h4 (show(4:Int)≠6 by omega),Dg h4 (show(4:Int)≠7 by omega)]
  cases eqB d.bj 1<;>cases mI d.aV<;>cases eqB m.ag d.ag<;>cases qT d.aV m<;>first|(simp only[a3,qP h,ab5,ab6,acJ,acK,au];done)|(simp[a3,qP h];done)
 rw[Dg h2 (show(2:Int)≠4 by omega),Dg h2 (show(2:Int)≠6 by omega),Dg h2 (show(2:Int)≠7 by omega)]
 cases eqB d.bj 1<;>rfl
def Qt (x:aA):Prop:=okB x.bz.bg
theorem rad_s {d:aJ} (h:eb d) {x:aA} (hx:Qt x):pW d x=some (we d x):=by
 simp only[pW,(Jj hx _ _ _).2,KO h,BL h,ZY h,D2,abX,we]
 cases eqB d.bj 2<;>cases(qm d.aV d.ag d.aT x).2<;>rfl
theorem Nv (h:eM r) (x:ae):eM (nJ r x):=by
 rw[nJ]
 cases hlt:yJ r x
 .simp only[yJ,aao,ab7] at hlt
  obtain⟨l1,l2,l3,l4,l5⟩:=hlt
  have hv:=rY l1
  have l2:=px l2
  have hi:okL fC (qc x r.aC):=by
   refine⟨by rw[oy];omega,λy hy=>?_⟩
   simp only[qc,aad,ab4] at hy
   rcases hy with(hy|hy)|hy
   .exact h.1.2 y (acE _ hy)
   .subst hy;exact⟨by omega,λ_ _=>trivial⟩
   exact h.1.2 y (acp _ hy)
  have hd:∀(xs:List ae) (n:Int) (dl:List bM),okL fC xs->(∀p∈dl,pA p)->dl.length<=24->eM (sv xs n dl):=by
   intro xs
   induction xs with
   |nil=>exact λn dl h1 h2 h3=>⟨h1,by show dl.length<=1048576;omega,h2⟩
   |cons y ys ih=>
    intro n dl h1 h2 h3
    rw[sv];split
    .exact ih _ _ ⟨by have:=h1.1;simp at this;omega,λz hz=>h1.2 z (by simp[hz])⟩ (λp hp=>by
      rcases aad.1 hp with hp|hp
      .exact h2 p hp
      simp at hp;subst hp;exact h1.2 y (by simp)) (by simp;omega)
    exact⟨h1,by show dl.length<=1048576;omega,h2⟩
  have:=hd _ r.bB r.bi hi h.2.2 oaa
  simp only[cond_false]
  cases leB 24 (((sv (qc x r.aC) r.bB r.bi).bi.length:Nat):Int)
  .exact this
  exact⟨⟨by simp,by simp⟩,this.2⟩
 exact h
theorem rad_i {d:aJ} (h:eb d) {x:aA} (hx:Qt x):pO d x=some (we d x):=by
 simp only[pO,(Jj hx _ _ _).1,qP h,ZX h,Lc,abX,we]
 cases eqB d.bj 2
 .rfl
 cases(qm d.aV d.ag d.aT x).2
 .rfl
 simp only[ab5,au]
 rw[G6 (d:={d with bV:=nJ d.bV (qm d.aV d.ag d.aT x).1}) (Nv h _)]
 rfl
theorem Y1 {d:aJ} (h:eb d):wT d=some (vb d):=by
 simp only[wT,BL h,abX,vb];cases eqB d.bj 2<;>rfl
theorem Y0 {d:aJ} (h:eb d):A1 d=some (vb d):=by
 have a:∀v,lk {d with bj:=v}=some {d with bj:=v}:=λv=>N5 (d:={d with bj:=v}) h
 simp only[A1,a,abX,vb];cases eqB d.bj 2<;>rfl
theorem PX {α:Type} (p:α->Bool) (x:α) (d:List α) (hx:p x=true):∀(t:List α) (i:Nat),(∀y∈t,p y=false)->nK p (i:Int) (t++x::d)=((i+t.length:Nat):Int)
 |[],i,_=>by simp[nK,hx]
 |y::t,i,h=>by
  rw[aaF,nK,h y (by simp),cond_false]
  have:=PX p x d hx t (i+1) (λz hz=>h z (by simp[hz]))
  rw[show((i+1:Nat):Int)=(i:Int)+1 by omega] at this
  rw[this];simp;omega
theorem PY {α:Type} (p:α->Bool):∀(t:List α) (i:Int),(∀y∈t,p y=false)->nK p i t= -1
 |[],i,_=>rfl
 |y::t,i,h=>by rw[nK,h y (by simp),cond_false];exact PY p t _ λz hz=>h z (by simp[hz])
def JX:List aH->Int->Int->List aH
 |[],i,n=>[⟨i,n⟩]
 |x::xs,i,n=>if x.aG<i then x::JX xs i n else if x.aG=i then⟨i,x.d8+n⟩::xs else⟨i,n⟩::x::xs
def Ri:List aH->Int->Int->List aH
 |[],i,n=>[]
 |x::xs,i,n=>if x.aG=i then(if n<x.d8 then⟨i,x.d8-n⟩::xs else xs) else x::Ri xs i n
def xi (h:List aH):Int:=(h.map aH.d8).sum
structure p4 (a:am):Prop where
 t:0<=a.fw/\a.fw<=100000
 v:0<=a.bJ/\a.bJ<=a.fw
 s:0<=a.eD/\a.eD<=a.fw
 l:a.aj.length<=8
 r:∀x∈a.aj,0<=x.aG/\1<=x.d8/\x.d8<=100000
 o:a.aj.Pairwise λx y=>x.aG<y.aG
 e:a.bJ+a.eD+xi a.aj=a.fw
theorem Jm {α:Type} {key:α->Int}:∀{xs:List α},(∀(k:Nat) (x y:α),xs[k]?=some x->xs[k+1]?=some y->key x<key y)->xs.Pairwise λx y=>key x<key y
 |[],_=>.nil
 |[x],_=>by simp
 |x::y::xs,h=>by
  have ih:=Jm (xs:=y::xs) (key:=key) λk a b h1 h2=>h (k+1) a b (by simpa using h1) (by simpa using h2)
  have hxy:=h 0 x y rfl rfl
  refine List.Pairwise.cons (λz hz=>?_) ih
  rcases aaf.1 hz with e|hz
  .subst e;exact hxy
  exact Int.lt_trans hxy (acD ih hz)
theorem IL {key:α->Int} {xs:List α} (h:∀(k:Nat) (x:α),xs[k]?=some x->jE key xs k x=true):xs.Pairwise λx y=>key x<key y:=by
 refine Jm λk x y h1 h2=>?_
 have:=h (k+1) y h2
 simp only[jE,h1,aay] at this
 exact leB_f.1 this
theorem Fp {key:α->Int} {xs:List α} (h:xs.Pairwise λx y=>key x<key y) {x:α} (hx:xs[k]?=some x):jE key xs k x=true:=by
 cases k with
 |zero=>rfl
 |succ k=>
  have hl:=(aab.1 hx).1
  simp only[jE,aaa (show k<xs.length by omega),aay]
  rw[leB_f]
  have:=List.pairwise_iff_getElem.1 h k (k+1) oaa hl oaa
  rwa [(aab.1 hx).2] at this
theorem Yb:∀(h:List aH) (s:Int),(∀x∈h,0<=x.d8/\x.d8<=100000)->0<=s->s+100000*h.length<=9000000000000->h.foldl (λs x=>WR (s+x.d8)) s=s+xi h
 |[],s,_,_,_=>by simp[xi]
 |x::h,s,hx,h0,h1=>by
  have hh:=hx x (by simp)
  simp only[aaj] at h1
  rw[ack,bK oaa,Yb h _ (λy hy=>hx y (by simp[hy])) oaa oaa]
  simp[xi];omega
theorem QX (l:a.aj.length<=8) (r:∀x∈a.aj,0<=x.aG/\1<=x.d8/\x.d8<=100000):SC a=xi a.aj:=by
 rw[SC,Yb _ _ (λx hx=>by have:=r x hx;omega) oaa oaa];omega
theorem uy:∀{h:List aH},(∀x∈h,0<=x.aG/\1<=x.d8/\x.d8<=100000)->0<=xi h/\xi h<=100000*h.length/\∀x∈h,x.d8<=xi h
 |[],_=>by simp[xi]
 |x::h,r=>by
  have ih:=uy (h:=h) λy hy=>r y (by simp[hy])
  have hx:=r x (by simp)
  have e:xi (x::h)=x.d8+xi h:=by simp[xi]
  rw[e]
  refine⟨by omega,by simp only[aaj];omega,λy hy=>?_⟩
  rcases aaf.1 hy with e|hy
  .subst e;omega
  have:=ih.2.2 y hy;omega
theorem zG:iL a=true↔p4 a:=by
 constructor
 .intro h
  simp only[iL,v0,bO,eJ] at h
  obtain⟨h1,h2,h3,h4,h5,h6⟩:=h
  have h4:=Am h4
  have r:∀x∈a.aj,0<=x.aG/\1<=x.d8/\x.d8<=100000:=λx hx=>by
   obtain⟨k,hk⟩:=aar hx
   have:=h5 k x hk
   simp only[EX,v0,aay,bO] at this
   have h0:=px this.1
   omega
  have hs:=uy r
  refine⟨h1,h2,h3,by omega,r,IL λk x hk=>?_,?_⟩
  .have:=h5 k x hk
   simp only[EX,v0] at this
   exact this.2.2
  have h6:=mc h6
  rw[QX oaa r,bK (n:=a.bJ+a.eD) oaa,bK oaa] at h6
  exact h6
 rintro⟨h1,h2,h3,h4,r,h5,h6⟩
 have hs:=uy r
 simp only[iL,v0,bO,eJ]
 refine⟨h1,h2,h3,leB_t.2 oaa,λk x hk=>?_,eqB_t.2 ?_⟩
 .have hx:=r x (aac hk)
  simp only[EX,v0,aay,bO]
  exact⟨ltB_f.2 oaa,by omega,Fp h5 hk⟩
 rw[QX oaa r,bK (n:=a.bJ+a.eD) oaa,bK oaa]
 exact h6
theorem p4.ok (h:p4 a):gq a:=⟨by have:=h.l;omega,λ_ _=>trivial⟩
theorem L0 {h:List aH} (o:h.Pairwise λx y=>x.aG<y.aG) (i:Int):
 (∃t m d,h=t++⟨i,m⟩::d/\(∀x∈t,x.aG<i)/\∀x∈d,i<x.aG)\/(∃t d,h=t++d/\(∀x∈t,x.aG<i)/\∀x∈d,i<x.aG):=by
 induction h with
 |nil=>exact .inr ⟨[],[],rfl,by simp,by simp⟩
 |cons x h ih=>
  have hx:=λy hy=>acD o (a':=y) hy
  by_cases h1:x.aG<i
  .rcases ih (ab2.1 o).2 with⟨t,m,d,e,h2,h3⟩|⟨t,d,e,h2,h3⟩
   .exact .inl ⟨x::t,m,d,by rw[e];rfl,λy hy=>by rcases aaf.1 hy with e|hy;(subst e;exact h1);exact h2 y hy,h3⟩
   exact .inr ⟨x::t,d,by rw[e];rfl,λy hy=>by rcases aaf.1 hy with e|hy;(subst e;exact h1);exact h2 y hy,h3⟩
  by_cases h2:x.aG=i
  .exact .inl ⟨[],x.d8,h,by rw[<-h2];rfl,by simp,λy hy=>by have:=hx y hy;omega⟩
  refine .inr ⟨[],x::h,rfl,by simp,λy hy=>?_⟩
  rcases aaf.1 hy with e|hy
  .subst e;omega
  have:=hx y hy;omega
theorem JY {d:List aH} {m n:Int} (h:∀x∈t,x.aG<i):JX (t++⟨i,m⟩::d) i n=t++⟨i,m+n⟩::d:=by
 induction t with
 |nil=>simp[JX]
 |cons x t ih=>rw[aaF,JX,if_pos (h x (by simp)),ih λy hy=>h y (by simp[hy])];rfl
theorem JZ {d:List aH} {n:Int} (h:∀x∈t,x.aG<i) (h2:∀x∈d,i<x.aG):JX (t++d) i n=t++⟨i,n⟩::d:=by
 induction t with
 |nil=>cases d with
  |nil=>rfl
  |cons y d=>have:=h2 y (by simp);rw[aa9,JX,if_neg oaa,if_neg oaa];rfl
 |cons x t ih=>rw[aaF,JX,if_pos (h x (by simp)),ih λy hy=>h y (by simp[hy])];rfl
theorem J8 {d:List aH} {m n:Int} (h:∀x∈t,x.aG<i):Ri (t++⟨i,m⟩::d) i n=t++(if n<m then⟨i,m-n⟩::d else d):=by
 induction t with
 |nil=>simp[Ri]
 |cons x t ih=>rw[aaF,Ri,if_neg (by have:=h x (by simp);omega),ih λy hy=>h y (by simp[hy])];rfl
theorem nC {d:List aH} {m:Int} (e:a.aj=t++⟨i,m⟩::d) (h:∀x∈t,x.aG<i):iO a i=m:=by
 rw[iO,e,List.find?_append,show t.find? (λx=>eqB x.aG i)=none from by rw[acu];intro x hx;have:=h x hx;simp[eqB];omega]
 simp[eqB]
theorem rW (h:∀x∈a.aj,x.aG≠i):iO a i=0:=by
 rw[iO,show a.aj.find? (λx=>eqB x.aG i)=none from by rw[acu];intro x hx;have:=h x hx;simp[eqB];omega]
theorem VZ {d:List aH} (h:∀x∈t,x.aG<i) (h2:∀x∈d,i<=x.aG):((t++d).takeWhile λx=>ltB x.aG i)=t:=by
 rw[List.takeWhile_append_of_pos (λx hx=>ltB_t.2 (h x hx))]
 cases d with
 |nil=>simp
 |cons y d=>rw[acg,show ltB y.aG i=false from ltB_f.2 (h2 y (by simp))];simp
theorem Fl {L:Int->Option (cq Int Int)} (ok:p4 a) (hL:∀v1,L v1=bif ltB v1 (a.aj.length:Int) then(abU (ix a.aj v1) λx2=>bif eqB x2.aG i then(dn (some v1)) else(some (.next (WR (v1+1))))) else(dn (some (-1)))):
 iter L FU 0=some (nK (λx=>eqB x.aG i) 0 a.aj):=by
 have:=ok.l
 exact ve (L:=L) a.aj (λx=>eqB x.aG i) oaa (λk x hx hk=>by
  simp only[hL,cy hk,bu,hx,WRs (k:=k),au]
  cases eqB x.aG i<;>rfl) (by simp[hL,dn])
theorem OZ (ok:p4 a) {n:Int} (h0:0<=n/\n<=100000):Fu a.aj i n=some (JX a.aj i n):=by
 have hl:=ok.l
 have hrun:=xl (L:=w7 a.aj i) a.aj (λx=>ltB x.aG i) oaa (λk x hx=>by
  have hk:=(aab.1 hx).1
  simp[w7,cy hk,hx]) (by simp[w7])
 rw[Fu,hrun]
 rcases L0 ok.o i with⟨t,m,d,e,h1,h2⟩|⟨t,d,e,h1,h2⟩
 .have hm:m<=100000/\1<=m:=by have:=ok.r ⟨i,m⟩ (by rw[e];simp);simp only at this;omega
  have htl:t.length+1<=8:=by have:=congrArg aci e;simp at this;omega
  rw[e,VZ h1 (λx hx=>by rcases aaf.1 hx with e|hx;(subst e;simp);have:=h2 x hx;omega),JY h1]
  have hx:(t++(⟨i,m⟩:aH)::d)[t.length]?=some ⟨i,m⟩:=by simp
  have a1:c8 16 (t++(⟨i,m⟩:aH)::d).length=true:=cB oaa (by rw[<-e];omega)
  simp only[cy (show t.length<(t++(⟨i,m⟩:aH)::d).length by simp),bu,hx,aa9,a1,bw,abY,bK (n:=m+n) oaa,au]
  simp
 have htl:t.length<=8/\d.length<=8:=by have:=congrArg aci e;simp at this;omega
 rw[e,VZ h1 (λx hx=>by have:=h2 x hx;omega),JZ h1 h2]
 have hc:(bif ltB (t.length:Int) (((t++d).length:Nat):Int) then(abU (ix (t++d) (t.length:Int)) λx8=>some (eqB x8.aG i)) else some false)=some false:=by
  cases d with
  |nil=>simp
  |cons y d=>
   have:=h2 y (by simp)
   rw[cy (show t.length<(t++y::d).length by simp),bu,show(t++y::d)[t.length]?=some y by simp,abX,eqB_f.2 (show y.aG≠i by omega)];rfl
 have a1:eT (t++d) 0 (t.length:Int)=true:=by simp[eT];omega
 have a2:eT (t++d) (t.length:Int) (((t++d).length:Nat):Int)=true:=by simp[eT];omega
 have a3:c8 16 t.length=true:=cB oaa oaa
 have a4:c8 16 (t++[(⟨i,n⟩:aH)]).length=true:=cB oaa (by simp;omega)
 have a5:c8 16 (t++[(⟨i,n⟩:aH)]++d).length=true:=cB oaa (by simp;omega)
 simp only[hc,a1,a2,aa9,abY,aco,acn,a3,a4,a5,au]
 simp
theorem Km {d:List aH} {m:Int} (h1:∀x∈t,x.aG<i):nK (λx=>eqB x.aG i) 0 (t++(⟨i,m⟩:aH)::d)=(t.length:Int):=by
 have:=PX (λx:aH=>eqB x.aG i) ⟨i,m⟩ d (by simp) t 0 (λy hy=>eqB_f.2 (by have:=h1 y hy;omega))
 simpa using this
theorem Ol {d:List aH} (h1:∀x∈t,x.aG<i) (h2:∀x∈d,i<x.aG):nK (λx=>eqB x.aG i) 0 (t++d)= -1:=
 PY _ _ _ λy hy=>eqB_f.2 (by rcases aad.1 hy with hy|hy;(have:=h1 y hy;omega);have:=h2 y hy;omega)
theorem O0 (ok:p4 a) {d:List aH} {m n:Int} (e:a.aj=t++⟨i,m⟩::d) (h1:∀x∈t,x.aG<i) (hn:0<=n/\n<=m):Fv a.aj (t.length:Int) n=some (Ri a.aj i n):=by
 have hl:=ok.l
 have hm:m<=100000/\1<=m:=by have:=ok.r ⟨i,m⟩ (by rw[e];simp);simp only at this;omega
 have htl:t.length+1+d.length<=8:=by have:=congrArg aci e;simp at this;omega
 rw[e,J8 h1]
 have hx:(t++(⟨i,m⟩:aH)::d)[t.length]?=some ⟨i,m⟩:=by simp
 have a1:c8 16 (t++(⟨i,m⟩:aH)::d).length=true:=cB oaa (by rw[<-e];omega)
 simp only[Fv,aa9,a1,bu,hx,abY,au]
 by_cases hb:n<m
 .rw[ltB_t.2 hb,if_pos hb]
  simp only[cond_true,bK (n:=m-n) oaa]
  simp
 rw[ltB_f.2 oaa,if_neg hb]
 have a2:eT (t++(⟨i,m⟩:aH)::d) 0 (t.length:Int)=true:=by simp[eT];omega
 have a3:eT (t++(⟨i,m⟩:aH)::d) ((t.length+1:Nat):Int) (((t++(⟨i,m⟩:aH)::d).length:Nat):Int)=true:=by simp[eT];omega
 have e2:(t++(⟨i,m⟩:aH)::d).drop (t.length+1)=d:=by rw[<-abd,acn];rfl
 have a4:c8 16 (t++d).length=true:=cB oaa (by simp;omega)
 simp only[a2,WRs (k:=t.length),a3,abY,e2,aco,a4,au]
theorem Ug {d:List aH} {x:aH} (e:a.aj=t++x::d) (hl:t.length+1+d.length<=8):pp a (t.length:Int)=some {a with aj:=t++d}:=by
 have a2:eT (t++x::d) 0 (t.length:Int)=true:=by simp[eT];omega
 have a3:eT (t++x::d) ((t.length+1:Nat):Int) (((t++x::d).length:Nat):Int)=true:=by simp[eT];omega
 have e2:(t++x::d).drop (t.length+1)=d:=by rw[<-abd,acn];rfl
 have a4:c8 16 (t++d).length=true:=cB oaa (by simp;omega)
 have a5:c8 16 t.length=true:=cB oaa oaa
 simp only[pp,e,a2,WRs (k:=t.length),a3,cond_true,abY,e2,aco,aa9,a4,a5]
def full (a:am) (i:Int):Bool:=leB 8 (a.aj.length:Int)&&!a.aj.any λx=>eqB x.aG i
def kY (x y:Int):Int:=if y<x then y else x
def i6 (a:am) (i n:Int):am×Int:=
 bif ltB i 0||(!inR n 1 100000||(eqB a.bJ 0||full a i)) then(a,0) else({a with bJ:=a.bJ-kY n a.bJ,aj:=JX a.aj i (kY n a.bJ)},kY n a.bJ)
def yc (a:am) (i n:Int):am:=bif ltB 0 n then {a with eD:=a.eD+n,aj:=Ri a.aj i n} else a
theorem MC (x y:Int):Hk x y=some (kY x y):=by
 rw[Hk,kY];by_cases h:y<x
 .rw[ltB_t.2 h,if_pos h];rfl
 rw[ltB_f.2 oaa,if_neg h];rfl
theorem UA (x y:Int):Uf x y=some (kY x y):=MC x y
def GR (x y:Int):Int:=if x<y then y else x
theorem MB (x y:Int):Hi x y=some (GR x y):=by
 rw[Hi,GR];by_cases h:x<y
 .rw[ltB_t.2 h,if_pos h];rfl
 rw[ltB_f.2 oaa,if_neg h];rfl
theorem Yf (x y:Int):YZ x y=some (GR x y):=MB x y
theorem X6 {d:List aH} {m:Int}:((t++(⟨i,m⟩:aH)::d).any λx=>eqB x.aG i)=true:=by simp
theorem Tc {d:List aH} (h1:∀x∈t,x.aG<i) (h2:∀x∈d,i<x.aG):((t++d).any λx=>eqB x.aG i)=false:=by
 rw[abl];intro y hy
 rcases aad.1 hy with hy|hy
 .have:=h1 y hy;simp[eqB];omega
 have:=h2 y hy;simp[eqB];omega
theorem Sd (ok:p4 a) (i n:Int):Cw a i n=some (i6 a i n):=by
 have hv:=zG.2 ok
 have hd:=ok.v
 have ht:=ok.t
 have hfind:qv a i=some (nK (λx=>eqB x.aG i) 0 a.aj):=Fl ok λv=>rfl
 have hf:(bif leB 8 (a.aj.length:Int) then(abU (qv a i) λr5=>some (ltB r5 0)) else some false)=some (full a i):=by
  rw[hfind,full]
  cases leB 8 (a.aj.length:Int)
  .rfl
  rcases L0 ok.o i with⟨t,m,d,e,h1,h2⟩|⟨t,d,e,h1,h2⟩
  .rw[e,Km h1,X6];simp[ltB]
  rw[e,Ol h1 h2,Tc h1 h2];simp[ltB]
 simp only[Cw,FG ok.ok,zJ ok.ok,hv,hf,fS,MC,i6,au]
 cases h1:ltB i 0<;>cases h2:inR n 1 100000<;>cases h3:eqB a.bJ 0<;>cases h4:full a i<;>try rfl
 rw[bO] at h2
 have h3:=H6 h3
 have hmin:1<=kY n a.bJ/\kY n a.bJ<=100000/\kY n a.bJ<=a.bJ:=by unfold kY;split<;>omega
 simp only[OZ ok (show 0<=kY n a.bJ/\kY n a.bJ<=100000 by omega),bK (n:=a.bJ-kY n a.bJ) oaa,ace,au]
theorem Sc (ok:p4 a) (i n:Int):Gw a i n=some (i6 a i n):=by
 have hv:=zG.2 ok
 have hd:=ok.v
 have ht:=ok.t
 have hl:=ok.l
 have hfind:f6 a i=some (nK (λx=>eqB x.aG i) 0 a.aj):=Fl ok λv=>rfl
 simp only[Gw,C8 ok.ok,zH ok.ok,hv,hfind,gv,UA,i6,au]
 cases h1:ltB i 0<;>cases h2:inR n 1 100000<;>cases h3:eqB a.bJ 0<;>try rfl
 rw[bO] at h2
 have h3:=H6 h3
 have hmin:1<=kY n a.bJ/\kY n a.bJ<=100000/\kY n a.bJ<=a.bJ:=by unfold kY;split<;>omega
 simp only[bK (n:=a.bJ-kY n a.bJ) oaa,aaJ,au]
 rcases L0 ok.o i with⟨t,m,d,e,k1,k2⟩|⟨t,d,e,k1,k2⟩
 .have hm:m<=100000/\1<=m:=by have:=ok.r ⟨i,m⟩ (by rw[e];simp);simp only at this;omega
  rw[full,e,Km k1,X6,JY k1,show leB 0 (t.length:Int)=true from leB_t.2 oaa]
  have hx:(t++(⟨i,m⟩:aH)::d)[t.length]?=some ⟨i,m⟩:=by simp
  simp only[bu,hx,abY,bK (n:=m+kY n a.bJ) oaa,acJ,au]
  simp
 have htl:t.length+d.length<=8:=by have:=congrArg aci e;simp at this;omega
 rw[full,e,Ol k1 k2,Tc k1 k2,JZ k1 k2,show leB 0 (-1)=false from by simp[leB]]
 cases h4:leB 8 (((t++d).length:Nat):Int)
 .have hlt:(t++d).length<8:=by have:=yK h4;omega
  have hrun:=xl (L:=tC i a) a.aj (λx=>ltB x.aG i) oaa (λk x hx=>by
   have hk:=(aab.1 hx).1
   simp[tC,cy hk,hx]) (by simp[tC])
  rw[e,VZ k1 (λx hx=>by have:=k2 x hx;omega)] at hrun
  have hs:=P3 t d dJ (⟨i,kY n a.bJ⟩:aH)
  have b1:c8 16 (t++d++[dJ]).length=true:=cB oaa (by simp at hlt ⊢;omega)
  have b2:eT (t++d++[dJ]) ((t.length+1:Nat):Int) (((t++d++[dJ]).length:Nat):Int)=true:=by simp[eT];omega
  have b3:eT (t++d++[dJ]) (t.length:Int) (((t++d++[dJ]).length:Nat):Int)=true:=by simp[eT];omega
  obtain⟨y,_,hy⟩:=Uq (xs:=cpD (t++d++[dJ]) (t.length+1) ((t++d++[dJ]).drop t.length)) (i:=(t.length:Int)) oaa (by simp;omega)
  simp only[hrun,WRs (k:=t.length),abY,b1,b2,b3,hy,hs,acK,au]
  simp
 rfl
theorem DE (ok:p4 a) (i:Int):0<=iO a i/\iO a i<=100000:=by
 rcases L0 ok.o i with⟨t,m,d,e,h1,h2⟩|⟨t,d,e,h1,h2⟩
 .rw[nC e h1];have:=ok.r ⟨i,m⟩ (by rw[e];simp);simp only at this;omega
 rw[rW (λx hx=>by rw[e] at hx;rcases aad.1 hx with hx|hx;(have:=h1 x hx;omega);have:=h2 x hx;omega)];omega
theorem WI (ok:p4 a) {n:Int} (hn:0<=n/\n<=iO a i):K1 a i n=some (yc a i n,true):=by
 have hv:=zG.2 ok
 have ht:=ok.t
 have hs:=ok.s
 have hr:=DE ok i
 have hfind:qv a i=some (nK (λx=>eqB x.aG i) 0 a.aj):=Fl ok λv=>rfl
 have hin:inR n 0 (iO a i)=true:=bO.2 hn
 simp only[K1,FG ok.ok,zJ ok.ok,hv,hfind,M2 ok.ok,fS,hin,yc,au]
 cases h0:ltB 0 n
 .rfl
 have h0:=lP h0
 rcases L0 ok.o i with⟨t,m,d,e,h1,h2⟩|⟨t,d,e,h1,h2⟩
 .rw[nC e h1] at hn hr
  have hc:=O0 ok e h1 hn
  rw[show nK (λx=>eqB x.aG i) 0 a.aj=(t.length:Int) by rw[e];exact Km h1]
  simp only[hc,bK (n:=a.eD+n) oaa,au]
 rw[rW (λx hx=>by rw[e] at hx;rcases aad.1 hx with hx|hx;(have:=h1 x hx;omega);have:=h2 x hx;omega)] at hn
 omega
theorem WH (ok:p4 a) {n:Int} (hn:0<=n/\n<=iO a i):Oh a i n=some (yc a i n,true):=by
 have hv:=zG.2 ok
 have ht:=ok.t
 have hs:=ok.s
 have hl:=ok.l
 have hr:=DE ok i
 have hfind:f6 a i=some (nK (λx=>eqB x.aG i) 0 a.aj):=Fl ok λv=>rfl
 have hin:inR n 0 (iO a i)=true:=bO.2 hn
 simp only[Oh,C8 ok.ok,zH ok.ok,hv,hfind,MZ ok.ok,gv,hin,yc,au]
 rcases L0 ok.o i with⟨t,m,d,e,h1,h2⟩|⟨t,d,e,h1,h2⟩
 .rw[nC e h1] at hn
  have hm:m<=100000/\1<=m:=by have:=ok.r ⟨i,m⟩ (by rw[e];simp);simp only at this;omega
  have htl:t.length+1+d.length<=8:=by have:=congrArg aci e;simp at this;omega
  have hx:(t++(⟨i,m⟩:aH)::d)[t.length]?=some ⟨i,m⟩:=by simp
  have hset:∀z:aH,(t++(⟨i,m⟩:aH)::d).set t.length z=t++z::d:=λz=>by simp
  have hx2:∀z:aH,(t++z::d)[t.length]?=some z:=λz=>by simp
  rw[e,Km h1,show ltB (t.length:Int) 0=false from ltB_f.2 oaa,J8 h1]
  simp only[bu,hx,hset,hx2,abY,bK (n:=m-n) oaa,bK (n:=a.eD+n) oaa,au]
  cases h0:ltB 0 n
  .have h0:=px h0
   have hn0:n=0:=by omega
   subst hn0
   rw[show m-0=m by omega,eqB_f.2 (show m≠0 by omega),show a.eD+0=a.eD by omega]
   simp only[<-e,au]
  have h0:=lP h0
  by_cases hb:n<m
  .rw[if_pos hb,eqB_f.2 (show m-n≠0 by omega)];simp only[au]
  rw[if_neg hb,eqB_t.2 (show m-n=0 by omega)]
  simp only[Ug (a:={a with eD:=a.eD+n,aj:=t++(⟨i,m-n⟩:aH)::d}) rfl htl,au]
 have h0:n=0:=by
  rw[rW (λx hx=>by rw[e] at hx;rcases aad.1 hx with hx|hx;(have:=h1 x hx;omega);have:=h2 x hx;omega)] at hn
  omega
 subst h0
 rw[e,Ol h1 h2]
 simp[ltB]
structure WOK (w:aY):Prop where
 n:1<=w.bB/\w.bB<=100000
 l:w.aw.length<=8
 f:1<=w.bB-w.aw.length
 u:∀(k:Nat) (x:ae),w.aw[k]?=some x->x.cV=w.bB-w.aw.length+k/\x.bg.length<=60
theorem WOK.ok (h:WOK w):il w:=⟨by have:=h.l;omega,λx hx=>by
 obtain⟨k,hk⟩:=aar hx
 exact⟨by have:=(h.u k x hk).2;omega,λ_ _=>trivial⟩⟩
theorem tw {n:Nat}:vf n=true↔n<=60:=by simp[vf,ltB];omega
theorem FA:jp w=true↔WOK w:=by
 constructor
 .intro h
  simp only[jp,v0,bO,eJ,unB,tw] at h
  obtain⟨h1,h2,h3,h4⟩:=h
  have h2:=Am h2
  have h3:=Am h3
  rw[bK oaa] at h3
  refine⟨h1,by omega,h3,λk x hx=>?_⟩
  have hk:=(aab.1 hx).1
  have:=h4 k x hx
  have e:=mc this.1
  rw[bK (n:=w.bB-(w.aw.length:Int)) oaa,bK oaa] at e
  exact⟨e,this.2⟩
 rintro⟨h1,h2,h3,h4⟩
 simp only[jp,v0,bO,eJ,unB,tw]
 refine⟨h1,leB_t.2 oaa,leB_t.2 (by rw[bK oaa];omega),λk x hx=>?_⟩
 have hk:=(aab.1 hx).1
 have:=h4 k x hx
 exact⟨eqB_t.2 (by rw[bK (n:=w.bB-(w.aw.length:Int)) oaa,bK oaa];exact this.1),this.2⟩
def f9 (xs:List ae):Int:=(xs.map λx=>(x.bg.length:Int)).sum
theorem xh:∀{xs:List ae},(∀x∈xs,x.bg.length<=60)->0<=f9 xs/\f9 xs<=60*xs.length
 |[],_=>by simp[f9]
 |x::xs,h=>by
  have ih:=xh (xs:=xs) λy hy=>h y (by simp[hy])
  have:=h x (by simp)
  have e:f9 (x::xs)=x.bg.length+f9 xs:=by simp[f9]
  rw[e];simp only[aaj];omega
theorem Jh {xs:List ae} (h:∀x∈xs,x.bg.length<=60) (hl:xs.length<=1000):yO xs=f9 xs:=by
 have key:∀(xs:List ae) (s:Int),(∀x∈xs,x.bg.length<=60)->0<=s->s+60*xs.length<=9000000000->xs.foldl (λa x=>WR (a+(x.bg.length:Int))) s=s+f9 xs:=by
  intro xs
  induction xs with
  |nil=>intro s _ _ _;simp[f9]
  |cons x xs ih=>
   intro s h h0 h1
   have hx:=h x (by simp)
   simp only[aaj] at h1
   rw[ack,bK oaa,ih _ (λy hy=>h y (by simp[hy])) oaa oaa]
   simp[f9];omega
 have:=key xs 0 h oaa oaa
 rw[yO,this];omega
theorem WOK.d (h:WOK w):∀x∈w.aw,x.bg.length<=60:=λx hx=>by
 obtain⟨k,hk⟩:=aar hx;exact(h.u k x hk).2
structure QOK (q:cX):Prop where
 i:0<=q.aG
 u:0<=q.ev
 g:q.ev<=q.cG
 m:q.cG<=100000
theorem G3:ji q=true↔QOK q:=by
 simp only[ji,v0,leB_t]
 exact⟨λ⟨a,b,c,d⟩=>⟨a,b,c,d⟩,λ⟨a,b,c,d⟩=>⟨a,b,c,d⟩⟩
theorem Fr (h:QOK q):MX q=q.cG-q.ev:=by
 rw[MX,G3.2 h];obtain⟨a,b,c,d⟩:=h
 simp only[cond_true];rw[bK oaa]
structure SP (s:ah):Prop where
 ok:dU s
 rcd:tp s.bA=true
 plan:qx s.gF=true
 page:jX s.ge=true
 win:WOK s.ax
 q:QOK s.bT
 st:0<=s.bj/\s.bj<=1
 k1:s.bj=1->mI s.aV=true
 k2:0<s.bE->mI s.aC.eP=true
 ps:0<=s.bE/\s.bE<=999999
 gn:0<=s.ag/\s.ag<=999999
 ep:0<=s.aT/\s.aT<=999999
 rk:0<=s.aV/\s.aV<=2147483646
 ce:0<=s.be/\s.be<=5
 qu:0<=s.d6/\s.d6<=5
 rt:0<=s.dP/\s.dP<=3
 sl:s.aM.length<=24
 sd:∀p∈s.aM,p.bg.length<=60
 nx:s.ax.bB<=s.aM.length+1
 un:∀x∈s.ax.aw,Bv s x=true
 pd:f9 s.ax.aw<=s.bT.cG-s.bT.ev
theorem vI (ok:dU s):jb s=true↔SP s:=by
 constructor
 .intro h
  simp only[jb,v0,bO,FA,G3,aah,Bw,tw,tQ,GH] at h
  obtain⟨h1,h2,h3,h4,h5,h6,⟨h7,h8⟩,h9,h10,h11,h12,h13,h14,h15,h16,h17,h18,h19,h20⟩:=h
  have h16:=Am h16
  have h18:=Am h18
  have h20:=Am h20
  rw[bK oaa] at h18
  rw[Fr h5,Jh h4.d (by have:=h4.l;omega)] at h20
  refine⟨ok,h1,h2,h3,h4,h5,h6,λe=>?_,λe=>?_,h9,h10,h11,h12,h13,h14,h15,by omega,h17,h18,h19,h20⟩
  .rw[eqB_t.2 e] at h7;simpa using h7
  rw[ltB_t.2 e] at h8;simpa using h8
 rintro⟨_,h1,h2,h3,h4,h5,h6,h7,h8,h9,h10,h11,h12,h13,h14,h15,h16,h17,h18,h19,h20⟩
 simp only[jb,v0,bO,FA,G3,aah,Bw,tw,tQ,GH]
 refine⟨h1,h2,h3,h4,h5,h6,⟨?_,?_⟩,h9,h10,h11,h12,h13,h14,h15,leB_t.2 oaa,h17,leB_t.2 (by rw[bK oaa];omega),h19,leB_t.2 (by rw[Fr h5,Jh h4.d (by have:=h4.l;omega)];omega)⟩
 .cases e:eqB s.bj 1
  .rfl
  exact h7 (mc e)
 cases e:ltB 0 s.bE
 .rfl
 exact h8 (lP e)
def tm (s:ah) (b:List Int):ah×Bool:=bif leB 24 (s.aM.length:Int)||ltB 60 (b.length:Int) then(s,false) else({s with aM:=s.aM++[⟨b⟩]},true)
theorem Yr (h:dU s) {b:List Int}:mD s b=some (tm s b):=by
 simp only[mD,qS h,abX,tm,HF,aa9]
 cases h1:leB 24 (s.aM.length:Int)<;>cases h2:ltB 60 (b.length:Int)<;>try rfl
 have h1:=yK h1
 have h2:=px h2
 simp only[ace,cB (by_:=1) (n:=b.length) oaa oaa,cB (by_:=24) (n:=(s.aM++[(⟨b⟩:bM)]).length) oaa (by simp;omega),au]
theorem sub_i (h:dU s) {b:List Int}:uO s b=some (tm s b):=by
 simp only[uO,wZ h,abX,tm]
 cases h1:leB 24 (s.aM.length:Int)<;>cases h2:ltB 60 (b.length:Int)<;>try rfl
 have h1:=yK h1
 have h2:=px h2
 simp only[ace,wa (show b.length<=1048576 by omega),cB (by_:=24) (n:=(s.aM++[(⟨b⟩:bM)]).length) oaa (by simp;omega),au]
def Hc (s:ah) (m:aD):bI:=
 let q:=s.bA.cV+1
 let v:=vec s.bA.eP (FY s.bA.ID q) q
 bif eqB s.bA.cV 999999 then⟨s,[]⟩ else⟨{s with bA:={s.bA with cV:=q},aC:=v,bE:=q},[⟨2,m.be,q,0,0,v,0⟩]⟩
def ub (s:ah) (k:Int):aD:=sZ s.aV ⟨k,s.be,s.ag,s.aT,0,cg,0⟩
def xR (s:ah) (c:Int):ah:=⟨s.bA,s.gF,1,cg,0,s.bE,s.aC.eP,s.aT+1,c,0,ec,s.aM,s.ax,s.dP,s.bT⟩
def zh (s:ah) (m:aD):bI:=
 bif leB s.bE 0||(!eqB m.ag s.bE||(!eqB m.bL s.aC.vT||leB 999999 s.aT)) then⟨s,[]⟩ else⟨xR s m.be,[ub (xR s m.be) 4]⟩
def qi (s:ah) (m:aD):Bool:=eqB s.bj 1&&(eqB m.ag s.ag&&qT s.aV m)
def wU (s:ah) (m:aD):ah:={s with aT:=m.aT,be:=m.be,d6:=0,ge:=ec,dP:=0}
def y6 (s:ah) (m:aD):bI:=
 bif !qi s m||(ltB m.aT s.aT||(eqB m.aT s.aT&&!eqB m.be s.be)) then⟨s,[]⟩ else⟨wU s m,[ub (wU s m) 6]⟩
def kC (w:aY) (k:Int):aY:=bif ltB w.bB k then w else⟨w.bB,w.aw.filter λx=>leB k x.cV⟩
def tq (q:cX) (n:Int):cX:=bif inR n 0 (q.cG-q.ev) then {q with ev:=q.ev+n} else q
def ly (s:ah) (k:Int):ah:={s with d6:=0,ax:=kC s.ax k,bT:=tq s.bT (f9 s.ax.aw-f9 (kC s.ax k).aw)}
def Hb (s:ah) (m:aD):bI:=bif !qi s m||ltB s.ax.bB m.bL then⟨s,[]⟩ else⟨ly s m.bL,[]⟩
def sUp (s:ah) (m:aD):bI:=
 bif !ki m then⟨s,[]⟩ else bif eqB m.a8 1 then Hc s m else bif eqB m.a8 3 then zh s m else bif eqB m.a8 5 then y6 s m else bif eqB m.a8 8 then Hb s m else⟨s,[]⟩
def lB (s:ah):ah:={s with aC:=cg,bE:=0,d6:=0,ge:=ec,dP:=0}
theorem Cf (h:dU s):o4 s=some ⟨s,[]⟩:=by simp[o4,qS h]
theorem Vp (h:dU s) {l:List aD} (hl:l.length<=1048576):dM s l=some ⟨s,l⟩:=by simp[dM,wZ h,VF hl]
theorem zY (h:dU s):dM s []=some ⟨s,[]⟩:=Vp h (by simp)
theorem KX (h:dU s) (m:aD):dM s [m]=some ⟨s,[m]⟩:=Vp h (by simp)
theorem YU (h:dU s):zZ s=some (lB s):=by simp[zZ,qS h,lB]
theorem YT (h:dU s):Dk s=some (lB s):=by simp[Dk,wZ h,lB]
theorem KT {r:aP} (h:tp r=true):0<=r.cV/\r.cV<=999999:=by
 simp only[tp,v0,bO] at h;omega
theorem att_s (h:SP s) (m:aD):oS s m=some (Hc s m):=by
 have hr:=KT h.rcd
 simp only[oS,To,qQ,Vf,h.rcd,Q3,Cf h.ok,qS h.ok,bK (n:=s.bA.cV+1) oaa,Hc,au]
 cases he:eqB s.bA.cV 999999
 .simp only[bw,eqB_f.2 (show s.bA.cV+1≠s.bA.cV by omega),ab6,ab5,au]
 simp only[bw,ab6,au]
theorem att_i (h:SP s) (m:aD):oc s m=some (Hc s m):=by
 have hr:=KT h.rcd
 simp only[oc,YG,qD,Yj,h.rcd,Yv,zY h.ok,bK (n:=s.bA.cV+1) oaa,Hc,au]
 cases he:eqB s.bA.cV 999999
 .simp only[bw,eqB_f.2 (show s.bA.cV+1≠s.bA.cV by omega),ab6,ab5,au]
  rw[KX (s:={s with bA:={s.bA with cV:=s.bA.cV+1},aC:=vec s.bA.eP (FY s.bA.ID (s.bA.cV+1)) (s.bA.cV+1),bE:=s.bA.cV+1}) h.ok]
  rfl
 simp only[bw,ab6,au]
theorem ZF (h:SP s) (m:aD):lS s m=some (zh s m):=by
 have he:=h.ep
 simp only[lS,pF,Cf h.ok,qS h.ok,s7,D2,abX,bK (n:=s.aT+1) oaa,zh]
 cases leB s.bE 0<;>cases eqB m.ag s.bE<;>cases eqB m.bL s.aC.vT<;>cases leB 999999 s.aT<;>rfl
theorem ZE (h:SP s) (m:aD):lM s m=some (zh s m):=by
 have he:=h.ep
 have hh:dU (xR s m.be):=h.ok
 have a:∀x,dM ⟨s.bA,s.gF,1,cg,0,s.bE,s.aC.eP,s.aT+1,m.be,0,ec,s.aM,s.ax,s.dP,s.bT⟩ [x]=some ⟨xR s m.be,[x]⟩:=λx=>KX hh x
 simp only[lM,pj,zY h.ok,mx,Lc,abX,bK (n:=s.aT+1) oaa,a,zh]
 cases leB s.bE 0<;>cases eqB m.ag s.bE<;>cases eqB m.bL s.aC.vT<;>cases leB 999999 s.aT<;>rfl
theorem P7 (s:ah) (m:aD):vO s m=some (qi s m):=by
 simp only[vO,Lr,abX,qi];cases eqB s.bj 1<;>cases eqB m.ag s.ag<;>rfl
theorem Xr (h:SP s) (m:aD):jU s m=some (y6 s m):=by
 simp only[jU,P7,Cf h.ok,qS h.ok,s7,D2,abX,y6]
 cases qi s m<;>cases ltB m.aT s.aT<;>cases eqB m.aT s.aT<;>cases eqB m.be s.be<;>rfl
theorem Xq (h:SP s) (m:aD):jO s m=some (y6 s m):=by
 have hh:dU (wU s m):=h.ok
 have a:∀x,dM {s with aT:=m.aT,be:=m.be,d6:=0,ge:=ec,dP:=0} [x]=some ⟨wU s m,[x]⟩:=λx=>KX hh x
 simp only[jO,Pf,zY h.ok,mx,Lc,abX,a,y6,qi]
 cases eqB s.bj 1<;>cases eqB m.ag s.ag<;>cases qT s.aV m<;>cases ltB m.aT s.aT<;>cases eqB m.aT s.aT<;>cases eqB m.be s.be<;>rfl
theorem YC (h:WOK w) (k:Int):kS w k=some (kC w k):=by
 have hl:=h.l
 simp only[kS,HA h.ok,abX,kC]
 cases ltB w.bB k
 .have:=eK (step:=gO w k) w.aw (λi s=>((i:Int),s)) (sC 32 (λx=>leB k x.cV) (λx=>x)) some oaa
   (λi x s hx hi=>by
    have hd:=h.d x (aac hx)
    simp only[gO,cy hi,bu,hx,aa9,cB (by_:=1) (n:=x.bg.length) oaa oaa,WRs (k:=i),sC,au]
    cases leB k x.cV<;>simp
    cases c8 32 (s.length+1)<;>rfl) (λs=>by simp[gO]) ([]:List ae)
  rw[tu oaa _ _ _ _ (by simp;omega)] at this
  simp only[show iter (gO w k) FU (0,[])=_ from this,aa9,acL,au]
 rfl
theorem PK (h:WOK w) (p:ae->Bool):okL fC (w.aw.filter p):=
 ⟨by have:=acq p w.aw;have:=h.l;omega,λx hx=>h.ok.2 x (abh.1 hx).1⟩
theorem YB (h:WOK w) (k:Int):kG w k=some (kC w k):=by
 have hl:=h.l
 simp only[kG,DY h.ok,abX,kC]
 cases ltB w.bB k
 .have:=eK (step:=gI w k) w.aw (λi s=>((i:Int),s)) (sC 32 (λx=>leB k x.cV) (λx=>x)) some oaa
   (λi x s hx hi=>by
    simp only[gI,cy hi,bu,hx,WRs (k:=i),sC,au]
    cases leB k x.cV<;>simp
    cases c8 32 (s.length+1)<;>rfl) (λs=>by simp[gI]) ([]:List ae)
  rw[tu oaa _ _ _ _ (by simp;omega)] at this
  simp only[show iter (gI w k) FU (0,[])=_ from this,aa9,acL,Bc (PK h _),au]
 rfl
theorem Rh (h:QOK q) (n:Int):∃b,pV q n=some (tq q n,b):=by
 obtain⟨a,b,c,d⟩:=h
 simp only[pV,Cm,G3.2 ⟨a,b,c,d⟩,fS,bK (n:=q.cG-q.ev) oaa,tq,au]
 cases hn:inR n 0 (q.cG-q.ev)
 .exact⟨false,rfl⟩
 rw[bO] at hn
 simp only[bK (n:=q.ev+n) oaa,au];exact⟨true,rfl⟩
theorem Rg (h:QOK q) (n:Int):∃b,pN q n=some (tq q n,b):=by
 obtain⟨a,b,c,d⟩:=h
 simp only[pN,Fq,G3.2 ⟨a,b,c,d⟩,gv,bK (n:=q.cG-q.ev) oaa,tq,au]
 cases hn:inR n 0 (q.cG-q.ev)
 .exact⟨false,rfl⟩
 rw[bO] at hn
 simp only[bK (n:=q.ev+n) oaa,au];exact⟨true,rfl⟩
theorem JE (p:ae->Bool):∀xs:List ae,f9 xs=f9 (xs.filter p)+f9 (xs.filter λx=>!p x)
 |[]=>rfl
 |x::xs=>by
  have ih:=JE p xs
  have e:∀ys,f9 (x::ys)=x.bg.length+f9 ys:=λys=>by simp[f9]
  rw[acm,acm,e]
  cases p x<;>simp[e]<;>omega
theorem Ln (n:Int):∀(xs:List ae) (s:Int),(∀x∈xs,x.bg.length<=60)->0<=s->s+60*xs.length<=9000000000->
 xs.foldl (λa x=>bif ltB x.cV n then WR (a+(x.bg.length:Int)) else a) s=s+f9 (xs.filter λx=>ltB x.cV n)
 |[],s,_,_,_=>by simp[f9]
 |x::xs,s,h,h0,h1=>by
  have hx:=h x (by simp)
  simp only[aaj] at h1
  rw[ack,acm]
  cases ltB x.cV n
  .simp only[cond_false]
   exact Ln n xs s (λy hy=>h y (by simp[hy])) h0 oaa
  simp only[cond_true]
  rw[bK oaa,Ln n xs _ (λy hy=>h y (by simp[hy])) oaa oaa]
  simp[f9];omega
theorem JW (h:WOK w) {k:Int} (hk:ltB w.bB k=false):f9 w.aw-f9 (kC w k).aw=f9 (w.aw.filter λx=>ltB x.cV k):=by
 rw[kC,hk,JE (λx=>leB k x.cV) w.aw]
 simp only[cond_false]
 have:(λx:ae=>ltB x.cV k)=λx=>!leB k x.cV:=by funext x;rw[sN]
 rw[this];omega
theorem ack_s (h:SP s) (m:aD):mU s m=some (Hb s m):=by
 obtain⟨b,hb⟩:=Rh h.q (f9 s.ax.aw-f9 (kC s.ax m.bL).aw)
 have hu:=h.win.d
 have hl:=h.win.l
 have hu2:∀x∈(kC s.ax m.bL).aw,x.bg.length<=60:=λx hx=>by
  rw[kC] at hx;revert hx
  cases ltB s.ax.bB m.bL
  .exact λhx=>hu x (abh.1 hx).1
  exact hu x
 have hl2:(kC s.ax m.bL).aw.length<=8:=by
  rw[kC];cases ltB s.ax.bB m.bL
  .have:=acq (λx:ae=>leB m.bL x.cV) s.ax.aw
   simp only[cond_false];omega
  exact hl
 have s1:=xh hu
 have s2:=xh hu2
 have e1:WR (yO s.ax.aw-yO (kC s.ax m.bL).aw)=f9 s.ax.aw-f9 (kC s.ax m.bL).aw:=by
  rw[Jh hu oaa,Jh hu2 oaa,bK oaa]
 simp only[mU,P7,Cf h.ok,qS h.ok,YC h.win,Xh (show s.ax.aw.length<=1048576 by omega),Xh (show(kC s.ax m.bL).aw.length<=1048576 by omega),abX,e1,hb,Hb]
 cases qi s m<;>cases ltB s.ax.bB m.bL<;>rfl
theorem Wo (h:WOK w) (k:Int):il (kC w k):=by
 rw[kC];cases ltB w.bB k
 .exact PK h _
 exact h.ok
theorem ack_i (h:SP s) (m:aD):mP s m=some (Hb s m):=by
 have hu:=h.win.d
 have hl:=h.win.l
 have hrun:iter (jN s m) FU (0,0)=some (f9 (s.ax.aw.filter λx=>ltB x.cV m.bL)):=by
  rw[vg s.ax.aw (λa x=>bif ltB x.cV m.bL then WR (a+(x.bg.length:Int)) else a) oaa (λk x a hx hk=>by
   simp only[jN,cy hk,bu,hx,WRs (k:=k),au]
   cases ltB x.cV m.bL<;>rfl) (λa=>by simp[jN]),Ln m.bL s.ax.aw 0 hu oaa oaa]
  simp
 obtain⟨b,hb⟩:=Rg h.q (f9 (s.ax.aw.filter λx=>ltB x.cV m.bL))
 simp only[mP,Pf,zY h.ok,hrun,hb,YB h.win,abX,Hb,qi]
 cases eqB s.bj 1<;>cases eqB m.ag s.ag<;>cases qT s.aV m<;>try rfl
 cases hk:ltB s.ax.bB m.bL
 .have ho:dU (ly s m.bL):=⟨h.ok.1,h.ok.2.1,Wo h.win _⟩
  have:=zY ho
  rw[ly,JW h.win hk] at this
  simp only[ab5,acC,ly,JW h.win hk,this,au]
 rfl
theorem up_s (h:SP s) (m:aD):oV s m=some (sUp s m):=by
 simp only[oV,Qv,Cf h.ok,att_s h,ZF h,Xr h,ack_s h,abX,sUp]
 cases ki m<;>cases eqB m.a8 1<;>cases eqB m.a8 3<;>cases eqB m.a8 5<;>cases eqB m.a8 8<;>rfl
theorem up_i (h:SP s) (m:aD):oi s m=some (sUp s m):=by
 simp only[oi,Qu,zY h.ok,att_i h,ZE h,Xq h,ack_i h,abX,sUp]
 cases ki m<;>cases eqB m.a8 1<;>cases eqB m.a8 3<;>cases eqB m.a8 5<;>cases eqB m.a8 8<;>rfl
theorem tg (t d:List aH):xi (t++d)=xi t+xi d:=by simp[xi,List.sum_append]
@[simp] theorem sumR_cons (x:aH) (d:List aH):xi (x::d)=x.d8+xi d:=by simp[xi]
theorem Va {d:List aH} {m m':Int} (h:(t++⟨i,m⟩::d).Pairwise λx y=>x.aG<y.aG):(t++⟨i,m'⟩::d).Pairwise λx y=>x.aG<y.aG:=by
 rw[ab3,ab2] at h ⊢
 obtain⟨h1,⟨h2,h3⟩,h4⟩:=h
 exact⟨h1,⟨λy hy=>h2 y hy,h3⟩,λx hx y hy=>by
  rcases aaf.1 hy with e|hy
  .subst e;exact h4 x hx ⟨i,m⟩ (by simp)
  exact h4 x hx y (by simp[hy])⟩
theorem ZB {d:List aH} {m:Int} (h:(t++d).Pairwise λx y=>x.aG<y.aG) (h1:∀x∈t,x.aG<i) (h2:∀x∈d,i<x.aG):(t++(⟨i,m⟩:aH)::d).Pairwise λx y=>x.aG<y.aG:=by
 rw[ab3] at h ⊢
 obtain⟨a,b,c⟩:=h
 exact⟨a,ab2.2 ⟨λy hy=>h2 y hy,b⟩,λx hx y hy=>by
  rcases aaf.1 hy with e|hy
  .subst e;exact h1 x hx
  exact c x hx y hy⟩
theorem KN {d:List aH} (h1:∀x∈t,x.aG<i) (h2:∀x∈d,i<x.aG):∀x∈t++d,x.aG≠i:=λx hx=>by
 rcases aad.1 hx with hx|hx
 .have:=h1 x hx;omega
 have:=h2 x hx;omega
theorem G7 (ok:p4 a) (i n:Int):
 p4 (i6 a i n).1/\iO (i6 a i n).1 i=iO a i+(i6 a i n).2/\0<=(i6 a i n).2/\(i6 a i n).2<=a.bJ/\(i6 a i n).1.bJ=a.bJ-(i6 a i n).2/\(i6 a i n).1.eD=a.eD/\(i6 a i n).1.fw=a.fw:=by
 have hv:=ok.v
 have ht:=ok.t
 have hs:=ok.s
 have hl:=ok.l
 have he:=ok.e
 rw[i6]
 cases h1:ltB i 0<;>cases h2:inR n 1 100000<;>cases h3:eqB a.bJ 0<;>cases h4:full a i<;>simp only[acC,Bool.or_true,Bool.true_or,aaJ,au]<;>try exact⟨ok,by omega,by omega,by omega,by omega,by simp,by simp⟩
 rw[bO] at h2
 have h1:=px h1
 have h3:=H6 h3
 have hmin:1<=kY n a.bJ/\kY n a.bJ<=100000/\kY n a.bJ<=a.bJ:=by unfold kY;split<;>omega
 generalize kY n a.bJ=g at*
 rcases L0 ok.o i with⟨t,m,d,e,k1,k2⟩|⟨t,d,e,k1,k2⟩
 .have hm:=ok.r ⟨i,m⟩ (by rw[e];simp)
  have hsum:=(uy ok.r).2.2 ⟨i,m⟩ (by rw[e];simp)
  simp only at hm hsum
  rw[e,tg,sumR_cons] at he
  simp only at he
  have hs1:=uy (h:=t) λx hx=>ok.r x (by rw[e];simp[hx])
  have hs2:=uy (h:=d) λx hx=>ok.r x (by rw[e];simp[hx])
  have ho:=ok.o
  rw[e] at ho
  rw[nC e k1]
  simp only[e,JY k1]
  have hll:(t++(⟨i,m+g⟩:aH)::d).length=a.aj.length:=by rw[e];simp
  refine⟨⟨ht,by simp only;omega,hs,by simp only;omega,λx hx=>?_,Va ho,by simp only[tg,sumR_cons];omega⟩,nC (t:=t) (d:=d) rfl k1,by omega,by omega,trivial,trivial,trivial⟩
  rcases aad.1 hx with hx|hx
  .exact ok.r x (by rw[e];simp[hx])
  rcases aaf.1 hx with e'|hx
  .subst e';simp only;omega
  exact ok.r x (by rw[e];simp[hx])
 rw[rW (a:=a) (λx hx=>by rw[e] at hx;exact KN k1 k2 x hx)]
 have hb:a.aj.length<8:=by
  rw[full,e,Tc k1 k2] at h4
  simp only[Bool.not_false,ab5] at h4
  have:=yK h4
  rw[e];omega
 rw[e,tg] at he
 have ho:=ok.o
 rw[e] at ho
 simp only[e,JZ k1 k2]
 refine⟨⟨ht,by simp only;omega,hs,by simp only;rw[e] at hb;simp at hb ⊢;omega,λx hx=>?_,ZB ho k1 k2,by simp only[tg,sumR_cons];omega⟩,Eq.trans (nC (t:=t) (d:=d) rfl k1) oaa,by omega,by omega,trivial,trivial,trivial⟩
 rcases aad.1 hx with hx|hx
 .exact ok.r x (by rw[e];simp[hx])
 rcases aaf.1 hx with e'|hx
 .subst e';simp only;omega
 exact ok.r x (by rw[e];simp[hx])
theorem TE (ok:p4 a) {n:Int} (hn:0<=n/\n<=iO a i):
 p4 (yc a i n)/\iO (yc a i n) i=iO a i-n/\(yc a i n).eD=a.eD+n/\(yc a i n).bJ=a.bJ/\(yc a i n).fw=a.fw:=by
 have hv:=ok.v
 have ht:=ok.t
 have hs:=ok.s
 have hl:=ok.l
 have he:=ok.e
 rw[yc]
 cases h0:ltB 0 n
 .have h0:=px h0
  have:n=0:=by omega
  subst this
  simp only[cond_false]
  exact⟨ok,by omega,by omega,by simp,by simp⟩
 have h0:=lP h0
 simp only[cond_true]
 rcases L0 ok.o i with⟨t,m,d,e,k1,k2⟩|⟨t,d,e,k1,k2⟩
 .rw[nC e k1] at hn ⊢
  have hm:=ok.r ⟨i,m⟩ (by rw[e];simp)
  simp only at hm
  rw[e,tg,sumR_cons] at he
  have hs1:=uy (h:=t) λx hx=>ok.r x (by rw[e];simp[hx])
  have hs2:=uy (h:=d) λx hx=>ok.r x (by rw[e];simp[hx])
  have ho:=ok.o
  rw[e] at ho
  have hll:t.length+1+d.length=a.aj.length:=by rw[e];simp;omega
  simp only at he
  simp only[e,J8 k1]
  by_cases hb:n<m
  .simp only[if_pos hb]
   refine⟨⟨ht,by simp only;omega,by simp only;omega,by simp;omega,λx hx=>?_,Va ho,by simp only[tg,sumR_cons];omega⟩,nC (t:=t) (d:=d) rfl k1,trivial,trivial,trivial⟩
   rcases aad.1 hx with hx|hx
   .exact ok.r x (by rw[e];simp[hx])
   rcases aaf.1 hx with e'|hx
   .subst e';simp only;omega
   exact ok.r x (by rw[e];simp[hx])
  simp only[if_neg hb]
  have ho2:(t++d).Pairwise λx y=>x.aG<y.aG:=ho.sublist (by simp)
  refine⟨⟨ht,by simp only;omega,by simp only;omega,by simp;omega,λx hx=>ok.r x (by rw[e];rcases aad.1 hx with hx|hx<;>simp[hx]),ho2,by simp only[tg];omega⟩,?_,trivial,trivial,trivial⟩
  rw[rW (a:={a with eD:=a.eD+n,aj:=t++d}) (KN k1 k2)];omega
 rw[rW (λx hx=>by rw[e] at hx;exact KN k1 k2 x hx)] at hn
 omega
structure MOK (a:am) (q:cX):Prop where
 acc:p4 a
 quo:QOK q
 res:iO a q.aG=q.cG
theorem rU:xj a q=true↔MOK a q:=by
 simp only[xj,v0,zG,G3,eqB_t]
 exact⟨λ⟨x,y,z⟩=>⟨x,y,z⟩,λ⟨x,y,z⟩=>⟨x,y,z⟩⟩
def jm (a:am) (q:cX) (n:Int):am×cX:=
 let r:=i6 a q.aG n
 (r.1,{q with cG:=q.cG+r.2})
theorem Bf (h:MOK a q) (n:Int):MOK (jm a q n).1 (jm a q n).2/\q.cG<=(jm a q n).2.cG:=by
 obtain⟨h1,h2,h3,h4,h5,h6,h7⟩:=G7 h.acc q.aG n
 have:=DE h1 q.aG
 have hr:=h.res
 obtain⟨a1,a2,a3,a4⟩:=h.quo
 exact⟨⟨h1,⟨a1,a2,by simp only[jm];omega,by simp only[jm];omega⟩,by simp only[jm];omega⟩,by simp only[jm];omega⟩
theorem Sa (h:MOK a q) (n:Int):pX a q n=some (jm a q n):=by
 have h0:=(Bf h n).1.quo
 have hq:=h.quo
 simp only[jm] at h0
 have hg:=h0.m
 have hg2:=h0.g
 simp only at hg hg2
 simp only[pX,Sd h.acc,Kz h.acc.ok,rU.2 h,Cm,bK (n:=q.cG+(i6 a q.aG n).2) (by have:=hq.u;omega),G3.2 h0,jm,au]
theorem R9 (h:MOK a q) (n:Int):uM a q n=some (jm a q n):=by
 have h0:=(Bf h n).1.quo
 have hq:=h.quo
 simp only[jm] at h0
 have hg:=h0.m
 have hg2:=h0.g
 simp only at hg hg2
 simp only[uM,Sc h.acc,Ky h.acc.ok,rU.2 h,bK (n:=q.cG+(i6 a q.aG n).2) (by have:=hq.u;omega),ltB_f.2 hg,jm,au]
def lx (a:am) (q:cX):am×cX:=(yc a q.aG q.ev,⟨q.aG,q.cG-q.ev,0⟩)
theorem R8 (h:MOK a q):MOK (lx a q).1 (lx a q).2/\(lx a q).1.eD=a.eD+q.ev/\(lx a q).1.fw=a.fw/\(lx a q).1.bJ=a.bJ:=by
 obtain⟨a1,a2,a3,a4⟩:=h.quo
 have hr:=h.res
 obtain⟨h1,h2,h3,h4,h5⟩:=TE h.acc (i:=q.aG) (n:=q.ev) oaa
 exact⟨⟨h1,⟨a1,by simp[lx],by simp only[lx];omega,by simp only[lx];omega⟩,by simp only[lx];omega⟩,h3,h5,h4⟩
theorem Vo (h:MOK a q):rI a q=some (lx a q):=by
 obtain⟨a1,a2,a3,a4⟩:=h.quo
 have hr:=h.res
 simp only[rI,Kz h.acc.ok,rU.2 h,WI h.acc (i:=q.aG) (n:=q.ev) oaa,bK (n:=q.cG-q.ev) oaa,lx,au]
theorem Vn (h:MOK a q):rm a q=some (lx a q):=by
 obtain⟨a1,a2,a3,a4⟩:=h.quo
 have hr:=h.res
 simp only[rm,Ky h.acc.ok,rU.2 h,WH h.acc (i:=q.aG) (n:=q.ev) oaa,bK (n:=q.cG-q.ev) oaa,lx,au]
def kR (s:ah) (n:Int):Int:=GR 0 (f9 s.ax.aw+n-(s.bT.cG-s.bT.ev))
theorem UO (hw:WOK s.ax) (hq:QOK s.bT) {n:Int} (hn:0<=n/\n<=1000):oR s n=some (kR s n):=by
 have hs:=xh hw.d
 have hl:=hw.l
 obtain⟨a1,a2,a3,a4⟩:=hq
 simp only[oR,oQ,Xh (show s.ax.aw.length<=1048576 by omega),Jh hw.d (show s.ax.aw.length<=1000 by omega),Yl,Fr ⟨a1,a2,a3,a4⟩,MB,abX,kR,bK (n:=f9 s.ax.aw+n) oaa,bK (n:=f9 s.ax.aw+n-(s.bT.cG-s.bT.ev)) oaa]
theorem UN (hw:WOK s.ax) (hq:QOK s.bT) {n:Int} (hn:0<=n/\n<=1000):rj s n=some (kR s n):=by
 have hs:=xh hw.d
 have hl:=hw.l
 obtain⟨a1,a2,a3,a4⟩:=hq
 simp only[rj,iW,nb_i (show s.ax.aw.length<=1048576 by omega),Jh hw.d (show s.ax.aw.length<=1000 by omega),Yk,Fr ⟨a1,a2,a3,a4⟩,Yf,abX,kR,bK (n:=f9 s.ax.aw+n) oaa,bK (n:=f9 s.ax.aw+n-(s.bT.cG-s.bT.ev)) oaa]
def dq (s:ah) (a:am) (n:Int):ah×am:=
 bif leB (kR s n) 0 then(s,a) else
  let r:=jm a s.bT (GR (kR s n) s.gF.eg)
  ({s with bT:=r.2},r.1)
theorem TT (h:SP s) (hm:MOK a s.bT) {n:Int} (hn:0<=n/\n<=1000):rG s a n=some (dq s a n):=by
 simp only[rG,qS h.ok,UO h.win h.q hn,FG hm.acc.ok,MB,Sa hm,abX,dq]
 cases leB (kR s n) 0<;>rfl
theorem TS (h:SP s) (hm:MOK a s.bT) {n:Int} (hn:0<=n/\n<=1000):wj s a n=some (dq s a n):=by
 simp only[wj,wZ h.ok,UN h.win h.q hn,C8 hm.acc.ok,Yf,R9 hm,abX,dq]
 cases leB (kR s n) 0<;>rfl
def pG (w:aY) (b:List Int):aY:=⟨w.bB+1,w.aw++[⟨w.bB,b⟩]⟩
theorem Ft (h:WOK w) {b:List Int} (hn:w.bB<100000) (hl:w.aw.length<8) (hb:b.length<=60):WOK (pG w b):=by
 have h1:=h.n
 have h3:=h.f
 refine⟨by simp only[pG];omega,by simp[pG];omega,by simp[pG];omega,λk x hx=>?_⟩
 simp only[pG] at hx ⊢
 rw[aav,acr]
 by_cases hk:k<w.aw.length
 .rw[aam hk] at hx
  have:=h.u k x hx
  omega
 have hk2:=(aab.1 hx).1
 simp at hk2
 have:k=w.aw.length:=by omega
 subst this
 simp at hx
 subst hx
 simp only
 omega
theorem ZN (h:WOK w) {b:List Int} (hn:w.bB<100000) (hl:w.aw.length<8) (hb:b.length<=60):qs w b=some (pG w b,⟨w.bB,b⟩,true):=by
 have h1:=h.n
 have hs:=Ft h hn hl hb
 have e:(⟨WR (w.bB+1),w.aw++[(⟨w.bB,b⟩:ae)]⟩:aY)=pG w b:=by rw[bK oaa];rfl
 simp only[qs,HA h.ok,aa9,cB (by_:=1) (n:=b.length) oaa oaa,cB (by_:=32) (n:=(w.aw++[(⟨w.bB,b⟩:ae)]).length) oaa (by simp;omega),e,Nh hs.ok,FA.2 hs,au]
theorem ZM (h:WOK w) {b:List Int} (hn:w.bB<100000) (hl:w.aw.length<8) (hb:b.length<=60):yq w b=some (pG w b,⟨w.bB,b⟩,true):=by
 have h1:=h.n
 have hs:=Ft h hn hl hb
 have e:(⟨WR (w.bB+1),w.aw++[(⟨w.bB,b⟩:ae)]⟩:aY)=pG w b:=by rw[bK oaa];rfl
 simp only[yq,DY h.ok,wa (show b.length<=1048576 by omega),cB (by_:=32) (n:=(w.aw++[(⟨w.bB,b⟩:ae)]).length) oaa (by simp;omega),e,Ng hs.ok,FA.2 hs,au]
structure SG (s:ah) (a:am):Prop where
 sp:SP s
 b1:∀p∈s.aM,okB p.bg
 b2:∀x∈s.ax.aw,okB x.bg
 mo:MOK a s.bT
def qX (s:ah):Option bM:=bif leB s.ax.bB (s.aM.length:Int)&&ltB (s.ax.aw.length:Int) 8 then s.aM[(s.ax.bB-1).toNat]? else none
def gx:Nat->ah->am->List aA->ah×am×List aA
 |0,s,a,r=>(s,a,r)
 |k+1,s,a,r=>match qX s with
  |none=>(s,a,r)
  |some x=>
   let e:=dq s a (x.bg.length:Int)
   bif ltB 0 (kR e.1 (x.bg.length:Int)) then(e.1,e.2,r)
   else gx k {e.1 with ax:=pG e.1.ax x.bg} e.2 (r++[iJ e.1.aV e.1.ag e.1.aT ⟨e.1.ax.bB,x.bg⟩])
theorem nh (h:SP s) {x:bM} (e:qX s=some x):x∈s.aM/\ix s.aM (WR (s.ax.bB-1))=some x/\s.aM[(s.ax.bB-1).toNat]?=some x/\s.ax.bB<=s.aM.length/\s.ax.aw.length<8/\x.bg.length<=60:=by
 have hn:=h.win.n
 rw[qX] at e
 cases h1:leB s.ax.bB (s.aM.length:Int)<;>cases h2:ltB (s.ax.aw.length:Int) 8<;>rw[h1,h2] at e<;>try cases e
 have h1:=Am h1
 have h2:=lP h2
 have e:s.aM[(s.ax.bB-1).toNat]?=some x:=e
 have hm:=aac e
 refine⟨hm,?_,e,h1,by omega,h.sd x hm⟩
 rw[bK oaa,ix,leB_t.2 (show 0<=s.ax.bB-1 by omega)]
 exact e
theorem GX (h:SP s) (e:qX s=none):(leB s.ax.bB (s.aM.length:Int)&&ltB (s.ax.aw.length:Int) 8)=false:=by
 have hn:=h.win.n
 cases h1:leB s.ax.bB (s.aM.length:Int)&&ltB (s.ax.aw.length:Int) 8
 .rfl
 rw[qX,h1] at e
 rw[v0] at h1
 have h1:=Am h1.1
 have e:s.aM[(s.ax.bB-1).toNat]?=none:=e
 rw[List.getElem?_eq_none_iff] at e
 omega
theorem vc (h:SG s a) {n:Int} (hn:0<=n/\n<=60):SG (dq s a n).1 (dq s a n).2:=by
 rw[dq]
 cases leB (kR s n) 0
 .obtain⟨h1,h2⟩:=Bf h.mo (GR (kR s n) s.gF.eg)
  have hp:=h.sp.pd
  have hu:(jm a s.bT (GR (kR s n) s.gF.eg)).2.ev=s.bT.ev:=rfl
  exact⟨{h.sp with q:=h1.quo,pd:=by simp only[cond_false] at hp ⊢;rw[hu];omega},h.b1,h.b2,h1⟩
 exact h
theorem Sx (x:ByteArray):strB x x=true:=by simp[strB]
theorem CG (h:SG s a) {x:bM} (e:qX s=some x) (hq:ltB 0 (kR s (x.bg.length:Int))=false):SG {s with ax:=pG s.ax x.bg} a:=by
 obtain⟨hm,_,hx,hn,hl,hb⟩:=nh h.sp e
 have hs:=h.sp.sl
 have hq:=px hq
 have hnn:=h.sp.win.n
 have hpd:f9 (s.ax.aw++[⟨s.ax.bB,x.bg⟩])<=s.bT.cG-s.bT.ev:=by
  have e1:f9 (s.ax.aw++[⟨s.ax.bB,x.bg⟩])=f9 s.ax.aw+x.bg.length:=by simp[f9]
  rw[kR,GR] at hq
  rw[e1]
  split at hq<;>omega
 refine⟨{h.sp with ok:=⟨h.sp.ok.1,h.sp.ok.2.1,(Ft h.sp.win oaa hl hb).ok⟩,win:=Ft h.sp.win oaa hl hb,nx:=by simp only[pG];omega,un:=λy hy=>?_,pd:=hpd},h.b1,λy hy=>?_,h.mo⟩
 .simp only[pG,aad,ab4] at hy
  rcases hy with hy|rfl
  .exact h.sp.un y hy
  simp only[Bv,hx,Jy];exact Sx _
 simp only[pG,aad,ab4] at hy
 rcases hy with hy|rfl
 .exact h.b2 y hy
 exact h.b1 x hm
theorem nr (s:ah) (a:am) (n:Int):∃q,(dq s a n).1={s with bT:=q}:=by
 rw[dq];cases leB (kR s n) 0
 .exact⟨_,rfl⟩
 exact⟨s.bT,rfl⟩
theorem Hy:∀(k fu:Nat) (s:ah) (a:am) (r:List aA),SG s a->k<=2->k<fu->r.length+k<=1000->
 iter tE fu ((2:Int)-(k:Nat),r,s,a)=some ((gx k s a r).2.2,(gx k s a r).1,(gx k s a r).2.1)
 |0,fu,s,a,r,h,h1,h2,h3=>by
  cases fu with
  |zero=>omega
  |succ fu=>rw[iter];simp[tE,gx]
 |k+1,fu,s,a,r,h,h1,h2,h3=>by
  cases fu with
  |zero=>omega
  |succ fu=>
   have hlt:ltB ((2:Int)-((k+1:Nat):Int)) 2=true:=ltB_t.2 oaa
   have hc:(bif ltB (s.aM.length:Int) s.ax.bB then some true else some (leB 8 (s.ax.aw.length:Int)))=some (!(leB s.ax.bB (s.aM.length:Int)&&ltB (s.ax.aw.length:Int) 8)):=by
    rw[sN (s.aM.length:Int),sN (s.ax.aw.length:Int)]
    cases leB s.ax.bB (s.aM.length:Int)<;>cases leB 8 (s.ax.aw.length:Int)<;>rfl
   rw[iter]
   simp only[tE,hlt,hc,gx,au]
   cases e:qX s with
   |none=>rw[GX h.sp e];rfl
   |some x=>
    obtain⟨hm,hx,_,hn,hl,hb⟩:=nh h.sp e
    have hcc:(leB s.ax.bB (s.aM.length:Int)&&ltB (s.ax.aw.length:Int) 8)=true:=by rw[leB_t.2 hn,ltB_t.2 oaa];rfl
    have he:=vc h (n:=(x.bg.length:Int)) oaa
    have hsl:=h.sp.sl
    have hnn:=h.sp.win.n
    simp only[hcc,hx,TS h.sp h.mo (n:=(x.bg.length:Int)) oaa,UN he.sp.win he.sp.q (n:=(x.bg.length:Int)) oaa,au]
    cases hq:ltB 0 (kR (dq s a (x.bg.length:Int)).1 (x.bg.length:Int))
    .obtain⟨q,hk⟩:=nr s a (x.bg.length:Int)
     have e2:qX (dq s a (x.bg.length:Int)).1=some x:=by rw[hk];exact e
     have hg:=CG he e2 hq
     have hw:(dq s a (x.bg.length:Int)).1.ax=s.ax:=by rw[hk]
     have hww:=he.sp.win
     simp only[ZM hww (b:=x.bg) (by rw[hw];omega) (by rw[hw];omega) hb,Vz (x:=⟨(dq s a (x.bg.length:Int)).1.ax.bB,x.bg⟩) (by rw[hw];simp only;omega) (by rw[hw];simp only;omega) (h.b1 x hm) (by simp only;omega),cB (by_:=64) (n:=(r++[iJ (dq s a (x.bg.length:Int)).1.aV (dq s a (x.bg.length:Int)).1.ag (dq s a (x.bg.length:Int)).1.aT ⟨(dq s a (x.bg.length:Int)).1.ax.bB,x.bg⟩]).length) oaa (by simp;omega),bK (n:=(2:Int)-((k+1:Nat):Int)+1) oaa,au]
     rw[show(2:Int)-((k+1:Nat):Int)+1=2-(k:Nat) by omega]
     exact Hy k fu _ _ _ hg oaa oaa (by simp;omega)
    rfl
theorem Hz (s0:ah):∀(k fu:Nat) (s:ah) (a:am) (g:List aD) (r:List aA),SG s a->s.aM=s0.aM->s.aV=s0.aV->s.ag=s0.ag->s.aT=s0.aT->k<=2->k<fu->r.length+k<=1000->
 iter (ua s0) fu ((2:Int)-(k:Nat),⟨s,a,g,r⟩)=some ⟨(gx k s a r).1,(gx k s a r).2.1,g,(gx k s a r).2.2⟩
 |0,fu,s,a,g,r,h,c1,c2,c3,c4,h1,h2,h3=>by
  cases fu with
  |zero=>omega
  |succ fu=>rw[iter];simp[ua,gx]
 |k+1,fu,s,a,g,r,h,c1,c2,c3,c4,h1,h2,h3=>by
  cases fu with
  |zero=>omega
  |succ fu=>
   have hlt:ltB ((2:Int)-((k+1:Nat):Int)) 2=true:=ltB_t.2 oaa
   have hc:(bif leB s.ax.bB (s0.aM.length:Int) then some (ltB (s.ax.aw.length:Int) 8) else some false)=some (leB s.ax.bB (s.aM.length:Int)&&ltB (s.ax.aw.length:Int) 8):=by
    rw[<-c1]
    cases leB s.ax.bB (s.aM.length:Int)<;>rfl
   rw[iter]
   simp only[ua,hlt,hc,gx,au]
   cases e:qX s with
   |none=>rw[GX h.sp e];rfl
   |some x=>
    obtain⟨hm,hx,_,hn,hl,hb⟩:=nh h.sp e
    have hcc:(leB s.ax.bB (s.aM.length:Int)&&ltB (s.ax.aw.length:Int) 8)=true:=by rw[leB_t.2 hn,ltB_t.2 oaa];rfl
    have he:=vc h (n:=(x.bg.length:Int)) oaa
    have hsl:=h.sp.sl
    have hnn:=h.sp.win.n
    rw[c1] at hx
    simp only[hcc,hx,TT h.sp h.mo (n:=(x.bg.length:Int)) oaa,UO he.sp.win he.sp.q (n:=(x.bg.length:Int)) oaa,au]
    cases hq:ltB 0 (kR (dq s a (x.bg.length:Int)).1 (x.bg.length:Int))
    .obtain⟨q,hk⟩:=nr s a (x.bg.length:Int)
     have e2:qX (dq s a (x.bg.length:Int)).1=some x:=by rw[hk];exact e
     have hg:=CG he e2 hq
     have hw:(dq s a (x.bg.length:Int)).1.ax=s.ax:=by rw[hk]
     have hww:=he.sp.win
     have d1:(dq s a (x.bg.length:Int)).1.aV=s0.aV:=by rw[hk];exact c2
     have d2:(dq s a (x.bg.length:Int)).1.ag=s0.ag:=by rw[hk];exact c3
     have d3:(dq s a (x.bg.length:Int)).1.aT=s0.aT:=by rw[hk];exact c4
     simp only[ZN hww (b:=x.bg) (by rw[hw];omega) (by rw[hw];omega) hb,zt,OS (x:=⟨(dq s a (x.bg.length:Int)).1.ax.bB,x.bg⟩) (by rw[hw];simp only;omega) (by rw[hw];simp only;omega) (h.b1 x hm) (by simp only;omega),<-d1,<-d2,<-d3,cB (by_:=64) (n:=(r++[iJ (dq s a (x.bg.length:Int)).1.aV (dq s a (x.bg.length:Int)).1.ag (dq s a (x.bg.length:Int)).1.aT ⟨(dq s a (x.bg.length:Int)).1.ax.bB,x.bg⟩]).length) oaa (by simp;omega),bK (n:=(2:Int)-((k+1:Nat):Int)+1) oaa,au]
     rw[show(2:Int)-((k+1:Nat):Int)+1=2-(k:Nat) by omega]
     exact Hz s0 k fu _ _ _ _ hg (by simp only;rw[hk];exact c1) d1 d2 d3 oaa oaa (by simp;omega)
    rfl
theorem Sl (h:SG s a) (hs:s.bj=1):Gz s a=some ⟨(gx 2 s a []).1,(gx 2 s a []).2.1,[],(gx 2 s a []).2.2⟩:=by
 have:=Hy 2 FU s a [] h oaa (by have:=gW;omega) (by simp)
 rw[show(2:Int)-((2:Nat):Int)=0 by omega] at this
 simp only[Gz,wZ h.sp.ok,C8 h.mo.acc.ok,D0 h.sp.ok,(vI h.sp.ok).2 h.sp,eqB_t.2 hs,this,au]
theorem Sm (h:SG s a) (hs:s.bj=1):zi s a=some ⟨(gx 2 s a []).1,(gx 2 s a []).2.1,[],(gx 2 s a []).2.2⟩:=by
 have:=Hz s 2 FU s a [] [] h rfl rfl rfl rfl oaa (by have:=gW;omega) (by simp)
 rw[show(2:Int)-((2:Nat):Int)=0 by omega] at this
 have hz:({dw with aZ:=s,eL:=a}:bZ)=⟨s,a,[],[]⟩:=rfl
 simp only[zi,s8,zp,qS h.sp.ok,FG h.mo.acc.ok,D1 h.sp.ok,(vI h.sp.ok).2 h.sp,eqB_t.2 hs,hz,this,au]
theorem Nf:∀(k:Nat) (s:ah) (a:am) (r:List aA),SG s a->SG (gx k s a r).1 (gx k s a r).2.1
 |0,s,a,r,h=>h
 |k+1,s,a,r,h=>by
  rw[gx]
  cases e:qX s with
  |none=>exact h
  |some x=>
   obtain⟨hm,hx,_,hn,hl,hb⟩:=nh h.sp e
   have he:=vc h (n:=(x.bg.length:Int)) oaa
   simp only
   cases hq:ltB 0 (kR (dq s a (x.bg.length:Int)).1 (x.bg.length:Int))
   .obtain⟨q,hk⟩:=nr s a (x.bg.length:Int)
    exact Nf k _ _ _ (CG he (by rw[hk];exact e) hq)
   exact he
theorem Gj (xs:List α):(xs.filter λ_=>true)=xs:=List.filter_eq_self.2 (by simp)
def xW (s:ah):List aA:=bif eqB s.bj 1 then(s.ax.aw.take 2).map λx=>iJ s.aV s.ag s.aT x else []
theorem Pd (h:WOK s.ax) (hx:x∈s.ax.aw):1<=x.cV/\x.cV<s.ax.bB/\x.cV<=100000/\x.bg.length<=60:=by
 obtain⟨k,hk⟩:=aar hx
 have hl:=(aab.1 hk).1
 have:=h.u k x hk
 have h1:=h.f
 have h2:=h.n
 omega
theorem Wq (h:SG s a):tD s=some (xW s):=by
 simp only[tD,xW]
 cases eqB s.bj 1
 .rfl
 have hm:kY 2 (s.ax.aw.length:Int)=(((min 2 s.ax.aw.length:Nat)):Int):=by unfold kY;split<;>omega
 have hs:eT s.ax.aw 0 (((min 2 s.ax.aw.length:Nat)):Int)=true:=by simp[eT];omega
 have ht:s.ax.aw.take (min 2 s.ax.aw.length)=s.ax.aw.take 2:=by
  rcases Nat.le_total 2 s.ax.aw.length with h|h
  .rw[Nat.min_eq_left h]
  rw[Nat.min_eq_right h,acA,acj h]
 have hrun:=eK (step:=lj s (((min 2 s.ax.aw.length:Nat)):Int)) (s.ax.aw.take 2) (λi r=>((i:Int),r)) (sC 64 (λ_=>true) (λx=>iJ s.aV s.ag s.aT x)) some (by simp;omega)
  (λi x r hx hi=>by
   have hxm:x∈s.ax.aw:=aaC (aac hx)
   have hu:=Pd h.sp.win hxm
   simp only[lj,abY,ht,cy hi,bu,hx,Vz (x:=x) oaa oaa (h.b2 x hxm) oaa,nN (show i<9223372036854775807 by simp at hi;omega),sC,au]
   cases c8 64 (r++[iJ s.aV s.ag s.aT x]).length<;>rfl) (λr=>by simp[lj,ht]) ([]:List aA)
 rw[tu oaa _ _ _ _ (by simp;omega)] at hrun
 have hrun:iter (lj s (((min 2 s.ax.aw.length:Nat)):Int)) FU (0,[])=_:=hrun
 simp only[UA,hm,hs,hrun,aa9,Gj,au]
theorem Wr (h:SG s a):nD s=some (xW s):=by
 have key:∀(n:Nat) (fu k:Nat) (r:List aA),n=(s.ax.aw.take 2).length-k->k<=(s.ax.aw.take 2).length->n<fu->r.length+n<=100->eqB s.bj 1=true->
  iter (jG s) fu ((k:Int),r)=some (r++((s.ax.aw.take 2).drop k).map λx=>iJ s.aV s.ag s.aT x):=by
  intro n
  have hle:(s.ax.aw.take 2).length=min 2 s.ax.aw.length:=by simp
  induction n with
  |zero=>
   intro fu k r hn hk hf hr hs
   cases fu with
   |zero=>omega
   |succ fu=>
    have hk':k=(s.ax.aw.take 2).length:=by omega
    have hc:(bif ltB (k:Int) (s.ax.aw.length:Int) then(bif ltB (k:Int) 2 then some (eqB s.bj 1) else some false) else some false)=some false:=by
     by_cases h2:k<s.ax.aw.length
     .rw[cy h2,ltB_f.2 (show(2:Int)<=k by omega)];rfl
     rw[ltB_f.2 (show(s.ax.aw.length:Int)<=k by omega)];rfl
    rw[iter]
    simp only[jG,hc,au]
    rw[hk',acw];simp
  |succ n ih=>
   intro fu k r hn hk hf hr hs
   cases fu with
   |zero=>omega
   |succ fu=>
    have hlt:k<(s.ax.aw.take 2).length:=by omega
    have hc:(bif ltB (k:Int) (s.ax.aw.length:Int) then(bif ltB (k:Int) 2 then some (eqB s.bj 1) else some false) else some false)=some true:=by
     rw[cy (show k<s.ax.aw.length by omega),ltB_t.2 (show(k:Int)<2 by omega),hs];rfl
    obtain⟨x,hx⟩:∃x,s.ax.aw[k]?=some x:=⟨_,aaa (show k<s.ax.aw.length by omega)⟩
    have hxm:=aac hx
    have hu:=Pd h.sp.win hxm
    have hd:(s.ax.aw.take 2).drop k=x::(s.ax.aw.take 2).drop (k+1):=by
     rw[aaY hlt];congr 1
     have:=(aab.1 hx).2
     simpa using this
    rw[iter]
    simp only[jG,hc,bu,hx,zt,OS (x:=x) oaa oaa (h.b2 x hxm) oaa,cB (by_:=64) (n:=(r++[iJ s.aV s.ag s.aT x]).length) oaa (by simp;omega),WRs (k:=k),au]
    rw[ih fu (k+1) _ oaa oaa oaa (by simp;omega) hs,hd]
    simp
 rw[nD,xW]
 cases hs:eqB s.bj 1
 .have h0:iter (jG s) FU (0,[])=some []:=by
   have:FU=(FU-1)+1:=by have:=gW;omega
   rw[this,iter]
   have hc:(bif ltB 0 (s.ax.aw.length:Int) then(bif ltB 0 2 then some (eqB s.bj 1) else some false) else some false)=some false:=by
    rw[hs];cases ltB 0 (s.ax.aw.length:Int)<;>cases ltB 0 2<;>rfl
   simp only[jG,hc,au]
  rw[h0];rfl
 have:=key _ FU 0 [] rfl oaa (by have:=gW;simp;omega) (by simp;omega) hs
 rw[show((0:Nat):Int)=0 from rfl] at this
 rw[this];simp
def nQ (m:aS) (a:Int):List Int:=(m.aX.zipIdx.filter λy=>eqB y.1.fJ a).map λy=>(y.2:Int)
def SZ (m:aS):List Int:=(hV m.aX.length).map λ(k:Nat)=>(k:Int)
def Eo (m:aS) (a t:Int):List Int:=bif eqB t 1&&ltB 0 (((nQ m a).length:Nat):Int) then nQ m a else bif inR t 1 4 then SZ m else []
theorem Q6 {xs:List α} {y:α×Nat} (h:xs.zipIdx[k]?=some y):xs[k]?=some y.1/\y.2=k:=by
 rw[acy] at h
 cases hx:xs[k]? with
 |none=>rw[hx] at h;cases h
 |some x=>rw[hx] at h;simp at h;subst h;exact⟨rfl,rfl⟩
theorem Tf (h:m.aX.length<=1000) (a:Int):rE m a=some (nQ m a):=by
 have hrun:=eK (step:=kn m a) m.aX.zipIdx (λi r=>((i:Int),r)) (sC 8 (λy=>eqB y.1.fJ a) (λy=>(y.2:Int))) some (by simp;omega)
  (λi y r hy hi=>by
   obtain⟨hx,e⟩:=Q6 hy
   have hi:i<m.aX.length:=by simpa using hi
   simp only[kn,cy hi,bu,hx,WRs (k:=i),sC,e,au]
   cases eqB y.1.fJ a
   .rfl
   cases c8 8 (r++[(i:Int)]).length<;>rfl) (λr=>by simp[kn]) ([]:List Int)
 rw[tu oaa _ _ _ _ (by simp;omega)] at hrun
 rw[rE,show iter (kn m a) FU (0,[])=_ from hrun]
 rfl
theorem YD (h:m.aX.length<=1000) (a:Int):BV m a=some (nQ m a):=Tf h a
theorem Mk (n:Nat):∀(v:List Int),v.length=n->(∀k:Nat,k<n->v[k]?=some (k:Int))->v=(hV n).map λ(k:Nat)=>(k:Int):=by
 intro v hv h
 apply ab8
 intro k
 by_cases hk:k<n
 .rw[h k hk];simp[hk]
 rw[acb oaa,acb (by simp;omega)]
theorem X5 {L:Int×List Int->Option (cq (Int×List Int) (List Int))} (n:Nat) (hn:n<=1000)
 (hL:∀(k:Nat) (v:List Int),L ((k:Int),v)=bif ltB (k:Int) (n:Int) then(abU (ix v (k:Int)) λ_=>some (.next (WR ((k:Int)+1),v.set ((k:Int)).toNat (k:Int)))) else some (.done v)):
 iter L FU (0,aag n 0)=some ((hV n).map λ(k:Nat)=>(k:Int)):=by
 have:Wp (iter L FU (0,aag n 0)) (λr=>r=(hV n).map λ(k:Nat)=>(k:Int)):=by
  refine Wp.iterF (λs=>∃i:Nat,i<=n/\s.1=(i:Int)/\s.2.length=n/\∀j:Nat,j<i->s.2[j]?=some (j:Int)) (λs=>((n:Int)-s.1).toNat) ⟨0,by omega,rfl,by simp,by omega⟩ (by simp;omega) ?_
  rintro⟨v2,v3⟩ ⟨i,hi,rfl,h3,h4⟩
  simp only at h3 h4
  rw[hL]
  refine Wp.cond (λhlt=>?_) (λhlt=>?_)
  .have hlt:=lP hlt
   refine Wp.ix oaa oaa λx hx hxi=>Wp.some ?_
   rw[bK oaa]
   refine⟨⟨i+1,by omega,by simp,by simpa using h3,λj hj=>?_⟩,by simp only;omega⟩
   simp only[abY]
   rw[abJ]
   by_cases e:i=j
   .subst e;rw[if_pos rfl,if_pos oaa]
   rw[if_neg e];exact h4 j oaa
  have hlt:=px hlt
  exact Wp.some (Mk n v3 h3 λk hk=>h4 k oaa)
 obtain⟨r,hr,rfl⟩:=this.ex
 exact hr
theorem Xo (h:m.aX.length<=1000) (a t:Int):wm m a t=some (Eo m a t):=by
 have hmk:qk 8 (m.aX.length:Int) (m.aX.length:Int)=true:=g7 oaa oaa
 have hr1:=X5 (L:=qE m) m.aX.length h (λk v=>by simp only[qE,acF,abY])
 have hr2:=X5 (L:=qF m) m.aX.length h (λk v=>by simp only[qF,acF,abY])
 simp only[wm,gv,YD h,hmk,abY,hr1,hr2,Eo,SZ,au]
 cases h1:eqB t 1
 .cases inR t 1 4<;>rfl
 have h1:=mc h1
 subst h1
 rw[show inR 1 1 4=true from by simp[inR,leB]]
 cases ltB 0 (((nQ m a).length:Nat):Int)<;>rfl
theorem Xp (h:m.aX.length<=1000) (a t:Int):rH m a t=some (Eo m a t):=by
 simp only[rH,Tf h,abX,Eo,SZ]
 cases hb:inR t 1 4
 .have h0:iter (hO m t) FU (0,[])=some []:=by
   have:FU=(FU-1)+1:=by have:=gW;omega
   rw[this,iter]
   simp only[hO,fS,hb,abX]
   cases ltB 0 (m.aX.length:Int)<;>rfl
  rw[h0]
  have h1:eqB t 1=false:=eqB_f.2 λe=>by subst e;simp[inR,leB] at hb
  rw[h1];rfl
 have hrun:=eK (step:=hO m t) m.aX.zipIdx (λi r=>((i:Int),r)) (sC 8 (λ_=>true) (λy=>(y.2:Int))) some (by simp;omega)
  (λi y r hy hi=>by
   obtain⟨hx,e⟩:=Q6 hy
   have hi:i<m.aX.length:=by simpa using hi
   simp only[hO,cy hi,fS,hb,WRs (k:=i),sC,e,au]
   cases c8 8 (r++[(i:Int)]).length<;>rfl) (λr=>by simp[hO]) ([]:List Int)
 rw[tu oaa _ _ _ _ (by simp;omega)] at hrun
 have hall:(m.aX.zipIdx.filter λ_=>true).map (λy:fr×Nat=>(y.2:Int))=(hV m.aX.length).map λ(k:Nat)=>(k:Int):=by
  rw[Gj]
  refine Mk _ _ (by simp) λk hk=>?_
  simp[acy,aaa hk]
 rw[show iter (hO m t) FU (0,[])=_ from hrun,hall]
 cases eqB t 1
 .rfl
 cases ltB 0 (((nQ m a).length:Nat):Int)<;>rfl
def xN (p:cR) (m:aS):cR×List Int:=
 bif ltB 0 p.eU then({p with eU:=p.eU-1},[]) else
  let t:=bif ltB p.eQ 4 then p.eQ+1 else 1
  (⟨p.fJ,t,3⟩,Eo m p.fJ t)
structure POK (p:cR):Prop where
 a:0<=p.eQ/\p.eQ<=4
 w:0<=p.eU/\p.eU<=3
theorem XR (hp:POK p) (h:m.aX.length<=1000):ud p m=some (xN p m):=by
 have h1:=hp.a
 have h2:=hp.w
 simp only[ud,Xp h,abX,xN,bK (n:=p.eU-1) oaa,bK (n:=p.eQ+1) oaa,zL]
theorem XQ (hp:POK p) (h:m.aX.length<=1000):yt p m=some (xN p m):=by
 have h1:=hp.a
 have h2:=hp.w
 simp only[yt,Xo h,abX,xN,bK (n:=p.eU-1) oaa,bK (n:=p.eQ+1) oaa,zL]
def ma (m:aS) (c:Int):Int:=bif eO m c then(match m.aX[c.toNat]? with|some x=>x.fJ|none=>0) else 0
def ML (c:Int):aD:={dQ with a8:=7,be:=c}
def Hl (s:ah) (a:am) (m:aS):bZ:=
 let r:=xN {s.ge with fJ:=ma m s.be} m
 ⟨{s with ge:=r.1},a,r.2.map ML,[]⟩
theorem Jl {L:Int×List aD->Option (cq (Int×List aD) (List aD))} (xs:List Int) (hl:xs.length<=10000)
 (hL:∀(v:Int) (r:List aD),L (v,r)=bif ltB v (xs.length:Int) then(abU (ix xs v) λx10=>bif c8 88 (r++[{dQ with a8:=7,be:=x10}]).length then(some (.next (WR (v+1),(r++[{dQ with a8:=7,be:=x10}])))) else none) else(some (.done r))):
 iter L FU (0,[])=some (xs.map ML):=by
 have hrun:=eK (step:=L) xs (λi r=>((i:Int),r)) (sC 88 (λ_=>true) ML) some oaa
  (λi x r hx hi=>by
   simp only[hL,cy hi,bu,hx,WRs (k:=i),sC,ML,au]
   cases c8 88 (r++[{dQ with a8:=7,be:=x}]).length<;>rfl) (λr=>by simp[hL]) ([]:List aD)
 rw[tu oaa _ _ _ _ (by simp;omega)] at hrun
 refine Eq.trans (show iter L FU (0,[])=_ from hrun) (by rw[Gj,aa9])
theorem D9 (h:m.aX.length<=1000):(xN p m).2.length<=1000:=by
 have hc:(nQ m p.fJ).length<=1000:=by
  simp only[nQ,aaz]
  have:=acq (λy:fr×Nat=>eqB y.1.fJ p.fJ) m.aX.zipIdx
  simp at this;omega
 rw[xN];cases ltB 0 p.eU
 .simp only[cond_false,Eo]
  cases eqB (bif ltB p.eQ 4 then p.eQ+1 else 1) 1&&ltB 0 (((nQ m p.fJ).length:Nat):Int)
  .cases inR (bif ltB p.eQ 4 then p.eQ+1 else 1) 1 4<;>simp[SZ];omega
  exact hc
 simp
theorem Zy (h:SP s) (ha:p4 a) (hp:POK s.ge) (hm:1<=m.aX.length/\m.aX.length<=1000):zr s a m=some (Hl s a m):=by
 have hz:({dw with aZ:=s,eL:=a}:bZ)=⟨s,a,[],[]⟩:=rfl
 have hin:(bif eO m s.be then(abU (ix m.aX s.be) λx4=>some x4.fJ) else some 0)=some (ma m s.be):=by
  rw[ma]
  cases hc:eO m s.be
  .rfl
  obtain⟨d,_,h1,h2⟩:=BH hc
  rw[h1,h2];rfl
 have hpp:POK {s.ge with fJ:=ma m s.be}:=⟨hp.a,hp.w⟩
 have hr:=Jl (L:=EE (xN {s.ge with fJ:=ma m s.be} m)) _ (by have:=D9 (p:={s.ge with fJ:=ma m s.be}) hm.2;omega) (λv r=>rfl)
 simp only[zr,s8,qS h.ok,FG ha.ok,fS,abX,bK (n:=(m.aX.length:Int)-1) oaa,hz]
 rw[show inR s.be 0 ((m.aX.length:Int)-1)=eO m s.be from rfl,hin]
 simp only[abX,XR hpp hm.2,hr,Hl]
theorem Zx (hp:POK s.ge) (hm:1<=m.aX.length/\m.aX.length<=1000):yE s a m=some (Hl s a m):=by
 have hin:(bif eO m s.be then(abU (Kj m s.be) λr3=>some r3) else some 0)=some (ma m s.be):=by
  rw[ma]
  cases hc:eO m s.be
  .rfl
  obtain⟨d,_,h1,h2⟩:=BH hc
  simp only[Kj,wc (show m.aX.length<=1048576 by omega),hc,h1,h2,au]
 have hpp:POK {s.ge with fJ:=ma m s.be}:=⟨hp.a,hp.w⟩
 have hr:=Jl (L:=yF (xN {s.ge with fJ:=ma m s.be} m)) _ (by have:=D9 (p:={s.ge with fJ:=ma m s.be}) hm.2;omega) (λv r=>rfl)
 simp only[yE,wc (show m.aX.length<=1048576 by omega),hin,abX,XQ hpp hm.2,hr,Hl]
def fQ (s:ah) (a:am):am×cX:=bif leB s.gF.eg s.bT.ev then lx a s.bT else(a,s.bT)
def EJ (s:ah):Bool:=ltB 0 (s.ax.aw.length:Int)
def iZ (s:ah):Int:=bif EJ s then kY 5 (s.d6+1) else 0
def lY (s:ah):List aA×Int:=bif EJ s&&ltB 0 s.dP then([],s.dP-1) else bif EJ s then(xW s,3) else([],s.dP)
def M9 (s:ah) (a:am) (m:aS):bZ:=
 let g:=fQ s a
 let t:=gx 2 {s with d6:=iZ s,dP:=(lY s).2,bT:=g.2} g.1 []
 ⟨t.1,t.2.1,[],(lY s).1++t.2.2⟩
def nE (s:ah) (a:am) (m:aS):bZ:=
 bif !eqB s.bj 1 then⟨s,a,[],[]⟩ else bif ltB 4 (iZ s) then Hl {s with d6:=iZ s,bT:=(fQ s a).2} (fQ s a).1 m else M9 s a m
theorem Gp (h:SG s a):MOK (fQ s a).1 (fQ s a).2/\(fQ s a).2.cG-(fQ s a).2.ev=s.bT.cG-s.bT.ev/\(fQ s a).2.aG=s.bT.aG/\(fQ s a).1.eD+(fQ s a).2.ev=a.eD+s.bT.ev/\(fQ s a).1.fw=a.fw/\(fQ s a).1.bJ=a.bJ:=by
 rw[fQ]
 cases leB s.gF.eg s.bT.ev
 .exact⟨h.mo,rfl,rfl,rfl,rfl,rfl⟩
 obtain⟨h1,h2,h3,h4⟩:=R8 h.mo
 simp only[cond_true]
 exact⟨h1,by simp[lx],rfl,by rw[h2];simp[lx],h3,h4⟩
theorem yV (h:SP s):0<=iZ s/\iZ s<=5:=by
 have:=h.qu
 rw[iZ];cases EJ s
 .simp
 simp only[cond_true,kY];split<;>omega
theorem yX (h:SP s):0<=(lY s).2/\(lY s).2<=3:=by
 have:=h.rt
 rw[lY];cases EJ s
 .exact this
 cases hb:ltB 0 s.dP
 .simp
 have:=lP hb
 simp;omega
theorem SG.upd (h:SG s a) {q r:Int} (hq:0<=q/\q<=5) (hr:0<=r/\r<=3):SG {s with d6:=q,dP:=r,bT:=(fQ s a).2} (fQ s a).1:=by
 obtain⟨h1,h2,_⟩:=Gp h
 have hp:=h.sp.pd
 exact⟨{h.sp with q:=h1.quo,qu:=hq,rt:=hr,pd:=by simp only;omega},h.b1,h.b2,h1⟩
theorem Q9 (s:ah):(xW s).length<=2:=by
 rw[xW];cases eqB s.bj 1<;>simp;omega
theorem DF (s:ah):(lY s).1.length<=2:=by
 have:=Q9 s
 rw[lY];cases EJ s<;>cases ltB 0 s.dP<;>simp<;>omega
theorem z2:∀(k:Nat) (s:ah) (a:am) (r:List aA),(gx k s a r).2.2.length<=r.length+k
 |0,s,a,r=>by simp[gx]
 |k+1,s,a,r=>by
  rw[gx]
  cases qX s with
  |none=>simp
  |some x=>
   simp only
   cases ltB 0 (kR (dq s a (x.bg.length:Int)).1 (x.bg.length:Int))
   .have:=z2 k {(dq s a (x.bg.length:Int)).1 with ax:=pG (dq s a (x.bg.length:Int)).1.ax x.bg} (dq s a (x.bg.length:Int)).2 (r++[iJ (dq s a (x.bg.length:Int)).1.aV (dq s a (x.bg.length:Int)).1.ag (dq s a (x.bg.length:Int)).1.aT ⟨(dq s a (x.bg.length:Int)).1.ax.bB,x.bg⟩])
    simp only[aav,acr] at this
    simp only[cond_false];omega
   simp only[cond_true];omega
theorem XT (h:SG s a) (hm:1<=m.aX.length/\m.aX.length<=1000) (hp:POK s.ge):rL s a m=some (nE s a m):=by
 have hz:({dw with aZ:=s,eL:=a}:bZ)=⟨s,a,[],[]⟩:=rfl
 have hqu:=h.sp.qu
 have hrt:=h.sp.rt
 simp only[rL,zp,s8,qS h.sp.ok,FG h.mo.acc.ok,D1 h.sp.ok,(vI h.sp.ok).2 h.sp,abX,hz,nE]
 cases hs:eqB s.bj 1
 .rfl
 have hst:=mc hs
 have hq:=yV h.sp
 have hr:=yX h.sp
 have hqq:∀(k:Int->Option bZ),(abU (bif ltB 0 (s.ax.aw.length:Int) then(abU (Hk 5 (WR (s.d6+1))) λr9=>some r9) else some 0) k)=k (iZ s):=λk=>by
  rw[iZ,EJ,bK (n:=s.d6+1) oaa,MC]
  cases ltB 0 (s.ax.aw.length:Int)<;>rfl
 have hrr:∀(u:cX) (k:List aA×Int->Option bZ),SG {s with d6:=iZ s,dP:=3,bT:=u} (fQ s a).1->
  (abU (bif ltB 0 (s.ax.aw.length:Int) then some (ltB 0 s.dP) else some false) λ(v11:Bool)=>abU (bif v11 then(some (([]:List aA),WR (s.dP-1))) else(abU (bif ltB 0 (s.ax.aw.length:Int) then(abU (nD {s with d6:=iZ s,dP:=3,bT:=u}) λr16=>some (r16,3)) else(some (([]:List aA),s.dP))) λx=>some (x.1,x.2))) k)=k ((lY s).1,(lY s).2):=λu k hu=>by
  rw[lY,EJ,bK (n:=s.dP-1) oaa,Wr hu]
  cases ltB 0 (s.ax.aw.length:Int)<;>cases ltB 0 s.dP<;>rfl
 have hl:c8 64 ((lY s).1++(gx 2 {s with d6:=iZ s,dP:=(lY s).2,bT:=(fQ s a).2} (fQ s a).1 []).2.2).length=true:=by
  have h1:=DF s
  have h2:=z2 2 {s with d6:=iZ s,dP:=(lY s).2,bT:=(fQ s a).2} (fQ s a).1 []
  simp only[ab1] at h2
  exact cB oaa (by simp;omega)
 have hu:=h.upd hq (show(0:Int)<=3/\(3:Int)<=3 by omega)
 have hv:=h.upd hq hr
 have hw:=h.upd hq h.sp.rt
 have hpp:POK ({s with d6:=iZ s,bT:=(fQ s a).2}:ah).ge:=hp
 have e1:=Zy (s:={s with d6:=iZ s,bT:=(fQ s a).2}) hw.sp hw.mo.acc hpp hm
 have e2:=Sm hv hst
 rw[fQ] at hu e1 e2 hl
 simp only[au]
 rw[M9,fQ]
 cases hg:leB s.gF.eg s.bT.ev
 .rw[hg] at hu e1 e2 hl
  simp only[cond_false] at hu e1 e2 hl ⊢
  have hu':=hrr s.bT
  rw[fQ,hg] at hu'
  rw[hqq]
  cases ltB 4 (iZ s)
  .simp only[cond_false]
   rw[hu' _ hu]
   simp only[e2,hl,au]
  simp only[e1,au]
 rw[hg] at hu e1 e2 hl
 simp only[cond_true] at hu e1 e2 hl ⊢
 have hu':=hrr (lx a s.bT).2
 rw[fQ,hg] at hu'
 simp only[Vo h.mo,abX]
 rw[hqq]
 cases ltB 4 (iZ s)
 .simp only[cond_false]
  rw[hu' _ hu]
  simp only[e2,hl,au]
 simp only[e1,au]
theorem RA (x y:Int):kY x y=kY y x:=by unfold kY;split<;>split<;>omega
theorem XS (h:SG s a) (hm:1<=m.aX.length/\m.aX.length<=1000) (hp:POK s.ge):ww s a m=some (nE s a m):=by
 have hz:({dw with aZ:=s,eL:=a}:bZ)=⟨s,a,[],[]⟩:=rfl
 have hqu:=h.sp.qu
 have hrt:=h.sp.rt
 simp only[ww,wZ h.sp.ok,C8 h.mo.acc.ok,D0 h.sp.ok,(vI h.sp.ok).2 h.sp,hz,nE,au]
 cases hs:eqB s.bj 1
 .rfl
 have hst:=mc hs
 have hq:=yV h.sp
 have hr:=yX h.sp
 have hu:=h.upd hq (show(0:Int)<=3/\(3:Int)<=3 by omega)
 have hv:=h.upd hq hr
 have hgr:(bif leB s.gF.eg s.bT.ev then(abU (rm a s.bT) λr14=>some ({s with bT:=r14.2},r14.1)) else some (s,a))=some ({s with bT:=(fQ s a).2},(fQ s a).1):=by
  rw[fQ,Vn h.mo];cases leB s.gF.eg s.bT.ev<;>rfl
 have hqq:(bif ltB 0 (s.ax.aw.length:Int) then(abU (Uf (WR (s.d6+1)) 5) λr9=>some r9) else some 0)=some (iZ s):=by
  rw[iZ,EJ,bK (n:=s.d6+1) oaa,UA,RA]
  cases ltB 0 (s.ax.aw.length:Int)<;>rfl
 have hl:c8 64 ((lY s).1++(gx 2 {s with d6:=iZ s,dP:=(lY s).2,bT:=(fQ s a).2} (fQ s a).1 []).2.2).length=true:=by
  have h1:=DF s
  have h2:=z2 2 {s with d6:=iZ s,dP:=(lY s).2,bT:=(fQ s a).2} (fQ s a).1 []
  simp only[ab1] at h2
  exact cB oaa (by simp;omega)
 have hpp:POK ({s with d6:=iZ s,bT:=(fQ s a).2}:ah).ge:=hp
 have e1:=Zx (s:={s with d6:=iZ s,bT:=(fQ s a).2}) (a:=(fQ s a).1) hpp hm
 have e2:=Sl hv hst
 simp only[hgr,hqq,au]
 cases ltB 4 (iZ s)
 .simp only[cond_false,M9]
  have hrr2:∀(k:List aA×Int->Option bZ),(abU (bif ltB 0 (s.ax.aw.length:Int) then some (ltB 0 s.dP) else some false) λ(v11:Bool)=>abU (bif v11 then(some (([]:List aA),WR (s.dP-1))) else(abU (bif ltB 0 (s.ax.aw.length:Int) then(abU (tD {s with d6:=iZ s,dP:=3,bT:=(fQ s a).2}) λr16=>some (r16,3)) else(some (([]:List aA),s.dP))) λx=>some (x.1,x.2))) k)=k (lY s):=λk=>by
   rw[lY,EJ,bK (n:=s.dP-1) oaa,Wq hu]
   cases ltB 0 (s.ax.aw.length:Int)<;>cases ltB 0 s.dP<;>rfl
  rw[hrr2]
  simp only[e2,hl,au]
 simp only[e1,au]
 rfl
structure RP (r:aO):Prop where
 ok:eM r
 v:pa r=true
 b1:∀x∈r.aC,okB x.bg
 b2:∀p∈r.bi,okB p.bg
structure DP (d:aJ):Prop where
 card:ti d.df=true
 st:0<=d.bj/\d.bj<=3
 ce:0<=d.be/\d.be<=5
 gn:0<=d.ag/\d.ag<=999999
 ep:0<=d.aT/\d.aT<=999999
 rk:0<=d.aV/\d.aV<=2147483646
 k:2<=d.bj->mI d.aV=true
 wt:0<=d.eU/\d.eU<=3
 rc:RP d.bV
theorem DP.ok {d:aJ} (h:DP d):eb d:=h.rc.ok
theorem DP.v {d:aJ} (h:DP d):kW d=true:=by
 have:=h.st
 simp only[kW,v0,bO]
 refine⟨h.card,h.st,h.ce,h.gn,h.ep,h.rk,?_,h.wt,h.rc.v⟩
 cases e:inR d.bj 2 3
 .rfl
 rw[bO] at e;rw[h.k e.1];rfl
theorem DP.of {d:aJ} (h:kW d=true) (ok:eb d) (b1:∀x∈d.bV.aC,okB x.bg) (b2:∀p∈d.bV.bi,okB p.bg):DP d:=by
 simp only[kW,v0,bO] at h
 obtain⟨h1,h2,h3,h4,h5,h6,h7,h8,h9⟩:=h
 refine⟨h1,h2,h3,h4,h5,h6,λe=>?_,h8,⟨ok,h9,b1,b2⟩⟩
 rw[bO.2 ⟨e,h2.2⟩] at h7;simpa using h7
theorem F7 {d:aJ} (h:DP d):DP (qW d).bk:=by
 have hw:=h.wt
 rw[qW]
 cases hb:ltB 0 d.eU
 .cases eqB d.bj 1
  .cases eqB d.bj 2&&!d.cj
   .exact h
   exact {h with wt:=⟨by simp,by simp⟩}
  exact {h with wt:=⟨by simp,by simp⟩}
 have:=lP hb
 exact {h with wt:=⟨by simp only[cond_true];omega,by simp only[cond_true];omega⟩}
theorem YM {d:aJ} (h:DP d):DP (dOn d).bk:=by
 rw[dOn]
 cases eqB d.bj 0
 .exact h
 exact {h with st:=⟨by simp,by simp⟩,wt:=⟨by simp,by simp⟩,k:=λe=>by simp at e}
theorem Kb {d:aJ} (h:DP d):DP (va d).bk:={h with wt:=⟨by simp[va],by simp[va]⟩}
theorem LY {d:aJ} (h:DP d) (c:Int):DP (sr d c).bk:=by
 have he:=h.ep
 rw[sr]
 cases h1:eqB c d.be||!inR c 0 5
 .simp only[aao,ab7] at h1
  have hc:=bO.1 h1.2
  cases h2:eqB d.bj 2&&ltB d.aT 999999
  .exact {h with ce:=hc}
  rw[v0] at h2
  have:=lP h2.2
  exact Kb {h with ce:=hc,ep:=⟨by simp only;omega,by simp only;omega⟩}
 exact h
theorem TA {d:aJ} (h:DP d):DP (vb d):=by
 rw[vb]
 cases e:eqB d.bj 2
 .exact h
 have e:=mc e
 exact {h with st:=⟨by simp,by simp⟩,k:=λ_=>h.k (by omega)}
theorem Q2 {k r q:Int} (h0:0<=q) (h1:q<=999999):1<=(vec k r q).eP/\(vec k r q).eP<=2147483646:=by
 rw[vec,bO.2 ⟨h0,h1⟩];exact W8 _ _
theorem zX {m:aD} (h:ki m=true):(1<=m.a8/\m.a8<=8)/\(0<=m.be/\m.be<=5)/\(0<=m.ag/\m.ag<=999999)/\(0<=m.aT/\m.aT<=999999)/\0<=m.bL/\m.bL<=1000000000000:=by
 simp only[ki,v0,bO] at h;exact h
theorem WC {d:aJ} (h:DP d) {m:aD} (hm:ki m=true) (h1:d.bj=1):DP (F6 d m).bk:=by
 obtain⟨_,_,hg,_⟩:=zX hm
 have hu:=Pe d.df.eP m.bW.er m.bW.fY
 have hk:=Q2 (k:=d.df.eP) (r:=m.bW.er) hu.1 hu.2
 rw[F6]
 cases eqB (jj d.df.eP d.df.dm m.bW) 0
 .exact h
 refine {h with card:=?_,gn:=hg,rk:=⟨by simp only[cond_true];omega,by simp only[cond_true];omega⟩,k:=λe=>by simp only[cond_true] at e;omega}
 have hc:=h.card
 simp only[ti,v0] at hc ⊢
 exact⟨hc.1,hc.2.1,bO.2 hu⟩
theorem WG {d:aJ} (h:DP d) (m:aD):DP (wg d m).bk:=by
 have he:=h.ep
 rw[wg]
 cases h1:!ki m||(!eqB m.be d.be||eqB d.bj 0)
 .have hm:ki m=true:=by revert h1;cases ki m<;>simp
  obtain⟨_,_,hg,hep,_⟩:=zX hm
  simp only[cond_false]
  cases h2:eqB m.a8 2&&eqB d.bj 1
  .simp only[cond_false]
   cases h4:eqB m.a8 4&&(eqB d.bj 1&&(mI d.aV&&(eqB m.ag d.ag&&qT d.aV m)))
   .simp only[cond_false]
    cases h6:eqB m.a8 6&&(eqB d.bj 2&&(eqB m.ag d.ag&&(eqB m.aT d.aT&&qT d.aV m)))
    .simp only[cond_false]
     cases h7:eqB m.a8 7&&(eqB d.bj 3&&ltB d.aT 999999)
     .simp only[cond_false]
      cases h8:eqB m.a8 7&&eqB d.bj 2
      .exact h
      exact Kb h
     simp only[v0] at h7
     have h3:=mc h7.2.1
     have:=lP h7.2.2
     exact Kb {h with st:=⟨by simp,by simp⟩,ep:=⟨by simp only;omega,by simp only;omega⟩,k:=λ_=>h.k (by omega)}
    exact {h with}
   simp only[v0] at h4
   exact {h with st:=⟨by simp,by simp⟩,ep:=hep,k:=λ_=>h4.2.2.1}
  rw[v0] at h2
  exact WC h hm (mc h2.2)
 exact h
theorem F9:∀(xs:List ae) (n:Int) (dl:List bM),∃t d,xs=t++d/\sv xs n dl=⟨n+t.length,d,dl++t.map λx=>⟨x.bg⟩⟩/\(∀(k:Nat) (x:ae),t[k]?=some x->x.cV=n+k)/\((∃y ys,d=y::ys/\(y.cV≠n+t.length\/24<=dl.length+t.length))\/d=[])/\(t≠[]->dl.length+t.length<=24)
 |[],n,dl=>⟨[],[],rfl,by simp[sv],by simp,.inr rfl,by simp⟩
 |x::xs,n,dl=>by
  rw[sv]
  by_cases h:x.cV=n/\dl.length<24
  .rw[if_pos h]
   obtain⟨t,d,e1,e2,e3,e4,e5⟩:=F9 xs (n+1) (dl++[⟨x.bg⟩])
   refine⟨x::t,d,by rw[e1];rfl,?_,λk y hy=>?_,?_,λ_=>?_⟩
   .rw[e2];simp;omega
   .cases k with
    |zero=>simp at hy;subst hy;simp;exact h.1
    |succ k=>have:=e3 k y (by simpa using hy);rw[this];omega
   .rcases e4 with⟨y,ys,e,h4⟩|e
    .left;refine⟨y,ys,e,?_⟩
     simp only[aav,acr,aaj,ab1] at h4 ⊢
     rcases h4 with h4|h4
     .left;omega
     right;omega
    exact .inr e
   simp only[aaj]
   by_cases ht:t=[]
   .subst ht;simp;omega
   have:=e5 ht;simp at this;omega
  rw[if_neg h]
  refine⟨[],x::xs,rfl,by simp,by simp,.inl ⟨x,xs,rfl,?_⟩,by simp⟩
  simp only[ab1]
  by_cases hx:x.cV=n
  .right;have:¬dl.length<24:=λhl=>h ⟨hx,hl⟩;omega
  left;omega
structure RcV (r:aO):Prop where
 n:r.bB=(r.bi.length:Int)+1
 l:r.bi.length<=24
 d:∀p∈r.bi,p.bg.length<=60
 pl:r.aC.length<=8
 pr:∀x∈r.aC,r.bB+1<=x.cV/\x.cV<=r.bB+7/\x.bg.length<=60
 po:r.aC.Pairwise λx y=>x.cV<y.cV
theorem OK:pa r=true↔RcV r:=by
 constructor
 .intro h
  have hl:=rY h
  simp only[pa,v0,Bw,aah,tw,eJ] at h
  obtain⟨h1,h2,h3,h4,h5⟩:=h
  have hp:∀(k:Nat) (x:ae),r.aC[k]?=some x->(r.bB+1<=x.cV/\x.cV<=r.bB+7)/\jE ae.cV r.aC k x=true/\x.bg.length<=60:=λk x hx=>by
   have:=h5 k x hx
   simp only[yS,v0,bO,tw] at this
   rw[bK (n:=r.bB+1) oaa,bK (n:=r.bB+8) oaa,bK (n:=r.bB+8-1) oaa] at this
   exact⟨by omega,this.2⟩
  refine⟨hl.1,hl.2.1,h3,hl.2.2,λx hx=>?_,IL λk x hx=>(hp k x hx).2.1⟩
  obtain⟨k,hk⟩:=aar hx
  have:=hp k x hk
  exact⟨this.1.1,this.1.2,this.2.2⟩
 rintro⟨h1,h2,h3,h4,h5,h6⟩
 simp only[pa,v0,Bw,aah,tw,eJ]
 refine⟨eqB_t.2 (by rw[bK oaa];exact h1),leB_t.2 oaa,h3,leB_t.2 oaa,λk x hx=>?_⟩
 have:=h5 x (aac hx)
 simp only[yS,v0,bO,tw]
 rw[bK (n:=r.bB+1) oaa,bK (n:=r.bB+8) oaa,bK (n:=r.bB+8-1) oaa]
 exact⟨by omega,Fp h6 hx,this.2.2⟩
theorem Pv {α:Type} {key:α->Int}:∀{xs:List α} {a b:Int},(xs.Pairwise λx y=>key x<key y)->(∀x∈xs,a<=key x/\key x<=b)->(xs.length:Int)<=max 0 (b-a+1)
 |[],a,b,_,_=>by simp;omega
 |x::xs,a,b,h,hr=>by
  have hx:=hr x (by simp)
  have ih:=Pv (xs:=xs) (a:=key x+1) (b:=b) (ab2.1 h).2 λy hy=>⟨by have:=(ab2.1 h).1 y hy;omega,(hr y (by simp[hy])).2⟩
  simp only[aaj];omega
theorem X9 {x:ae}:∀{xs:List ae},(xs.Pairwise λa b=>a.cV<b.cV)->∀y∈xs.dropWhile (before x.cV),x.cV<=y.cV
 |[],_,y,hy=>by simp at hy
 |z::xs,h,y,hy=>by
  rw[acG] at hy
  cases hb:before x.cV z<;>rw[hb] at hy
  .have hz:=px hb
   rcases aaf.1 hy with e|hy
   .subst e;exact hz
   have:=(ab2.1 h).1 y hy;omega
  exact X9 (ab2.1 h).2 y hy
theorem VY {α:Type} (p:α->Bool):∀(xs:List α) (y:α),y∈xs.takeWhile p->p y=true
 |[],y,h=>by simp at h
 |x::xs,y,h=>by
  rw[acg] at h
  cases hp:p x<;>rw[hp] at h
  .simp at h
  rcases aaf.1 h with e|h
  .subst e;exact hp
  exact VY p xs y h
theorem tw_lt {q:Int} {xs:List ae}:∀y∈xs.takeWhile (before q),y.cV<q:=λy hy=>lP (show ltB y.cV q=true from VY (before q) xs y hy)
theorem Uj {xs:List ae} (h:xs.Pairwise λa b=>a.cV<b.cV) (hn:∀y∈xs,y.cV≠x.cV):(qc x xs).Pairwise λa b=>a.cV<b.cV:=by
 have e:=acl (p:=before x.cV) (l:=xs)
 rw[<-e,ab3] at h
 obtain⟨h1,h2,h3⟩:=h
 rw[qc,aaT,ab3]
 refine⟨h1,ab2.2 ⟨λy hy=>?_,h2⟩,λa ha b hb=>?_⟩
 .have hm:y∈xs:=acp _ hy
  have:=hn y hm
  have hge:x.cV<=y.cV:=by
   have hs:xs.Pairwise λa b=>a.cV<b.cV:=by rw[<-e,ab3];exact⟨h1,h2,h3⟩
   exact X9 hs y hy
  omega
 rcases aad.1 hb with hb|hb
 .simp at hb;subst hb;exact tw_lt a ha
 exact h3 a ha b hb
theorem B7 {y:ae} {xs:List ae}:y∈qc x xs↔y=x\/y∈xs:=by
 rw[qc]
 constructor
 .intro h
  simp only[aad,ab4] at h
  rcases h with(h|h)|h
  .exact .inr (acE _ h)
  .exact .inl h
  exact .inr (acp _ h)
 rintro(h|h)
 .simp[h]
 rw[<-acl (p:=before x.cV) (l:=xs)] at h
 simp only[aad,ab4] at h ⊢
 rcases h with h|h
 .exact .inl (.inl h)
 exact .inr h
theorem HR (h:RcV r) (hl:yJ r x=false):
 ∃t d,qc x r.aC=t++d/\(∀(k:Nat) (y:ae),t[k]?=some y->y.cV=r.bB+k)/\(nJ r x).bB=r.bB+t.length/\(nJ r x).bi=r.bi++t.map (λy=>⟨y.bg⟩)/\RcV (nJ r x)/\
  ((nJ r x).aC=d\/(nJ r x).aC=[])/\r.bi.length+t.length<=24/\(x.cV=r.bB->t≠[]):=by
 obtain⟨t,d,e1,e2,e3,e4,e5⟩:=F9 (qc x r.aC) r.bB r.bi
 have hl2:=hl
 simp only[yJ,aao,ab7] at hl
 obtain⟨l1,l2,l3,l4,l5⟩:=hl
 have l2:=px l2
 rw[bO] at l3
 have l5:=yK l5
 have hn:∀y∈r.aC,y.cV≠x.cV:=λy hy=>by
  rw[abl] at l4
  have:=l4 y hy
  simpa [eqB] using this
 have hasc:=Uj h.po hn
 have hrng:∀y∈qc x r.aC,r.bB<=y.cV/\y.cV<=r.bB+7/\y.bg.length<=60:=λy hy=>by
  rcases B7.1 hy with rfl|hy
  .exact⟨l3.1,l3.2,by omega⟩
  have:=h.pr y hy;exact⟨by omega,by omega,this.2.2⟩
 have hlen:=Pv (key:=ae.cV) hasc (a:=r.bB) (b:=r.bB+7) λy hy=>⟨(hrng y hy).1,(hrng y hy).2.1⟩
 have htl:r.bi.length+t.length<=24:=by
  by_cases ht:t=[]
  .subst ht;have:=h.l;simp;omega
  exact e5 ht
 have hd:∀y∈d,r.bB+t.length<=y.cV:=λy hy=>by
  by_cases ht:t=[]
  .subst ht
   have:=(hrng y (by rw[e1];simp[hy])).1
   simp;omega
  obtain⟨k,hk⟩:∃k,t.length=k+1:=⟨t.length-1,by have:=List.length_pos_iff.2 ht;omega⟩
  obtain⟨z,hz⟩:∃z,t[k]?=some z:=⟨_,aaa (show k<t.length by omega)⟩
  have:=e3 k z hz
  rw[e1,ab3] at hasc
  have:=hasc.2.2 z (aac hz) y hy
  omega
 have hdl:(r.bi++t.map λy=>(⟨y.bg⟩:bM)).length=r.bi.length+t.length:=by simp
 have hdata:∀p∈r.bi++t.map λy=>(⟨y.bg⟩:bM),p.bg.length<=60:=λp hp=>by
  rcases aad.1 hp with hp|hp
  .exact h.d p hp
  obtain⟨y,hy,rfl⟩:=aa8.1 hp
  exact(hrng y (by rw[e1];simp[hy])).2.2
 have hnx:=h.n
 have hsome:x.cV=r.bB->t≠[]:=λe ht=>by
  subst ht
  simp only[aa9] at e1
  rcases e4 with⟨y,ys,e,h4⟩|e
  .simp only[ab1] at h4
   have hy:y.cV<=x.cV:=by
    have hx:x∈d:=by rw[<-e1];exact B7.2 (.inl rfl)
    rw[e] at hx
    rcases aaf.1 hx with e'|hx
    .rw[e'];omega
    rw[e1,e] at hasc
    have:=(ab2.1 hasc).1 x hx
    omega
   have:=(hrng y (by rw[e1,e];simp)).1
   rcases h4 with h4|h4<;>omega
  have:(qc x r.aC).length=0:=by rw[e1,e];rfl
  rw[oy] at this;omega
 refine⟨t,d,e1,e3,?_⟩
 rw[nJ,hl2]
 simp only[cond_false,e2,hdl]
 cases h24:leB 24 ((r.bi.length+t.length:Nat):Int)
 .have h24:=yK h24
  simp only[cond_false]
  refine⟨trivial,trivial,⟨by simp only[hdl];omega,by simp only[hdl];omega,hdata,?_,λy hy=>?_,?_⟩,.inl trivial,htl,hsome⟩
  .have:t.length+d.length=(qc x r.aC).length:=by rw[e1];simp
   simp only;omega
  .have h1:=hrng y (by rw[e1];simp[hy])
   have h2:=hd y hy
   refine⟨?_,by simp only;omega,h1.2.2⟩
   simp only
   rcases e4 with⟨z,zs,e,h4⟩|e
   .have hz:=hd z (by rw[e];simp)
    have hzn:z.cV≠r.bB+t.length:=by rcases h4 with h4|h4;exact h4;omega
    rw[e] at hy
    rcases aaf.1 hy with e'|hy'
    .rw[e'];omega
    rw[e1,e,ab3] at hasc
    have:=(ab2.1 hasc.2.1).1 y hy'
    omega
   rw[e] at hy;simp at hy
  rw[e1,ab3] at hasc
  exact hasc.2.1
 have h24:=Am h24
 simp only[cond_true]
 exact⟨trivial,trivial,⟨by simp only[hdl];omega,by simp only[hdl];omega,hdata,by simp,by simp,.nil⟩,.inr trivial,htl,hsome⟩
theorem VQ (h:RP r) (hx:okB x.bg):RP (nJ r x):=by
 cases hl:yJ r x
 .have hv:=OK.1 h.v
  obtain⟨t,d,e1,e3,e4,e5,e6,e7,e8,e9⟩:=HR hv hl
  have hb:∀y∈t++d,okB y.bg:=λy hy=>by
   rw[<-e1] at hy
   rcases B7.1 hy with rfl|hy
   .exact hx
   exact h.b1 y hy
  refine⟨Nv h.ok x,OK.2 e6,λy hy=>?_,λp hp=>?_⟩
  .rcases e7 with e|e<;>rw[e] at hy
   .exact hb y (by simp[hy])
   simp at hy
  rw[e5] at hp
  rcases aad.1 hp with hp|hp
  .exact h.b2 p hp
  obtain⟨y,hy,rfl⟩:=aa8.1 hp
  exact hb y (by simp[hy])
 rw[nJ,hl];exact h
theorem UZ (root g e:Int) (x:aA):okB (qm root g e x).1.bg:=by
 rw[qm];split
 .exact WJ _ _
 intro y hy;simp[bP] at hy
theorem WE {d:aJ} (h:DP d) (x:aA):DP (we d x).bk:=by
 simp only[we]
 cases eqB d.bj 2&&(qm d.aV d.ag d.aT x).2
 .exact h
 exact {h with rc:=VQ h.rc (UZ _ _ _ _)}
theorem Wj:jX ec=true:=by decide+kernel
theorem IZ {k:Int}:∀{xs:List ae} {f:Int},(∀(i:Nat) (x:ae),xs[i]?=some x->x.cV=f+i)->(xs.filter λx=>leB k x.cV)=xs.drop (k-f).toNat
 |[],f,_=>by simp
 |x::xs,f,h=>by
  have hx:x.cV=f:=by have:=h 0 x rfl;simpa using this
  have ih:=IZ (k:=k) (xs:=xs) (f:=f+1) λi y hy=>by have:=h (i+1) y (by simpa using hy);rw[this];omega
  rw[acm,hx]
  by_cases hk:k<=f
  .rw[leB_t.2 hk,if_pos rfl,ih,show(k-f).toNat=0 by omega,show(k-(f+1)).toNat=0 by omega];rfl
  rw[leB_f.2 oaa,if_neg (by simp),ih,show(k-f).toNat=(k-(f+1)).toNat+1 by omega];rfl
theorem IK (h:WOK w) {k:Int} (hk:ltB w.bB k=false):kC w k=⟨w.bB,w.aw.drop (k-(w.bB-w.aw.length)).toNat⟩:=by
 rw[kC,hk,IZ (f:=w.bB-w.aw.length) λi x hx=>(h.u i x hx).1];rfl
theorem LD (h:WOK w) (k:Int):WOK (kC w k):=by
 cases hk:ltB w.bB k
 .have hl:=h.l
  have hf:=h.f
  have hn:=h.n
  rw[IK h hk]
  generalize (k-(w.bB-w.aw.length)).toNat=m
  refine⟨hn,by simp;omega,by simp;omega,λi x hx=>?_⟩
  simp only at hx ⊢
  rw[List.getElem?_drop] at hx
  have hi:=(aab.1 hx).1
  have:=h.u _ x hx
  rw[List.length_drop]
  omega
 rw[kC,hk];exact h
theorem BA (w:aY) (k:Int):∀x∈(kC w k).aw,x∈w.aw:=λx hx=>by
 rw[kC] at hx;revert hx
 cases ltB w.bB k
 .exact λhx=>(abh.1 hx).1
 exact id
theorem SY (h:WOK w) (k:Int):0<=f9 (kC w k).aw/\f9 (kC w k).aw<=f9 w.aw:=by
 have h1:=xh λx hx=>h.d x (BA w k x hx)
 refine⟨h1.1,?_⟩
 cases hk:ltB w.bB k
 .have:=JW h hk
  have h2:=xh (xs:=w.aw.filter λx=>ltB x.cV k) λx hx=>h.d x (abh.1 hx).1
  omega
 rw[kC,hk];exact Int.le_refl _
theorem N0 {n:Int} (h:0<=n/\n<=q.cG-q.ev):tq q n={q with ev:=q.ev+n}:=by rw[tq,bO.2 h];rfl
theorem Jw (h:SG s a) (k:Int):SG (ly s k) a/\(ly s k).bT={s.bT with ev:=s.bT.ev+(f9 s.ax.aw-f9 (kC s.ax k).aw)}:=by
 have hs:=SY h.sp.win k
 have hp:=h.sp.pd
 have hq:=h.sp.q
 have e:(ly s k).bT={s.bT with ev:=s.bT.ev+(f9 s.ax.aw-f9 (kC s.ax k).aw)}:=N0 ⟨by omega,by omega⟩
 have hu:=hq.u
 have hg:=hq.g
 have hq':QOK (ly s k).bT:=by rw[e];exact⟨hq.i,by simp only;omega,by simp only;omega,hq.m⟩
 refine⟨⟨{h.sp with ok:=⟨h.sp.ok.1,h.sp.ok.2.1,(LD h.sp.win k).ok⟩,win:=LD h.sp.win k,q:=hq',qu:=⟨by simp[ly],by simp[ly]⟩,nx:=?_,un:=λx hx=>h.sp.un x (BA _ _ x hx),pd:=?_},h.b1,λx hx=>h.b2 x (BA _ _ x hx),⟨h.mo.acc,hq',?_⟩⟩,e⟩
 .have:(ly s k).ax.bB=s.ax.bB:=by simp only[ly,kC];cases ltB s.ax.bB k<;>rfl
  rw[this];exact h.sp.nx
 .rw[e];simp only[ly];omega
 rw[e];exact h.mo.res
theorem XD (h:SG s a) (m:aD):SG (Hc s m).aZ a:=by
 have hr:=KT h.sp.rcd
 simp only[Hc]
 cases he:eqB s.bA.cV 999999
 .have he:=H6 he
  have hk:=Q2 (k:=s.bA.eP) (r:=FY s.bA.ID (s.bA.cV+1)) (q:=s.bA.cV+1) oaa oaa
  refine⟨{h.sp with rcd:=?_,k2:=λ_=>?_,ps:=⟨by simp only[cond_false];omega,by simp only[cond_false];omega⟩},h.b1,h.b2,h.mo⟩
  .have hc:=h.sp.rcd
   simp only[tp,v0] at hc
   simp only[cond_false,tp,v0]
   exact⟨hc.1,hc.2.1,bO.2 oaa⟩
  exact bO.2 hk
 exact h
theorem XC (h:SG s a) {c:Int} (hc:0<=c/\c<=5) (hp:0<s.bE) (he:s.aT<999999):SG (xR s c) a:=by
 have hk:=h.sp.k2 hp
 have hkr:=bO.1 hk
 have hep:=h.sp.ep
 exact⟨{h.sp with page:=Wj,st:=⟨by simp[xR],by simp[xR]⟩,k1:=λ_=>hk,k2:=λe=>by simp[xR] at e,ps:=⟨by simp[xR],by simp[xR]⟩,gn:=h.sp.ps,ep:=⟨by simp only[xR];omega,by simp only[xR];omega⟩,rk:=⟨by simp only[xR];omega,by simp only[xR];omega⟩,ce:=hc,qu:=⟨by simp[xR],by simp[xR]⟩},h.b1,h.b2,h.mo⟩
theorem Vw (h:SG s a) {m:aD} (hm:ki m=true):SG (zh s m).aZ a:=by
 obtain⟨_,hc,_⟩:=zX hm
 rw[zh]
 cases hb:leB s.bE 0||(!eqB m.ag s.bE||(!eqB m.bL s.aC.vT||leB 999999 s.aT))
 .simp only[aao] at hb
  exact XC h hc (yK hb.1) (yK hb.2.2.2)
 exact h
theorem Vv (h:SG s a) {m:aD} (hm:ki m=true):SG (y6 s m).aZ a:=by
 obtain⟨_,hc,_,he,_⟩:=zX hm
 rw[y6]
 cases !qi s m||(ltB m.aT s.aT||(eqB m.aT s.aT&&!eqB m.be s.be))
 .exact⟨{h.sp with page:=Wj,ep:=he,ce:=hc,qu:=⟨by simp[wU],by simp[wU]⟩,rt:=⟨by simp[wU],by simp[wU]⟩},h.b1,h.b2,h.mo⟩
 exact h
theorem XB (h:SG s a) (m:aD):SG (Hb s m).aZ a:=by
 rw[Hb]
 cases !qi s m||ltB s.ax.bB m.bL
 .exact(Jw h m.bL).1
 exact h
theorem ZJ (h:SG s a) (m:aD):SG (sUp s m).aZ a:=by
 rw[sUp]
 cases hm:ki m
 .exact h
 cases eqB m.a8 1
 .cases eqB m.a8 3
  .cases eqB m.a8 5
   .cases eqB m.a8 8
    .exact h
    exact XB h m
   exact Vv h hm
  exact Vw h hm
 exact XD h m
theorem Vt (h:SG s a):SG (lB s) a:=
 ⟨{h.sp with page:=Wj,k2:=λe=>by simp[lB] at e,ps:=⟨by simp[lB],by simp[lB]⟩,qu:=⟨by simp[lB],by simp[lB]⟩,rt:=⟨by simp[lB],by simp[lB]⟩},h.b1,h.b2,h.mo⟩
theorem XF (h:SG s a) {b:List Int} (hb:okB b):SG (tm s b).1 a:=by
 rw[tm]
 cases h1:leB 24 (s.aM.length:Int)||ltB 60 (b.length:Int)
 .simp only[aao] at h1
  have h2:=yK h1.1
  have h3:=px h1.2
  have hnx:=h.sp.nx
  refine⟨{h.sp with ok:=⟨h.sp.ok.1,⟨by simp;omega,λp hp=>?_⟩,h.sp.ok.2.2⟩,sl:=by simp;omega,sd:=λp hp=>?_,nx:=by simp;omega,un:=λx hx=>?_},λp hp=>?_,h.b2,h.mo⟩
  .rcases aad.1 hp with hp|hp
   .exact h.sp.ok.2.1.2 p hp
   simp at hp;subst hp;exact⟨by simp only;omega,λ_ _=>trivial⟩
  .rcases aad.1 hp with hp|hp
   .exact h.sp.sd p hp
   simp at hp;subst hp;simp only;omega
  .have hu:=h.sp.un x hx
   have hs:=Pd h.sp.win hx
   simp only[Bv,cond_false] at hu ⊢
   rw[aam oaa]
   exact hu
  rcases aad.1 hp with hp|hp
  .exact h.b1 p hp
  simp at hp;subst hp;exact hb
 exact h
theorem VT (ha:0<=p.fJ/\p.fJ<=2) (hp:POK p) (m:aS):jX (xN p m).1=true:=by
 have h1:=hp.a
 have h2:=hp.w
 rw[xN]
 simp only[jX,v0,bO]
 cases hb:ltB 0 p.eU
 .simp only[cond_false]
  refine⟨ha,?_,by omega⟩
  cases hc:ltB p.eQ 4
  .simp
  have:=lP hc
  simp only[cond_true];omega
 have:=lP hb
 simp only[cond_true];omega
theorem GZ (h:jX p=true):POK p:=by
 simp only[jX,v0,bO] at h;exact⟨h.2.1,h.2.2⟩
theorem Ra (h:pJ m=true) (c:Int):0<=ma m c/\ma m c<=2:=by
 rw[ma]
 cases hc:eO m c
 .simp
 obtain⟨d,_,_,h2⟩:=BH hc
 simp only[pJ,v0,eJ] at h
 have:=h.2 _ d h2
 simp only[zy,v0,bO] at this
 rw[h2];exact this.1
theorem Na (h:SG s a) (hm:pJ m=true):SG (nE s a m).aZ (nE s a m).eL:=by
 rw[nE]
 cases eqB s.bj 1
 .exact h
 simp only[au]
 have hq:=yV h.sp
 cases ltB 4 (iZ s)
 .exact Nf 2 _ _ _ (h.upd hq (yX h.sp))
 have h1:=h.upd hq h.sp.rt
 have hp:=GZ h.sp.page
 exact⟨{h1.sp with page:=VT (p:={s.ge with fJ:=ma m s.be}) (Ra hm _) ⟨hp.a,hp.w⟩ m},h1.b1,h1.b2,h1.mo⟩
structure FP (nd nc:Nat) (f:bF):Prop where
 d:0<=f.bk/\f.bk<nd
 c:0<=f.be/\f.be<nc
 b:okB f.cz.bz.bg
 ok:jD f
structure MP (nc:Nat) (i:Nat) (d:aJ) (s:ah) (a:am):Prop where
 dp:DP d
 dc:d.be<nc
 sg:SG s a
 sc:s.be<nc
 si:s.bT.aG=i
 ids:GE d s=true
structure NP (B:Int) (n:ab):Prop where
 map:pJ n.eo=true
 mok:f8 n.eo
 core:jK n.ef=true
 up:n.ef.fj≠0
 ld:n.av.length<=4
 ls:n.aF.length=n.av.length
 la:n.bG.length=n.av.length
 m:∀(i:Nat) d s a,n.av[i]?=some d->n.aF[i]?=some s->n.bG[i]?=some a->MP n.eo.aX.length i d s a
 fl:n.aK.length<=200
 fs:∀f∈n.aK,FP n.av.length n.eo.aX.length f
 dn:inR n.dv 0 (WR ((lJ .i64 1 (n.eo.aX.length:Int))-1))=true
 nw:0<=n.qz/\n.qz<=100000
 lo:0<=n.jr/\n.jr<=B
theorem mR (h:pJ m=true):1<=m.aX.length/\m.aX.length<=6:=by
 simp only[pJ,v0,bO] at h;omega
theorem NP.at_ (h:NP B n) {i:Nat} (hi:i<n.av.length):∃d s a,n.av[i]?=some d/\n.aF[i]?=some s/\n.bG[i]?=some a/\MP n.eo.aX.length i d s a:=by
 have h1:=h.ls
 have h2:=h.la
 obtain⟨d,hd⟩:∃d,n.av[i]?=some d:=⟨_,aaa hi⟩
 obtain⟨s,hs⟩:∃s,n.aF[i]?=some s:=⟨_,aaa (show i<n.aF.length by omega)⟩
 obtain⟨a,ha⟩:∃a,n.bG[i]?=some a:=⟨_,aaa (show i<n.bG.length by omega)⟩
 exact⟨d,s,a,hd,hs,ha,h.m i d s a hd hs ha⟩
theorem NP.mono {B':Int} (h:NP B n) (hb:B<=B'):NP B' n:={h with lo:=⟨h.lo.1,by have:=h.lo.2;omega⟩}
def fm (n:ab) (f:bF):ab:=bif leB 200 (n.aK.length:Int) then {n with jr:=WR (n.jr+1)} else {n with aK:=n.aK++[f]}
theorem Ch (hf:jD f):gk n f=some (fm n f):=by
 simp only[gk,L8 hf,abX,fm]
 cases hb:leB 200 (n.aK.length:Int)
 .have:=yK hb
  rw[cB oaa (by simp;omega)];rfl
 rfl
theorem Cg (hf:jD f):qf n f=some (fm n f):=by
 simp only[qf,I9 hf,abX,fm]
 cases hb:leB 200 (n.aK.length:Int)
 .have:=yK hb
  rw[cB oaa (by simp;omega)];rfl
 rfl
theorem Bb (h:NP B n) (hf:FP n.av.length n.eo.aX.length f) (hB:B<4611686018427387904):NP (B+1) (fm n f):=by
 have hl:=h.lo
 rw[fm]
 cases hb:leB 200 (n.aK.length:Int)
 .have hb:=yK hb
  refine {h.mono (show B<=B+1 by omega) with fl:=by simp;omega,fs:=λg hg=>?_}
  rcases aad.1 hg with hg|hg
  .exact h.fs g hg
  simp at hg;subst hg;exact hf
 exact {h.mono (show B<=B+1 by omega) with lo:=by simp only[cond_true];rw[bK oaa];omega}
theorem rz (n:ab) (f:bF):(fm n f).av=n.av/\(fm n f).aF=n.aF/\(fm n f).bG=n.bG/\(fm n f).eo=n.eo/\(fm n f).dv=n.dv/\(fm n f).ef=n.ef/\(fm n f).qz=n.qz:=by
 rw[fm];cases leB 200 (n.aK.length:Int)<;>exact⟨rfl,rfl,rfl,rfl,rfl,rfl,rfl⟩
def sends (n:ab) (l:List bF):ab:=l.foldl fm n
theorem lF:∀(l:List bF) (n:ab),(sends n l).av=n.av/\(sends n l).aF=n.aF/\(sends n l).bG=n.bG/\(sends n l).eo=n.eo/\(sends n l).dv=n.dv/\(sends n l).ef=n.ef/\(sends n l).qz=n.qz
 |[],n=>⟨rfl,rfl,rfl,rfl,rfl,rfl,rfl⟩
 |f::l,n=>by
  have h1:=rz n f
  have h2:=lF l (fm n f)
  have e:sends n (f::l)=sends (fm n f) l:=rfl
  rw[e,h2.1,h2.2.1,h2.2.2.1,h2.2.2.2.1,h2.2.2.2.2.1,h2.2.2.2.2.2.1,h2.2.2.2.2.2.2];exact h1
theorem zl:∀(l:List bF) {B:Int} {n:ab},NP B n->(∀f∈l,FP n.av.length n.eo.aX.length f)->B+l.length<4611686018427387904->NP (B+l.length) (sends n l)
 |[],B,n,h,_,_=>by simpa [sends] using h
 |f::l,B,n,h,hf,hB=>by
  simp only[aaj] at hB ⊢
  have h1:=Bb h (hf f (by simp)) oaa
  have hk:=rz n f
  have:=zl l h1 (λg hg=>by rw[hk.1,hk.2.2.2.1];exact hf g (by simp[hg])) oaa
  rw[show B+((l.length+1:Nat):Int)=B+1+(l.length:Int) by omega]
  exact this
theorem vh (g:ab->bF->Option ab) {α:Type} (mk:α->bF) (hg:∀n x,g n (mk x)=some (fm n (mk x))):∀(l:List α) (n:ab),kX (λ(n:ab) x=>abU (g n (mk x)) λr=>some (cq.next (ρ:=ab) r)) some l n=some (sends n (l.map mk))
 |[],n=>rfl
 |x::l,n=>by rw[kX,hg];exact vh g mk hg l _
def ie (i:Int) (up:Bool) (m:aD):bF:=⟨i,up,false,m.be,m,eE⟩
def sR (i c:Int) (x:aA):bF:=⟨i,false,true,c,dQ,x⟩
theorem Ly:oE eE:=⟨by decide,λ_ _=>trivial⟩
theorem CH (i:Int) (up:Bool) (m:aD):jD (ie i up m):=Ly
theorem OV (n:ab) (i:Int) (up:Bool) {l:List aD} (hl:l.length<=1048576):lG n i up l=some (sends n (l.map (ie i up))):=by
 have:=eK (step:=lH i up l) l (λk n=>((k:Int),n)) (λn x=>abU (gk n (ie i up x)) λr=>some (.next r)) some oaa
  (λk x n hx hk=>by
   simp only[lH,cy hk,bu,hx,WRs (k:=k),ie,au]
   cases gk n ⟨i,up,false,x.be,x,eE⟩<;>rfl) (λn=>by simp[lH]) n
 rw[vh gk (ie i up) (λn x=>Ch (CH i up x))] at this
 rw[lG,show iter (lH i up l) FU (0,n)=_ from this];rfl
theorem TI (n:ab) (i:Int) {l:List aD} (hl:l.length<=1048576):ky n i l=some (sends n (l.map (ie i false))):=by
 have:=eK (step:=jx i l) l (λk n=>((k:Int),n)) (λn x=>abU (qf n (ie i false x)) λr=>some (.next r)) some oaa
  (λk x n hx hk=>by
   simp only[jx,cy hk,bu,hx,WRs (k:=k),au]
   rw[show({eF with bk:=i,be:=x.be,bh:=x}:bF)=ie i false x from rfl]
   cases qf n (ie i false x)<;>rfl) (λn=>by simp[jx]) n
 rw[vh qf (ie i false) (λn x=>Cg (CH i false x))] at this
 rw[ky,show iter (jx i l) FU (0,n)=_ from this];rfl
def gh (n:ab) (i:Nat) (r:a9):ab:=sends {n with av:=n.av.set i r.bk} (r.db.map (ie i true))
theorem yU {i:Nat} (hi:i<n.av.length) {r:a9} (hr:r.db.length<=1048576):jh n (i:Int) r=some (gh n i r):=by
 simp only[jh,bu,aaa hi,abX,abY,OV _ _ _ hr,gh]
theorem yT {i:Nat} (hi:i<n.av.length) {r:a9} (hr:r.db.length<=1048576):gE n (i:Int) r=some (gh n i r):=by
 have:=eK (step:=kh (i:Int) r) r.db (λk n=>((k:Int),n)) (λn x=>abU (qf n (ie i true x)) λr=>some (.next r)) some oaa
  (λk x n hx hk=>by
   simp only[kh,cy hk,bu,hx,WRs (k:=k),ie,au]
   cases qf n ⟨i,true,false,x.be,x,eE⟩<;>rfl) (λn=>by simp[kh]) {n with av:=n.av.set i r.bk}
 rw[vh qf (ie (i:Int) true) (λn x=>Cg (CH _ true x))] at this
 simp only[gE,bu,aaa hi,abX,abY,gh]
 rw[show iter (kh (i:Int) r) FU (0,{n with av:=n.av.set i r.bk})=_ from this];rfl
theorem Lb {nd nc:Nat} {i:Nat} (hi:i<nd) {up:Bool} {m:aD} (hm:0<=m.be/\m.be<nc):FP nd nc (ie i up m):=
 ⟨by simp only[ie];omega,hm,λx hx=>by simp[ie,eE,lX] at hx,CH _ _ _⟩
theorem pM {xs:List α} {i j:Nat} {x y:α} (h:(xs.set i x)[j]?=some y):(i=j/\x=y)\/(i≠j/\xs[j]?=some y):=by
 rw[abJ] at h
 by_cases e:i=j
 .rw[if_pos e] at h
  split at h
  .cases h;exact .inl ⟨e,rfl⟩
  cases h
 rw[if_neg e] at h;exact .inr ⟨e,h⟩
theorem NP.setM (h:NP B n) {i:Nat} {d:aJ} (hm:MP n.eo.aX.length i d s a):
 NP B {n with av:=n.av.set i d,aF:=n.aF.set i s,bG:=n.bG.set i a}:=by
 have h1:=h.ls
 have h2:=h.la
 refine {h with ld:=by simpa using h.ld,ls:=by simpa using h1,la:=by simpa using h2,m:=λj d' s' a' hd hs ha=>?_,fs:=λf hf=>by rw[List.length_set];exact h.fs f hf}
 rcases pM hd with⟨e1,e2⟩|⟨e1,e2⟩<;>rcases pM hs with⟨e3,e4⟩|⟨e3,e4⟩<;>rcases pM ha with⟨e5,e6⟩|⟨e5,e6⟩<;>first|omega|skip
 .subst e1;subst e2;subst e4;subst e6;exact hm
 exact h.m j d' s' a' e2 e4 e6
theorem gR {xs:List α} {i:Nat} {x:α} (h:xs[i]?=some x):xs.set i x=xs:=by
 apply ab8
 intro j
 rw[abJ]
 by_cases e:i=j
 .subst e;rw[if_pos rfl,if_pos (aab.1 h).1,h]
 rw[if_neg e]
theorem NP.setD (h:NP B n) {i:Nat} {d:aJ} (hs:n.aF[i]?=some s) (ha:n.bG[i]?=some a) (hm:MP n.eo.aX.length i d s a):NP B {n with av:=n.av.set i d}:=by
 have:=h.setM hm
 rwa [gR hs,gR ha] at this
theorem NP.setS (h:NP B n) {i:Nat} {d:aJ} (hd:n.av[i]?=some d) (ha:n.bG[i]?=some a) (hm:MP n.eo.aX.length i d s a):NP B {n with aF:=n.aF.set i s}:=by
 have:=h.setM hm
 rwa [gR hd,gR ha] at this
structure DK (c:Int) (d:aJ) (r:a9):Prop where
 id:r.bk.df.ID=d.df.ID
 key:r.bk.df.eP=d.df.eP
 cell:r.bk.be=c
 sg:∀m∈r.db,m.be=c
 len:r.db.length<=1
theorem DK.none (d:aJ):DK d.be d ⟨d,[]⟩:=⟨rfl,rfl,rfl,by simp,by simp⟩
theorem WA (d:aJ):DK d.be d (va d):=⟨rfl,rfl,rfl,by simp[va,xt,sZ],by simp[va]⟩
theorem LW {d d':aJ} (h:d'.df=d.df):DK d'.be d (va d'):=⟨by rw[<-h];rfl,by rw[<-h];rfl,rfl,by simp[va,xt,sZ],by simp[va]⟩
theorem yb (d:aJ):DK d.be d (qW d):=by
 rw[qW]
 cases ltB 0 d.eU<;>cases eqB d.bj 1<;>cases eqB d.bj 2&&!d.cj<;>exact⟨rfl,rfl,rfl,by simp[zN,xt,sZ],by simp⟩
theorem N2 (d:aJ):DK d.be d (dOn d):=by
 rw[dOn];cases eqB d.bj 0<;>exact⟨rfl,rfl,rfl,by simp[zN],by simp⟩
theorem Fj (d:aJ) (m:aD):DK d.be d (wg d m):=by
 rw[wg]
 cases !ki m||(!eqB m.be d.be||eqB d.bj 0)
 .simp only[cond_false]
  cases eqB m.a8 2&&eqB d.bj 1
  .simp only[cond_false]
   cases eqB m.a8 4&&(eqB d.bj 1&&(mI d.aV&&(eqB m.ag d.ag&&qT d.aV m)))
   .simp only[cond_false]
    cases eqB m.a8 6&&(eqB d.bj 2&&(eqB m.ag d.ag&&(eqB m.aT d.aT&&qT d.aV m)))
    .simp only[cond_false]
     cases eqB m.a8 7&&(eqB d.bj 3&&ltB d.aT 999999)
     .simp only[cond_false]
      cases eqB m.a8 7&&eqB d.bj 2
      .exact .none d
      exact WA d
     exact LW (d:=d) (d':={d with bj:=2,aT:=d.aT+1}) rfl
    exact⟨rfl,rfl,rfl,by simp,by simp⟩
   exact⟨rfl,rfl,rfl,by simp,by simp⟩
  simp only[cond_true,F6]
  cases eqB (jj d.df.eP d.df.dm m.bW) 0<;>exact⟨rfl,rfl,rfl,by simp,by simp⟩
 exact .none d
theorem Fi (d:aJ) (x:aA):DK d.be d (we d x):=by
 simp only[we]
 cases eqB d.bj 2&&(qm d.aV d.ag d.aT x).2
 .exact .none d
 exact⟨rfl,rfl,rfl,by simp[YK,sZ],by simp⟩
theorem LX (d:aJ) (c:Int):DK d.be d (sr d c)\/(0<=c/\c<=5)/\DK c d (sr d c):=by
 rw[sr]
 cases h:eqB c d.be||!inR c 0 5
 .simp only[aao,ab7] at h
  right;refine⟨bO.1 h.2,?_⟩
  simp only[cond_false]
  cases eqB d.bj 2&&ltB d.aT 999999
  .exact⟨rfl,rfl,rfl,by simp,by simp⟩
  exact LW (d:=d) (d':={d with be:=c,aT:=d.aT+1}) rfl
 exact .inl (.none d)
structure SK (c:Int) (s:ah) (r:bI):Prop where
 id:r.aZ.bA.ID=s.bA.ID
 key:r.aZ.bA.eP=s.bA.eP
 si:r.aZ.bT.aG=s.bT.aG
 cell:r.aZ.be=s.be\/r.aZ.be=c
 sg:∀m∈r.db,m.be=c
 len:r.db.length<=1
 sub:r.aZ.aM=s.aM
theorem SK.none (c:Int) (s:ah):SK c s ⟨s,[]⟩:=⟨rfl,rfl,rfl,.inl rfl,by simp,by simp,rfl⟩
theorem K6 (s:ah) (m:aD):SK m.be s (sUp s m):=by
 rw[sUp]
 cases ki m
 .exact .none _ s
 simp only[au]
 cases eqB m.a8 1
 .simp only[cond_false]
  cases eqB m.a8 3
  .simp only[cond_false]
   cases eqB m.a8 5
   .simp only[cond_false]
    cases eqB m.a8 8
    .exact .none _ s
    simp only[cond_true,Hb]
    cases !qi s m||ltB s.ax.bB m.bL
    .refine⟨rfl,rfl,?_,.inl rfl,by simp,by simp,rfl⟩
     simp only[cond_false,ly,tq]
     cases inR (f9 s.ax.aw-f9 (kC s.ax m.bL).aw) 0 (s.bT.cG-s.bT.ev)<;>rfl
    exact .none _ s
   simp only[cond_true,y6]
   cases !qi s m||(ltB m.aT s.aT||(eqB m.aT s.aT&&!eqB m.be s.be))
   .exact⟨rfl,rfl,rfl,.inr rfl,by simp[ub,sZ,wU],by simp,rfl⟩
   exact .none _ s
  simp only[cond_true,zh]
  cases leB s.bE 0||(!eqB m.ag s.bE||(!eqB m.bL s.aC.vT||leB 999999 s.aT))
  .exact⟨rfl,rfl,rfl,.inr rfl,by simp[ub,sZ,xR],by simp,rfl⟩
  exact .none _ s
 simp only[cond_true,Hc]
 cases eqB s.bA.cV 999999
 .exact⟨rfl,rfl,rfl,.inl rfl,by simp,by simp,rfl⟩
 exact .none _ s
theorem MP.dev {nc i:Nat} {d:aJ} (h:MP nc i d s a) {c:Int} {r:a9} (hk:DK c d r) (hd:DP r.bk) (hc:c<nc):MP nc i r.bk s a:=by
 refine⟨hd,by rw[hk.cell];exact hc,h.sg,h.sc,h.si,?_⟩
 have:=h.ids
 simp only[GE,hk.id,hk.key] at this ⊢;exact this
theorem MP.ses {nc i:Nat} {d:aJ} (h:MP nc i d s a) {c:Int} {r:bI} (hk:SK c s r) (hs:SG r.aZ a) (hc:c<nc):MP nc i d r.aZ a:=by
 refine⟨h.dp,h.dc,hs,?_,by rw[hk.si];exact h.si,?_⟩
 .rcases hk.cell with e|e<;>rw[e]
  .exact h.sc
  exact hc
 have:=h.ids
 simp only[GE,hk.id,hk.key] at this ⊢;exact this
theorem nB (h:NP B n) {i:Nat} {d:aJ} (hd:n.av[i]?=some d) {c:Int} {r:a9} (hk:DK c d r) (hr:DP r.bk) (hc:c<n.eo.aX.length) (hB:B+1<4611686018427387904):NP (B+1) (gh n i r):=by
 have hi:=(aab.1 hd).1
 obtain⟨d',s,a,h1,h2,h3,hm⟩:=h.at_ hi
 rw[hd] at h1;cases h1
 have hn:=h.setD h2 h3 (hm.dev hk hr hc)
 have hl:=hk.len
 have:=zl (r.db.map (ie i true)) hn (λf hf=>by
  obtain⟨m,hm',rfl⟩:=aa8.1 hf
  rw[show({n with av:=n.av.set i r.bk}:ab).av.length=n.av.length by simp]
  refine Lb hi ?_
  rw[hk.sg m hm',<-hk.cell];exact⟨hr.ce.1,by rw[hk.cell];exact hc⟩) (by simp;omega)
 exact this.mono (by simp;omega)
def Bd (n:ab) (i:Nat) (r:bI):ab:=sends {n with aF:=n.aF.set i r.aZ} (r.db.map (ie i false))
theorem R5 (h:NP B n) {i:Nat} (hs:n.aF[i]?=some s) {c:Int} {r:bI} (hk:SK c s r) (hr:∀a,SG s a->SG r.aZ a) (hc:0<=c/\c<n.eo.aX.length) (hB:B+1<4611686018427387904):NP (B+1) (Bd n i r):=by
 have hi:=(aab.1 hs).1
 have hls:=h.ls
 obtain⟨d,s',a,h1,h2,h3,hm⟩:=h.at_ (show i<n.av.length by omega)
 rw[hs] at h2;cases h2
 have hn:=h.setS h1 h3 (hm.ses hk (hr a hm.sg) hc.2)
 have hl:=hk.len
 have:=zl (r.db.map (ie i false)) hn (λf hf=>by
  obtain⟨m,hm',rfl⟩:=aa8.1 hf
  refine Lb (show i<n.av.length by omega) ?_
  rw[hk.sg m hm'];exact hc) (by simp;omega)
 exact this.mono (by simp;omega)
def hP (n:ab) (k:Nat):ab:={n with aK:=n.aK.take k++n.aK.drop (k+1)}
theorem Fg (h:NP B n) (k:Nat):NP B (hP n k):=by
 have:=h.fl
 refine {h with fl:=by simp[hP];omega,fs:=λf hf=>?_}
 have:f∈n.aK:=by
  simp only[hP,aad] at hf
  rcases hf with hf|hf
  .exact aaC hf
  exact List.mem_of_mem_drop hf
 exact h.fs f this
theorem QW (hl:n.aK.length<=200) (hf:n.aK[k]?=some f):zx n (k:Int)=some (f,hP n k):=by
 have hk:=(aab.1 hf).1
 have a1:eT n.aK 0 (k:Int)=true:=by simp[eT];omega
 have a2:eT n.aK ((k+1:Nat):Int) (n.aK.length:Int)=true:=by simp[eT];omega
 have a3:c8 176 (n.aK.take k).length=true:=cB oaa (by simp;omega)
 have a4:c8 176 (n.aK.take k++n.aK.drop (k+1)).length=true:=cB oaa (by simp;omega)
 simp only[zx,bu,hf,a1,WRs (k:=k),a2,aa9,abY,a3,a4,hP,au]
theorem QV (hl:n.aK.length<=200) (hf:n.aK[k]?=some f):qg n (k:Int)=some (f,hP n k):=by
 have hk:=(aab.1 hf).1
 have a0:qk 176 0 (n.aK.length:Int)=true:=by simp only[qk,decide_eq_true_eq];omega
 have a1:eT n.aK 0 (k:Int)=true:=by simp[eT];omega
 have a2:eT n.aK ((k+1:Nat):Int) (n.aK.length:Int)=true:=by simp[eT];omega
 have a3:c8 176 (n.aK.take k).length=true:=cB oaa (by simp;omega)
 have a4:c8 176 (n.aK.take k++n.aK.drop (k+1)).length=true:=cB oaa (by simp;omega)
 have a5:(aag (0:Int).toNat eF)=[]:=rfl
 simp only[qg,bu,hf,a0,a1,WRs (k:=k),a2,a5,aa9,abY,a3,a4,hP,au]
def A7 (n:ab) (c:Int):Bool:=eO n.eo c&&eqB (AT .i64 (FQ .i64 n.dv c) 1) 0
theorem Uo (hm:1<=n.eo.aX.length/\n.eo.aX.length<=6) (c:Int):vC n c=some (A7 n c):=by
 have hmin:kY (n.eo.aX.length:Int) 6=(n.eo.aX.length:Int):=by unfold kY;split<;>omega
 simp only[vC,MC,hmin,fS,abX,bK (n:=(n.eo.aX.length:Int)-1) oaa,A7]
 rw[show inR c 0 ((n.eo.aX.length:Int)-1)=eO n.eo c from rfl]
 cases hc:eO n.eo c
 .rfl
 have:=bO.1 (show inR c 0 ((n.eo.aX.length:Int)-1)=true from hc)
 rw[leB_t.2 this.1];rfl
theorem Un (hm:1<=n.eo.aX.length/\n.eo.aX.length<=6) (c:Int):vj n c=some (A7 n c):=by
 simp only[vj,wc (show n.eo.aX.length<=1048576 by omega),abX,A7]
 cases hc:eO n.eo c
 .rfl
 have:=bO.1 (show inR c 0 ((n.eo.aX.length:Int)-1)=true from hc)
 rw[leB_t.2 this.1,ltB_t.2 (show c<6 by omega)];rfl
def Ku (n:ab):ab:={n with jr:=WR (n.jr+1)}
theorem Kv (h:NP B n) (hB:B<4611686018427387904):NP (B+1) (Ku n):=by
 have hl:=h.lo
 exact {h.mono (show B<=B+1 by omega) with lo:=by simp only[Ku];rw[bK oaa];omega}
def hU (n:ab) (k:Nat):ab:=match n.aK[k]? with
 |none=>n
 |some f=>
  let n1:=hP n k
  let i:=f.bk.toNat
  bif !A7 n1 f.be then Ku n1 else
  bif f.eH then(bif f.dR||!eqB f.bh.be f.be then n1 else match n1.aF[i]? with
   |none=>n1
   |some s=>Bd n1 i (sUp s f.bh))
  else match n1.av[i]? with
   |none=>n1
   |some d=>bif !eqB d.be f.be then Ku n1 else gh n1 i (bif f.dR then we d f.cz else wg d f.bh)
theorem wh (h:NP B n) (k:Nat) (hB:B+1<4611686018427387904):NP (B+1) (hU n k):=by
 rw[hU]
 cases hf:n.aK[k]? with
 |none=>exact h.mono oaa
 |some f=>
  have hp:=h.fs f (aac hf)
  have h1:=Fg h k
  simp only
  cases A7 (hP n k) f.be
  .exact Kv h1 oaa
  simp only[au]
  cases f.eH
  .simp only[cond_false]
   cases hd:(hP n k).av[f.bk.toNat]? with
   |none=>exact h1.mono oaa
   |some d=>
    have hdi:=(aab.1 hd).1
    obtain⟨d',s,a,e1,e2,e3,hm⟩:=h1.at_ hdi
    rw[hd] at e1;cases e1
    simp only
    cases eqB d.be f.be
    .exact Kv h1 oaa
    simp only[au]
    cases f.dR
    .exact nB h1 hd (Fj d f.bh) (WG hm.dp _) hm.dc hB
    exact nB h1 hd (Fi d f.cz) (WE hm.dp _) hm.dc hB
  simp only[cond_true]
  cases he:f.dR||!eqB f.bh.be f.be
  .simp only[cond_false]
   simp only[aao,ab7] at he
   have he:=mc he.2
   cases hs:(hP n k).aF[f.bk.toNat]? with
   |none=>exact h1.mono oaa
   |some s=>exact R5 h1 hs (K6 s f.bh) (λa ha=>ZJ ha _) (by rw[he];exact hp.c) hB
  exact h1.mono oaa
theorem N6 (i:Int) (h:0<=i):i=(i.toNat:Int):=by omega
theorem Rk (h:NP B n) (hk:k<n.aK.length):ur n (k:Int)=some (hU n k):=by
 obtain⟨f,hf⟩:∃f,n.aK[k]?=some f:=⟨_,aaa hk⟩
 have hp:=h.fs f (aac hf)
 have h1:=Fg h k
 have hls:=h1.ls
 have hdd:=hp.d
 obtain⟨d,s,a,e1,e2,e3,hm⟩:=h1.at_ (show f.bk.toNat<(hP n k).av.length by simp only[hP];omega)
 have hdev:=N6 f.bk hdd.1
 have hix:ix (hP n k).aF f.bk=some s:=by rw[hdev,bu];exact e2
 have hixd:ix (hP n k).av f.bk=some d:=by rw[hdev,bu];exact e1
 have hdl:=(aab.1 e1).1
 have hp1:jh (hP n k) f.bk (we d f.cz)=some (gh (hP n k) f.bk.toNat (we d f.cz)):=by
  rw[hdev];exact yU (by simpa using hdl) (by have:=(Fi d f.cz).len;omega)
 have hp2:jh (hP n k) f.bk (wg d f.bh)=some (gh (hP n k) f.bk.toNat (wg d f.bh)):=by
  rw[hdev];exact yU (by simpa using hdl) (by have:=(Fj d f.bh).len;omega)
 have hp3:∀n',lG n' f.bk false (sUp s f.bh).db=some (sends n' ((sUp s f.bh).db.map (ie (f.bk.toNat:Int) false))):=λn'=>by
  rw[<-hdev];exact OV _ _ _ (by have:=(K6 s f.bh).len;omega)
 simp only[ur,QW h.fl hf,Uo (mR h1.map),hix,hixd,up_s hm.sg.sp,rad_s hm.dp.ok (show Qt f.cz from hp.b),sig_s hm.dp.ok hm.dp.card hm.dp.ep,hp1,hp2,hp3,abX,hU,hf,e1,e2,Bd,Ku]
 cases A7 (hP n k) f.be<;>cases f.eH<;>cases f.dR<;>cases eqB f.bh.be f.be<;>cases eqB d.be f.be<;>rfl
theorem IS (h:NP B n) (hk:k<n.aK.length):vm n (k:Int)=some (hU n k):=by
 obtain⟨f,hf⟩:∃f,n.aK[k]?=some f:=⟨_,aaa hk⟩
 have hp:=h.fs f (aac hf)
 have h1:=Fg h k
 have hls:=h1.ls
 have hdd:=hp.d
 obtain⟨d,s,a,e1,e2,e3,hm⟩:=h1.at_ (show f.bk.toNat<(hP n k).av.length by simp only[hP];omega)
 have hdev:=N6 f.bk hdd.1
 have hix:ix (hP n k).aF f.bk=some s:=by rw[hdev,bu];exact e2
 have hixd:ix (hP n k).av f.bk=some d:=by rw[hdev,bu];exact e1
 have hdl:=(aab.1 e1).1
 have hp1:gE (hP n k) f.bk (we d f.cz)=some (gh (hP n k) f.bk.toNat (we d f.cz)):=by
  rw[hdev];exact yT (by simpa using hdl) (by have:=(Fi d f.cz).len;omega)
 have hp2:gE (hP n k) f.bk (wg d f.bh)=some (gh (hP n k) f.bk.toNat (wg d f.bh)):=by
  rw[hdev];exact yT (by simpa using hdl) (by have:=(Fj d f.bh).len;omega)
 have hp3:∀n',ky n' f.bk (sUp s f.bh).db=some (sends n' ((sUp s f.bh).db.map (ie (f.bk.toNat:Int) false))):=λn'=>by
  rw[<-hdev];exact TI _ _ (by have:=(K6 s f.bh).len;omega)
 simp only[vm,QV h.fl hf,Un (mR h1.map),hix,hixd,up_i hm.sg.sp,rad_i hm.dp.ok (show Qt f.cz from hp.b),sig_i hm.dp.ok hm.dp.card hm.dp.ep,hp1,hp2,hp3,abX,hU,hf,e1,e2,Bd,Ku]
 cases A7 (hP n k) f.be<;>cases f.eH<;>cases f.dR<;>cases eqB f.bh.be f.be<;>cases eqB d.be f.be<;>rfl
theorem pB (n:ab) (i:Nat) (r:a9):(gh n i r).av.length=n.av.length/\(gh n i r).eo=n.eo/\(gh n i r).aF=n.aF/\(gh n i r).bG=n.bG/\(gh n i r).qz=n.qz:=by
 have:=lF (r.db.map (ie i true)) {n with av:=n.av.set i r.bk}
 rw[gh,this.1,this.2.1,this.2.2.1,this.2.2.2.1,this.2.2.2.2.2.2];simp
def qZ:Nat->Nat->ab->ab
 |0,_,n=>n
 |c+1,i,n=>match n.av[i]? with
  |none=>n
  |some d=>qZ c (i+1) (gh n i (qW d))
theorem D8 {L:Int×ab->Option (cq (Int×ab) ab)} (N:Nat) (hN:N<=4)
 (hL:∀(i:Nat) (n:ab),n.av.length=N->(i<N->∀d,n.av[i]?=some d->DP d->L ((i:Int),n)=some (.next (((i+1:Nat):Int),gh n i (qW d))))/\(N<=i->L ((i:Int),n)=some (.done n))):
 ∀(c i:Nat) {B:Int} (n:ab) (fu:Nat),NP B n->i+c=N->n.av.length=N->c<fu->B+c<4611686018427387904->iter L fu ((i:Int),n)=some (qZ c i n)/\NP (B+c) (qZ c i n)/\(qZ c i n).av.length=N/\(qZ c i n).eo=n.eo
 |0,i,B,n,fu,h,h1,h2,h3,hB=>by
  cases fu with
  |zero=>omega
  |succ fu=>
   rw[iter,(hL i n h2).2 oaa]
   exact⟨rfl,by simpa [qZ] using h,h2,rfl⟩
 |c+1,i,B,n,fu,h,h1,h2,h3,hB=>by
  cases fu with
  |zero=>omega
  |succ fu=>
   obtain⟨d,s,a,e1,e2,e3,hm⟩:=h.at_ (show i<n.av.length by omega)
   have hp:=nB h e1 (yb d) (F7 hm.dp) hm.dc oaa
   have hk:=pB n i (qW d)
   rw[iter,(hL i n h2).1 oaa d e1 hm.dp,qZ,e1]
   simp only
   have ih:=D8 N hN hL c (i+1) (gh n i (qW d)) fu hp oaa (by rw[hk.1];exact h2) oaa oaa
   refine⟨ih.1,ih.2.1.mono oaa,ih.2.2.1,ih.2.2.2.trans hk.2.1⟩
def xo (x:aA):Prop:=okB x.bz.bg/\x.bz.bg.length<=60
theorem Bm (k g e:Int) (h:x.bg.length<=60):xo (iJ k g e x):=⟨Ke _ _,by simp[iJ,Hw];exact h⟩
theorem LE (h:WOK s.ax):∀x∈xW s,xo x:=by
 rw[xW];cases eqB s.bj 1
 .simp
 intro x hx
 obtain⟨y,hy,rfl⟩:=aa8.1 hx
 exact Bm _ _ _ (h.d y (aaC hy))
theorem Rq (s:ah) (a:am) (n:Int):(dq s a n).1.bT.aG=s.bT.aG:=by rw[dq];cases leB (kR s n) 0<;>rfl
theorem Hx:∀(k:Nat) (s:ah) (a:am) (r:List aA),SG s a->(∀x∈r,xo x)->
 (gx k s a r).1.bA=s.bA/\(gx k s a r).1.be=s.be/\(gx k s a r).1.bT.aG=s.bT.aG/\(gx k s a r).1.aM=s.aM/\∀x∈(gx k s a r).2.2,xo x
 |0,s,a,r,h,hr=>⟨rfl,rfl,rfl,rfl,hr⟩
 |k+1,s,a,r,h,hr=>by
  rw[gx]
  cases e:qX s with
  |none=>exact⟨rfl,rfl,rfl,rfl,hr⟩
  |some x=>
   obtain⟨hm,hx,_,hn,hl,hb⟩:=nh h.sp e
   have he:=vc h (n:=(x.bg.length:Int)) oaa
   obtain⟨q,hk⟩:=nr s a (x.bg.length:Int)
   have hid:=Rq s a (x.bg.length:Int)
   simp only
   cases hq:ltB 0 (kR (dq s a (x.bg.length:Int)).1 (x.bg.length:Int))
   .simp only[cond_false]
    have ih:=Hx k {(dq s a (x.bg.length:Int)).1 with ax:=pG (dq s a (x.bg.length:Int)).1.ax x.bg} (dq s a (x.bg.length:Int)).2
     (r++[iJ (dq s a (x.bg.length:Int)).1.aV (dq s a (x.bg.length:Int)).1.ag (dq s a (x.bg.length:Int)).1.aT ⟨(dq s a (x.bg.length:Int)).1.ax.bB,x.bg⟩])
     (CG he (by rw[hk];exact e) hq) (λy hy=>by
      rcases aad.1 hy with hy|hy
      .exact hr y hy
      simp at hy;subst hy;exact Bm _ _ _ hb)
    rw[ih.1,ih.2.1,ih.2.2.1,ih.2.2.2.1]
    exact⟨by rw[hk],by rw[hk],hid,by rw[hk],ih.2.2.2.2⟩
   exact⟨by simp only[cond_true];rw[hk],by simp only[cond_true];rw[hk],hid,by simp only[cond_true];rw[hk],hr⟩
theorem U2 {a t:Int}:∀c∈Eo m a t,0<=c/\c<m.aX.length:=by
 intro c hc
 have h1:∀c∈nQ m a,0<=c/\c<m.aX.length:=λc hc=>by
  obtain⟨y,hy,rfl⟩:=aa8.1 hc
  have:=(abh.1 hy).1
  have:=List.mem_zipIdx this
  simp at this
  omega
 have h2:∀c∈SZ m,0<=c/\c<m.aX.length:=λc hc=>by
  obtain⟨k,hk,rfl⟩:=aa8.1 hc
  have:=List.mem_range.1 hk
  omega
 rw[Eo] at hc;revert hc
 cases eqB t 1&&ltB 0 (((nQ m a).length:Nat):Int)
 .cases inR t 1 4
  .simp
  exact h2 c
 exact h1 c
structure TK (nc:Nat) (s:ah) (a:am) (t:bZ):Prop where
 rcd:t.aZ.bA=s.bA
 cell:t.aZ.be=s.be
 si:t.aZ.bT.aG=s.bT.aG
 sub:t.aZ.aM=s.aM
 pg:∀m∈t.kF,0<=m.be/\m.be<nc
 pl:t.kF.length<=1000
 rd:∀x∈t.cz,xo x
 rl:t.cz.length<=4
theorem CA (h:SG s a) (hm:m.aX.length<=1000):TK m.aX.length s a (nE s a m):=by
 rw[nE]
 cases eqB s.bj 1
 .exact⟨rfl,rfl,rfl,rfl,by simp,by simp,by simp,by simp⟩
 simp only[au]
 have hg:=Gp h
 have hq:=yV h.sp
 cases ltB 4 (iZ s)
 .simp only[cond_false,M9]
  have hk:=Hx 2 _ _ [] (h.upd hq (yX h.sp)) (by simp)
  have hl:=z2 2 {s with d6:=iZ s,dP:=(lY s).2,bT:=(fQ s a).2} (fQ s a).1 []
  have hr:=DF s
  refine⟨hk.1,hk.2.1,hk.2.2.1.trans hg.2.2.1,hk.2.2.2.1,by simp,by simp,λx hx=>?_,by simp at hl ⊢;omega⟩
  rcases aad.1 hx with hx|hx
  .rw[lY] at hx;revert hx
   cases EJ s
   .simp
   cases ltB 0 s.dP
   .exact LE h.sp.win x
   simp
  exact hk.2.2.2.2 x hx
 simp only[cond_true,Hl]
 refine⟨rfl,rfl,hg.2.2.1,rfl,λx hx=>?_,by have:=D9 (p:={s.ge with fJ:=ma m s.be}) hm;simp only[aaz];exact this,by simp,by simp⟩
 obtain⟨c,hc,rfl⟩:=aa8.1 hx
 simp only[ML]
 rw[xN] at hc;revert hc
 cases ltB 0 s.ge.eU
 .exact U2 c
 simp
def xF (n:ab) (i:Nat) (t:bZ):ab:=
 sends (sends {n with aF:=n.aF.set i t.aZ,bG:=n.bG.set i t.eL} (t.kF.map (ie i false))) (t.cz.map (sR i t.aZ.be))
theorem Xu {nd nc i:Nat} (hi:i<nd) {c:Int} (hc:0<=c/\c<nc) {x:aA} (hx:xo x):FP nd nc (sR i c x):=
 ⟨by simp only[sR];omega,hc,hx.1,⟨by have:=hx.2;simp only[sR];omega,λ_ _=>trivial⟩⟩
theorem Jo (n:ab) (i:Nat) (t:bZ):(xF n i t).av=n.av/\(xF n i t).eo=n.eo/\(xF n i t).aF.length=n.aF.length/\(xF n i t).qz=n.qz:=by
 have h1:=lF (t.kF.map (ie i false)) {n with aF:=n.aF.set i t.aZ,bG:=n.bG.set i t.eL}
 have h2:=lF (t.cz.map (sR i t.aZ.be)) (sends {n with aF:=n.aF.set i t.aZ,bG:=n.bG.set i t.eL} (t.kF.map (ie i false)))
 rw[xF,h2.1,h2.2.1,h2.2.2.2.1,h2.2.2.2.2.2.2,h1.1,h1.2.1,h1.2.2.2.1,h1.2.2.2.2.2.2];simp
theorem MQ (h:NP B n) {i:Nat} (hs:n.aF[i]?=some s) (ha:n.bG[i]?=some a) {t:bZ} (hk:TK n.eo.aX.length s a t) (hg:SG t.aZ t.eL) (hB:B+2000<4611686018427387904):NP (B+2000) (xF n i t):=by
 have hi:=(aab.1 hs).1
 have hls:=h.ls
 obtain⟨d,s',a',h1,h2,h3,hm⟩:=h.at_ (show i<n.av.length by omega)
 rw[hs] at h2;cases h2
 rw[ha] at h3;cases h3
 have hmp:MP n.eo.aX.length i d t.aZ t.eL:=by
  refine⟨hm.dp,hm.dc,hg,by rw[hk.cell];exact hm.sc,by rw[hk.si];exact hm.si,?_⟩
  have:=hm.ids
  simp only[GE,hk.rcd] at this ⊢;exact this
 have hn:=h.setM hmp
 rw[gR h1] at hn
 have hpl:=hk.pl
 have hrl:=hk.rl
 have k1:=lF (t.kF.map (ie i false)) {n with aF:=n.aF.set i t.aZ,bG:=n.bG.set i t.eL}
 have p1:=zl (t.kF.map (ie i false)) hn (λf hf=>by
  obtain⟨m,hm',rfl⟩:=aa8.1 hf
  exact Lb (show i<n.av.length by omega) (hk.pg m hm')) (by simp;omega)
 have p2:=zl (t.cz.map (sR i t.aZ.be)) p1 (λf hf=>by
  obtain⟨x,hx,rfl⟩:=aa8.1 hf
  rw[k1.1,k1.2.2.2.1]
  exact Xu (show i<n.av.length by omega) (by rw[hk.cell];exact⟨hm.sg.sp.ce.1,hm.sc⟩) (hk.rd x hx)) (by simp;omega)
 exact p2.mono (by simp;omega)
def xO:Nat->Nat->ab->ab
 |0,_,n=>n
 |c+1,i,n=>match n.aF[i]?,n.bG[i]? with
  |some s,some a=>xO c (i+1) (xF n i (nE s a n.eo))
  |_,_=>n
theorem Ea {L:Int×ab->Option (cq (Int×ab) ab)} (N:Nat) (hN:N<=4)
 (hL:∀(i:Nat) (n:ab),n.aF.length=N->(i<N->∀s a,n.aF[i]?=some s->n.bG[i]?=some a->SG s a->pJ n.eo=true->L ((i:Int),n)=some (.next (((i+1:Nat):Int),xF n i (nE s a n.eo))))/\(N<=i->L ((i:Int),n)=some (.done n))):
 ∀(c i:Nat) {B:Int} (n:ab) (fu:Nat),NP B n->i+c=N->n.aF.length=N->c<fu->B+2000*c<4611686018427387904->iter L fu ((i:Int),n)=some (xO c i n)/\NP (B+2000*c) (xO c i n)/\(xO c i n).av=n.av/\(xO c i n).eo=n.eo
 |0,i,B,n,fu,h,h1,h2,h3,hB=>by
  cases fu with
  |zero=>omega
  |succ fu=>
   rw[iter,(hL i n h2).2 oaa]
   exact⟨rfl,by simpa [xO] using h,rfl,rfl⟩
 |c+1,i,B,n,fu,h,h1,h2,h3,hB=>by
  cases fu with
  |zero=>omega
  |succ fu=>
   have hls:=h.ls
   obtain⟨d,s,a,e1,e2,e3,hm⟩:=h.at_ (show i<n.av.length by omega)
   have hml:=mR h.map
   have hp:=MQ h e2 e3 (CA hm.sg oaa) (Na hm.sg h.map) oaa
   have hk:=Jo n i (nE s a n.eo)
   rw[iter,(hL i n h2).1 oaa s a e2 e3 hm.sg h.map,xO,e2,e3]
   simp only
   have ih:=Ea N hN hL c (i+1) (xF n i (nE s a n.eo)) fu hp oaa (by rw[hk.2.2.1];exact h2) oaa oaa
   exact⟨ih.1,ih.2.1.mono oaa,ih.2.2.1.trans hk.1,ih.2.2.2.trans hk.2.1⟩
def GU (n:ab):Bool×ab:=
 bif leB 100000 n.qz then(false,n) else
  let n1:=qZ n.av.length 0 {n with qz:=n.qz+1}
  (true,xO n1.aF.length 0 n1)
theorem Sy {B:Int} {n:ab} (h:NP B n) (hB:B+10000<4611686018427387904):CX n=some (GU n)/\Up n=some (GU n)/\NP (B+10000) (GU n).2:=by
 have hnw:=h.nw
 have hld:=h.ld
 rw[GU,CX,Up]
 cases hb:leB 100000 n.qz
 .have hb:=yK hb
  simp only[cond_false]
  have h1:NP B {n with qz:=n.qz+1}:={h with nw:=by simp only;omega}
  rw[bK (n:=n.qz+1) oaa]
  have rs:=D8 (L:=ut) n.av.length hld (λi n' hn'=>⟨λhi d hd hp=>by
   simp only[ut,hn',cy hi,bu,hd,Z1 hp.ok hp.wt.2,yU (show i<n'.av.length by omega) (show(qW d).db.length<=1048576 by have:=(yb d).len;omega),WRs (k:=i),au],λhi=>by
   simp only[ut,hn',ltB_f.2 (show(n.av.length:Int)<=(i:Int) by omega),cond_false]⟩) n.av.length 0 _ FU h1 oaa rfl (by have:=gW;omega) oaa
  have ri:=D8 (L:=B8 n) n.av.length hld (λi n' hn'=>⟨λhi d hd hp=>by
   simp only[B8,cy hi,bu,hd,Z0 hp.ok hp.wt.2,yT (show i<n'.av.length by omega) (show(qW d).db.length<=1048576 by have:=(yb d).len;omega),WRs (k:=i),au],λhi=>by
   simp only[B8,ltB_f.2 (show(n.av.length:Int)<=(i:Int) by omega),cond_false]⟩) n.av.length 0 _ FU h1 oaa rfl (by have:=gW;omega) oaa
  rw[show((0:Nat):Int)=0 from rfl] at rs ri
  have h2:=(rs).2.1
  have hls:=h2.ls
  have hl2:=h2.ld
  generalize qZ n.av.length 0 {n with qz:=n.qz+1}=n1 at*
  have radS:∀(n':ab) (i:Nat) (t:bZ),(∀x∈t.cz,xo x)->t.cz.length<=4->iter (nH (i:Int) t) FU (0,n')=some (sends n' (t.cz.map (sR i t.aZ.be))):=λn' i t ht hl=>by
   have:=eK (step:=nH (i:Int) t) t.cz (λk n=>((k:Int),n)) (λn x=>abU (gk n (sR i t.aZ.be x)) λr=>some (.next r)) some oaa
    (λk x n hx hk=>by
     simp only[nH,cy hk,bu,hx,WRs (k:=k),sR,au]
     cases gk n ⟨(i:Int),false,true,t.aZ.be,dQ,x⟩<;>rfl) (λn=>by simp[nH]) n'
   refine Eq.trans (show iter (nH (i:Int) t) FU (0,n')=_ from this) ?_
   clear this
   have key:∀(l:List aA) (n':ab),(∀x∈l,xo x)->kX (λ(n:ab) x=>abU (gk n (sR i t.aZ.be x)) λr=>some (cq.next (ρ:=ab) r)) some l n'=some (sends n' (l.map (sR i t.aZ.be))):=by
    intro l
    induction l with
    |nil=>intro n' _;rfl
    |cons x l ih=>intro n' hx;rw[kX,Ch (f:=sR i t.aZ.be x) ⟨by have:=(hx x (by simp)).2;simp only[sR];omega,λ_ _=>trivial⟩];exact ih _ λy hy=>hx y (by simp[hy])
   exact key t.cz n' ht
  have radI:∀(n':ab) (i:Nat) (t:bZ),(∀x∈t.cz,xo x)->t.cz.length<=4->iter (vp (i:Int) t) FU (0,n')=some (sends n' (t.cz.map (sR i t.aZ.be))):=λn' i t ht hl=>by
   have:=eK (step:=vp (i:Int) t) t.cz (λk n=>((k:Int),n)) (λn x=>abU (qf n (sR i t.aZ.be x)) λr=>some (.next r)) some oaa
    (λk x n hx hk=>by
     simp only[vp,cy hk,bu,hx,WRs (k:=k),sR,au]
     cases qf n ⟨(i:Int),false,true,t.aZ.be,dQ,x⟩<;>rfl) (λn=>by simp[vp]) n'
   refine Eq.trans (show iter (vp (i:Int) t) FU (0,n')=_ from this) ?_
   clear this
   have key:∀(l:List aA) (n':ab),(∀x∈l,xo x)->kX (λ(n:ab) x=>abU (qf n (sR i t.aZ.be x)) λr=>some (cq.next (ρ:=ab) r)) some l n'=some (sends n' (l.map (sR i t.aZ.be))):=by
    intro l
    induction l with
    |nil=>intro n' _;rfl
    |cons x l ih=>intro n' hx;rw[kX,Cg (f:=sR i t.aZ.be x) ⟨by have:=(hx x (by simp)).2;simp only[sR];omega,λ_ _=>trivial⟩];exact ih _ λy hy=>hx y (by simp[hy])
   exact key t.cz n' ht
  have ss:=Ea (L:=uu) n1.aF.length oaa (λi n' hn'=>⟨λhi s a hs ha hg hm=>by
   have hml:=mR hm
   have hk:=CA hg (m:=n'.eo) oaa
   simp only[uu,hn',cy hi,bu,hs,ha,XT hg (m:=n'.eo) oaa (GZ hg.sp.page),abY,OV _ _ _ (show(nE s a n'.eo).kF.length<=1048576 by have:=hk.pl;omega),radS _ i _ hk.rd hk.rl,xF,WRs (k:=i),au],λhi=>by
   simp only[uu,hn',ltB_f.2 (show(n1.aF.length:Int)<=(i:Int) by omega),cond_false]⟩) n1.aF.length 0 n1 FU h2 oaa rfl (by have:=gW;omega) oaa
  have si:=Ea (L:=B9 n1) n1.aF.length oaa (λi n' hn'=>⟨λhi s a hs ha hg hm=>by
   have hml:=mR hm
   have hk:=CA hg (m:=n'.eo) oaa
   simp only[B9,cy hi,bu,hs,ha,XS hg (m:=n'.eo) oaa (GZ hg.sp.page),abY,TI _ _ (show(nE s a n'.eo).kF.length<=1048576 by have:=hk.pl;omega),radI _ i _ hk.rd hk.rl,xF,WRs (k:=i),au],λhi=>by
   simp only[B9,ltB_f.2 (show(n1.aF.length:Int)<=(i:Int) by omega),cond_false]⟩) n1.aF.length 0 n1 FU h2 oaa rfl (by have:=gW;omega) oaa
  rw[show((0:Nat):Int)=0 from rfl] at ss si
  rw[rs.1]
  rw[ri.1]
  simp only[abX]
  rw[ss.1]
  rw[si.1]
  exact⟨rt,rt,(ss).2.1.mono oaa⟩
 exact⟨rt,rt,h.mono oaa⟩
end Go.AM
