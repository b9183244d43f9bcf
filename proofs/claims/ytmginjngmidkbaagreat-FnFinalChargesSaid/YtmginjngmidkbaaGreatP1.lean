/- A part. -/
import Derived.Test.YtmginjngmidkbaaGreatL
set_option linter.unusedVariables false
set_option linter.unusedSimpArgs false
open Option renaming bind_some->abX,bind->abU,map_some->ace,bind_assoc->acv
open List renaming getElem?_eq_getElem->v0,getElem?_eq_some_iff->aaa,mem_of_getElem?->aab,mem_append->aac,length_cons->aai,nil_append->aa8,mem_cons->aae,pairwise_cons->ab2,pairwise_append->ab3,length_append->aav,replicate->aaf,getElem?_of_mem->aap,getElem?_mapIdx->aca,getElem?_set->abI,length_nil->ab0,getElem?_eq_none->acd,takeWhile_append_dropWhile->acl,mem_map->aa7,takeWhile_cons->ach,ext_getElem?->ab9,all_eq_true->aag,mem_singleton->ab4,take_of_length_le->ab7,getElem_mem->aci,mem_filter->abg,cons_append->aaE,filter_cons->acm,dropWhile_subset->acp,length_filter_le->acq,length_singleton->acr,foldl_cons->ack,mem_of_mem_take->aaA,mem_zipIdx_iff_getElem?->acs,drop_left->acn,length->acj,find?_eq_none->acu,take_add_one->acg,any_eq_false->abk,append_assoc->aaR,drop_eq_getElem_cons->aaZ,rel_of_pairwise_cons->acD,getElem?_append_left->aal,range->f4,drop_length->acw,drop_drop->abc,takeWhile_subset->acE,take_left->aco,length_replicate->acF,getElem?_zipIdx->acy,dropWhile_cons->acG,take_length->acA,length_take->abf,length_map->aay,map_id'->acL
open Bool renaming and_eq_true->hV,or_eq_false_iff->aaq,eq_iff_iff->abZ,not_eq_false'->ab8,and_true->ab5,not_eq_true'->aax,true_and->ab6,or_self->acf,and_false->acJ,false_and->acK,false_or->aaJ,or_false->acC
open Int renaming toNat_natCast->abY,tmod_eq_emod_of_nonneg->ab1,tmod->abV,add_emod_right->acH,emod_lt_of_pos->acz,emod_eq_of_lt->acI,emod_nonneg->acB
open Nat renaming add_sub_cancel->acb,le_refl->aah,mul_le_mul->acx,zero_le->aas,le_trans->aba
namespace Go.AM
variable {σ τ ρ α β:Type} {n:Go.AM.ab} {k:Nat} {p:Go.AM.cN} {a:Go.AM.am} {b i B:Int} {r:Go.AM.aP} {w:Go.AM.a9} {s:Go.AM.ah} {x:Go.AM.ae} {m:Go.AM.aS} {f:Go.AM.bS} {q:Go.AM.cP} {t:List Go.AM.aD}
theorem hO:9223372036854775808<=FU:=by unfold FU;omega
def kj {α σ ρ:Type} (body:σ->α->Option (ct σ ρ)) (fin:σ->Option ρ):List α->σ->Option ρ
 |[],s=>fin s
 |x::xs,s=>match body s x with
  |some (.next s')=>kj body fin xs s'
  |some (.done r)=>some r
  |none=>none
def BW (f:σ->τ):Option (ct σ ρ)->Option (ct τ ρ)
 |some (.next s)=>some (.next (f s))
 |some (.done r)=>some (.done r)
 |none=>none
@[simp] theorem stepM_next (f:σ->τ) (s:σ):BW (ρ:=ρ) f (some (.next s))=some (.next (f s)):=rfl
@[simp] theorem stepM_done (f:σ->τ) (r:ρ):BW f (some (.done r))=some (.done r):=rfl
@[simp] theorem stepM_none (f:σ->τ):BW (ρ:=ρ) f none=none:=rfl
@[simp] theorem stepM_cond (f:σ->τ) (b:Bool) (x y:Option (ct σ ρ)):BW f (bif b then x else y)=bif b then BW f x else BW f y:=by cases b<;>rfl
@[simp] theorem stepM_bind (f:σ->τ) (o:Option α) (k:α->Option (ct σ ρ)):BW f (abU o k)=abU o (λa=>BW f (k a)):=by cases o<;>rfl
@[simp] theorem dn_some (r:ρ):dn (σ:=σ) (some r)=some (.done r):=rfl
@[simp] theorem dn_none {ρ:Type}:dn (σ:=σ) (ρ:=ρ) none=none:=rfl
theorem eG {step:τ->Option (ct τ ρ)} (xs:List α) (mk:Nat->σ->τ) (body:σ->α->Option (ct σ ρ)) (fin:σ->Option ρ) (hl:xs.length<=9223372036854775806)
 (hs:∀(k:Nat) (x:α) (s:σ),xs[k]?=some x->k<xs.length->step (mk k s)=BW (mk (k+1)) (body s x))
 (he:∀s,step (mk xs.length s)=dn (fin s)) (s0:σ):iter step FU (mk 0 s0)=kj body fin xs s0:=by
 have key:∀(m n:Nat) (s:σ) (k:Nat),m=xs.length-k->k<=xs.length->m<n->iter step n (mk k s)=kj body fin (xs.drop k) s:=by
  intro m
  induction m with
  |zero=>
   intro n s k hm hk hn
   cases n with
   |zero=>omega
   |succ n=>
    have:k=xs.length:=by omega
    subst this
    rw[acw,kj,iter,he]
    cases fin s<;>rfl
  |succ m ih=>
   intro n s k hm hk hn
   cases n with
   |zero=>omega
   |succ n=>
    have hlt:k<xs.length:=by omega
    rw[aaZ hlt,kj,iter,hs k xs[k] s (v0 hlt) hlt]
    cases hb:body s xs[k] with
    |none=>rfl
    |some o=>
     cases o with
     |done r=>rfl
     |next s'=>exact ih n s' (k+1) oaa oaa oaa
 have:=key (xs.length-0) FU s0 0 rfl (aas _) (by have:=hO;omega)
 simp_all
theorem bp (xs:List α) (k:Nat):ix xs (k:Int)=xs[k]?:=by simp[ix,leB]
theorem bO {n:Int} (h: -9223372036854775808<=n/\n<=9223372036854775807):WR n=n:=KA h
theorem oh (h:k<9223372036854775807):WR ((k:Int)+1)=((k+1:Nat):Int):=by rw[bO oaa];omega
theorem WRs (h:k<9223372036854775807:=by omega):WR ((k:Int)+1)=((k+1:Nat):Int):=oh h
theorem rt {p:Prop} (h:p:=by first|rfl|trivial):p:=h
theorem cI {a b:Nat} (h:a<b):ltB (a:Int) (b:Int)=true:=by simp[ltB,h]
theorem ci (a:Int):ltB a a=false:=by simp[ltB]
theorem bR (a:Int):eqB a a=true:=by simp[eqB]
theorem Rd {step:Int×List β->Option (ct (Int×List β) (List β))} (f:α->β) (z:β) (xs:List α) (hl:xs.length<=9223372036854775806)
 (hs:∀(k:Nat) (x:α) (v:List β),xs[k]?=some x->v.length=xs.length->step ((k:Int),v)=some (.next (((k+1:Nat):Int),v.set k (f x))))
 (he:∀v,step ((xs.length:Nat),v)=some (.done v)):iter step FU (0,aaf xs.length z)=some (xs.map f):=by
 have key:∀(m n:Nat) (k:Nat),m=xs.length-k->k<=xs.length->m<n->iter step n ((k:Int),(xs.take k).map f++aaf (xs.length-k) z)=some (xs.map f):=by
  intro m
  induction m with
  |zero=>
   intro n k hm hk hn
   cases n with
   |zero=>omega
   |succ n=>
    have:k=xs.length:=by omega
    subst this
    rw[iter,he]
    simp
  |succ m ih=>
   intro n k hm hk hn
   cases n with
   |zero=>omega
   |succ n=>
    have hlt:k<xs.length:=by omega
    rw[iter,hs k xs[k] _ (v0 hlt) (by simp;omega)]
    have e:((xs.take k).map f++aaf (xs.length-k) z).set k (f xs[k])=(xs.take (k+1)).map f++aaf (xs.length-(k+1)) z:=by
     apply ab9
     intro j
     rw[abI]
     by_cases hj:k=j
     .grind
     grind
    grind
 have:=key (xs.length-0) FU 0 rfl (aas _) (by have:=hO;omega)
 simp_all
attribute [local simp] ci bR bp
def okL (ok:α->Prop) (xs:List α):Prop:=xs.length<=1048576/\∀x∈xs,ok x
def preL (pre:α->Prop) (xs:List α):Prop:=xs.length<=9223372036854775807/\∀x∈xs,pre x
theorem EK {α ρ:Type} {body:Unit->α->Option (ct Unit ρ)} {fin:Unit->Option ρ}:∀(xs:List α),(∀x∈xs,body () x=some (.next ()))->kj body fin xs ()=fin ()
 |[],_=>rfl
 |x::xs,h=>by rw[kj,h x (by simp)];exact EK xs (λy hy=>h y (by simp[hy]))
theorem lt0_t {r:Int} (h:r<0):ltB r 0=true:=by simp[ltB,h]
theorem lt0_f {r:Int} (h:0<=r):ltB r 0=false:=by simp[ltB];omega
def sM (by_:Nat) (p:α->Bool) (f:α->β) (acc:List β) (x:α):Option (ct (List β) (List β)):=
 bif p x then(bif da by_ (acc++[f x]).length then some (.next (acc++[f x])) else none) else some (.next acc)
theorem tK {α β:Type} {by_:Nat} (hb:by_<=100000) (p:α->Bool) (f:α->β):∀(xs:List α) (acc:List β),acc.length+xs.length<=1048576->kj (sM by_ p f) some xs acc=some (acc++(xs.filter p).map f)
 |[],acc,h=>by simp[kj]
 |x::xs,acc,h=>by
  simp only[aai] at h
  rw[kj]
  cases hp:p x with
  |false=>
   rw[List.filter_cons_of_neg (by simp[hp])]
   simpa [sM,hp] using tK hb p f xs acc oaa
  |true=>
   have ha:da by_ (acc++[f x]).length=true:=by
    have h1:(acc++[f x]).length*by_<=1048577*100000:=acx (by simp;omega) hb
    simp only[da,decide_eq_true_eq]
    refine⟨by omega,by simp;omega⟩
   rw[List.filter_cons_of_pos (by simp[hp])]
   simp only[sM,hp,ha,cond_true]
   rw[tK hb p f xs (acc++[f x]) (by simp;omega)]
   simp
theorem cG {by_ n:Nat} (hb:by_<=100000) (hn:n<=1048577):da by_ n=true:=by
 have h1:n*by_<=1048577*100000:=acx hn hb
 simp only[da,decide_eq_true_eq]
 omega
def ye (n:Int):Prop:=0<=n/\n<=255
theorem wf_u8 {n:Int} (h:(Lit.int .u8 n).wf=true):ye n:=by
 simp[Lit.wf,IntKind.min,IntKind.max,IntKind.signed,IntKind.bits] at h
 exact⟨by omega,by omega⟩
theorem vb {L:Int->Option (ct Int Int)} (xs:List α) (p:α->Bool) (hl:xs.length<=9223372036854775806)
 (hs:∀(k:Nat) (x:α),xs[k]?=some x->k<xs.length->L (k:Int)=bif p x then some (.done (k:Int)) else some (.next ((k+1:Nat):Int))) (he:L (xs.length:Int)=some (.done (-1))):
 iter L FU 0=some (nK p 0 xs):=by
 have key:∀(m n:Nat) (k:Nat),m=xs.length-k->k<=xs.length->m<n->iter L n (k:Int)=some (nK p k (xs.drop k)):=by
  intro m
  induction m with
  |zero=>
   intro n k hm hk hn
   cases n with
   |zero=>omega
   |succ n=>
    have:k=xs.length:=by omega
    subst this
    rw[iter,he,acw,nK]
  |succ m ih=>
   intro n k hm hk hn
   cases n with
   |zero=>omega
   |succ n=>
    have hlt:k<xs.length:=by omega
    rw[iter,hs k xs[k] (v0 hlt) hlt,Uq hlt]
    cases p xs[k] with
    |true=>rfl
    |false=>exact ih n (k+1) oaa oaa oaa
 have:=key (xs.length-0) FU 0 rfl (aas _) (by have:=hO;omega)
 simpa using this
theorem Cl {α:Type} (p:α->Bool):∀(xs:List α) (i:Nat),nK p (i:Int) xs= -1/\(∀x∈xs,p x=false)\/∃j:Nat,nK p (i:Int) xs=((i+j:Nat):Int)/\∃x,xs[j]?=some x/\p x=true/\∀y∈xs.take j,p y=false
 |[],i=>.inl ⟨rfl,by simp⟩
 |x::xs,i=>by
  rw[nK]
  cases hp:p x with
  |true=>exact .inr ⟨0,by simp,x,rfl,hp,by simp⟩
  |false=>
   rcases Cl p xs (i+1) with⟨h1,h2⟩|⟨j,h1,y,h2,h3,h4⟩
   .exact .inl ⟨by simpa using h1,by simp[hp];exact h2⟩
   refine .inr ⟨j+1,?_,y,by simpa using h2,h3,by simp[hp];exact h4⟩
   have:nK p ((i:Int)+1) xs=((i+1+j:Nat):Int):=by simpa using h1
   simp only[cond_false]
   rw[this];omega
theorem KP {L:Int->Option (ct Int Bool)} (xs:List α) (p:α->Bool) (hl:xs.length<=9223372036854775806)
 (hs:∀(k:Nat) (x:α),xs[k]?=some x->k<xs.length->L (k:Int)=bif p x then some (.done true) else some (.next ((k+1:Nat):Int))) (he:L (xs.length:Int)=some (.done false)):
 iter L FU 0=some (xs.any p):=by
 have:=eG (step:=L) xs (λk (_:Unit)=>(k:Int)) (λ_ x=>bif p x then some (.done true) else some (.next ())) (λ_=>some false) hl
  (λk x s hx hk=>by rw[hs k x hx hk];cases p x<;>rfl) (λs=>by rw[he];rfl) ()
 refine Eq.trans (show iter L FU 0=_ from this) ?_
 have key:∀xs:List α,kj (λ(_:Unit) x=>bif p x then some (ct.done true) else some (.next ())) (λ_=>some false) xs ()=some (xs.any p):=by
  intro xs
  induction xs with
  |nil=>rfl
  |cons x xs ih=>rw[kj];cases hp:p x<;>simp[hp,ih]
 exact key xs
theorem Ti {L:Int->Option (ct Int Bool)} (xs:List α) (p:α->Bool) (hl:xs.length<=9223372036854775806)
 (hs:∀(k:Nat) (x:α),xs[k]?=some x->k<xs.length->L (k:Int)=bif p x then some (.next ((k+1:Nat):Int)) else some (.done false)) (he:L (xs.length:Int)=some (.done true)):
 iter L FU 0=some (xs.all p):=by
 have:=eG (step:=L) xs (λk (_:Unit)=>(k:Int)) (λ_ x=>bif p x then some (.next ()) else some (.done false)) (λ_=>some true) hl
  (λk x s hx hk=>by rw[hs k x hx hk];cases p x<;>rfl) (λs=>by rw[he];rfl) ()
 refine Eq.trans (show iter L FU 0=_ from this) ?_
 have key:∀xs:List α,kj (λ(_:Unit) x=>bif p x then some (.next ()) else some (ct.done false)) (λ_=>some true) xs ()=some (xs.all p):=by
  intro xs
  induction xs with
  |nil=>rfl
  |cons x xs ih=>rw[kj];cases hp:p x<;>simp[hp,ih]
 exact key xs
theorem allK {L:Int->Option (ct Int Bool)} (xs:List α) (p:Nat->α->Bool) (c:Option Bool) (hl:xs.length<=9223372036854775806)
 (hs:∀(k:Nat) (x:α),xs[k]?=some x->k<xs.length->L (k:Int)=bif p k x then some (.next ((k+1:Nat):Int)) else some (.done false)) (he:L (xs.length:Int)=dn c):
 iter L FU 0=bif xs.zipIdx.all (λy=>p y.2 y.1) then c else some false:=by
 have:=eG (step:=L) xs.zipIdx (λk (_:Unit)=>(k:Int)) (λ_ y=>bif p y.2 y.1 then some (.next ()) else some (.done false)) (λ_=>c) (by simp_all)
  (λk y s hy hk=>by
   have hk':k<xs.length:=by simpa using hk
   have:y=(xs[k],k):=by rw[v0 hk] at hy;simpa using hy.symm
   simp_all) (λs=>by simp_all) ()
 refine Eq.trans (show iter L FU 0=_ from this) ?_
 have key:∀ys:List (α×Nat),kj (λ(_:Unit) y=>bif p y.2 y.1 then some (.next ()) else some (ct.done false)) (λ_=>c) ys ()=bif ys.all (λy=>p y.2 y.1) then c else some false:=by
  intro ys
  induction ys with
  |nil=>rfl
  |cons x xs ih=>rw[kj];grind
 exact key _
def inR (n a b:Int):Bool:=leB a n&&leB n b
theorem bQ {n a:Int}:inR n a b=true↔a<=n/\n<=b:=by simp[inR,leB]
theorem AH {n:Nat} (h:n<=1048576):WR ((n:Int)-1)=(n:Int)-1:=bO oaa
theorem Uz {xs:List α} (h0:0<=i) (h1:i<xs.length):∃x,x∈xs/\ix xs i=some x:=by
 obtain⟨k,rfl⟩:=Int.eq_ofNat_of_zero_le h0
 have hk:k<xs.length:=by omega
 exact⟨xs[k],aci hk,by rw[bp,v0 hk]⟩
def rgI (k:IntKind) (n:Int):Prop:=(Lit.int k n).wf=true
theorem WT.rg {k:IntKind} {n:Int} (h:WT (.i k) (.i k n)):rgI k n:=by
 cases h with|i h=>exact h
theorem ON {α:Type} {e:List Sh} {f:α->List D}:∀{xs:List α},WTL e (xs.map f)->∀x∈xs,WTs e (f x)
 |[],_,x,hx=>by cases hx
 |y::ys,h,x,hx=>by
  cases h with
  |cons h1 h2=>
   rcases aae.1 hx with rfl|hx
   .exact h1
   exact ON h2 x hx
theorem WT.rl {e:List Sh} {f:α->List D} {xs:List α} (h:WT (.l e) (.l (xs.map f))):∀x∈xs,WTs e (f x):=by
 cases h with|l hl h=>exact ON h
def Wp (m:Option α) (Q:α->Prop):Prop:=match m with
 |some a=>Q a
 |none=>False
theorem Wp.ex {m:Option α} {Q:α->Prop} (h:Wp m Q):∃a,m=some a/\Q a:=by
 cases m with
 |none=>exact h.elim
 |some a=>exact⟨a,rfl,h⟩
theorem Wp.of {m:Option α} {Q:α->Prop} {a:α} (h:m=some a) (q:Q a):Wp m Q:=by subst h;exact q
theorem Wp.some {α:Type} {a:α} {Q:α->Prop} (h:Q a):Wp (some a) Q:=h
theorem Wp.bind {m:Option α} {k:α->Option β} {Q:β->Prop} (h:Wp m (λa=>Wp (k a) Q)):Wp (abU m k) Q:=by
 cases m with
 |none=>exact h.elim
 |some a=>exact h
theorem Wp.mono {m:Option α} {P Q:α->Prop} (h:Wp m P) (k:∀a,P a->Q a):Wp m Q:=by
 cases m with
 |none=>exact h.elim
 |some a=>exact k a h
theorem Wp.call {m:Option α} {k:α->Option β} {P:α->Prop} {Q:β->Prop} (h:Wp m P) (hk:∀a,P a->Wp (k a) Q):Wp (abU m k) Q:=Wp.bind (h.mono hk)
theorem Wp.eq {m:Option α} {k:α->Option β} {a:α} {Q:β->Prop} (h:m= .some a) (hk:Wp (k a) Q):Wp (abU m k) Q:=by subst h;exact hk
theorem Wp.cond {b:Bool} {x y:Option α} {Q:α->Prop} (h1:b=true->Wp x Q) (h0:b=false->Wp y Q):Wp (bif b then x else y) Q:=by
 cases b
 .exact h0 rfl
 exact h1 rfl
theorem Wp.ok {b:Bool} {x:Option α} {Q:α->Prop} (hb:b=true) (h:Wp x Q):Wp (bif b then x else none) Q:=by subst hb;exact h
theorem Wp.iter {step:σ->Option (ct σ ρ)} {Q:ρ->Prop} (I:σ->Prop) (μ:σ->Nat) (h:∀x,I x->Wp (step x) (λs=>match s with| .next x'=>I x'/\μ x'<μ x| .done r=>Q r)):
 ∀(n:Nat) (x:σ),I x->μ x<n->Wp (AM.iter step n x) Q
 |0,_,_,h=>by omega
 |n+1,x,hI,hn=>by
  obtain⟨s,e,hs⟩:=(h x hI).ex
  rw[AM.iter,e]
  cases s with
  |next x'=>exact Wp.iter I μ h n x' hs.1 (by have:=hs.2;omega)
  |done r=>exact hs
theorem Wp.iterF {step:σ->Option (ct σ ρ)} {Q:ρ->Prop} (I:σ->Prop) (μ:σ->Nat) {x:σ} (hI:I x) (hn:μ x<=1000000000000) (h:∀x,I x->Wp (step x) (λs=>match s with| .next x'=>I x'/\μ x'<μ x| .done r=>Q r)):Wp (AM.iter step FU x) Q:=
 Wp.iter I μ h FU x hI (by have:=hO;omega)
theorem Wp.dn {m:Option ρ} {Q:ct σ ρ->Prop} (h:Wp m (λr=>Q (.done r))):Wp (AM.dn m) Q:=by
 cases m with
 |none=>exact h.elim
 |some r=>exact h
theorem Wp.ix {xs:List α} {k:α->Option β} {Q:β->Prop} (h0:0<=i) (h1:i<xs.length) (hk:∀x,x∈xs->xs[i.toNat]?= .some x->Wp (k x) Q):Wp (abU (AM.ix xs i) k) Q:=by
 have hl:i.toNat<xs.length:=by omega
 have hx:xs[i.toNat]?= .some xs[i.toNat]:=v0 hl
 refine Wp.eq (a:=xs[i.toNat]) ?_ (hk _ (aci hl) hx)
 unfold AM.ix
 rw[show leB 0 i=true from by simp[leB,h0]]
 exact hx
theorem mI {a:Int} (h:ltB a b=true):a<b:=ltB_t.1 h
theorem pP {a:Int} (h:ltB a b=false):b<=a:=ltB_f.1 h
theorem zt {a:Int} (h:leB a b=true):a<=b:=leB_t.1 h
theorem xq {a:Int} (h:leB a b=false):b<a:=leB_f.1 h
theorem pH {a:Int} (h:eqB a b=true):a=b:=eqB_t.1 h
theorem Ji {a:Int} (h:eqB a b=false):a≠b:=eqB_f.1 h
theorem gk {b n:Nat} (h:n*b<=140737488355328) (h':n<=9223372036854775807):da b n=true:=by simp[da,h,h']
def XQ (a:fy):Prop:=okL (λ_=>True) a.cF
def gz (a:aS):Prop:=okL XQ a.a8
def ge (a:ae):Prop:=okL (λ_=>True) a.bb
def s3 (a:bV):Prop:=okL (λ_=>True) a.bb
def fw (a:aP):Prop:=okL ge a.aK/\okL s3 a.be
def eu (a:aJ):Prop:=fw a.bY
def eO (a:bP):Prop:=okL (λ_=>True) a.bJ
def jv (a:a9):Prop:=okL ge a.aA
def d9 (a:ah):Prop:=eO a.gG/\okL s3 a.aG/\jv a.aw
def ie (a:am):Prop:=okL (λ_=>True) a.aj
def ua (a:bv):Prop:=okL (λ_=>True) a.bb
def oS (a:ax):Prop:=ua a.bC
def kX (a:bS):Prop:=oS a.cA
def iN (a:ab):Prop:=gz a.ei/\okL eu a.av/\okL d9 a.aF/\okL ie a.bk/\okL kX a.aT
open Go.Proofs
def fP (p:Nat->α->Bool) (xs:List α):Bool:=xs.zipIdx.all (λy=>p y.2 y.1)
theorem eM {p:Nat->α->Bool} {xs:List α}:fP p xs=true↔∀(k:Nat) (x:α),xs[k]?=some x->p k x=true:=by
 unfold fP
 rw[aag]
 constructor
 .intro h k x hx
  exact h (x,k) (by rw[acs];simpa using hx)
 rintro h ⟨x,k⟩ hm
 rw[acs] at hm
 exact h k x (by simpa using hm)
theorem Na {p q:Nat->α->Bool} {xs:List α} (h:∀(k:Nat) (x:α),xs[k]?=some x->p k x=q k x):fP p xs=fP q xs:=by
 rw[abZ,eM,eM]
 constructor
 .intro g k x hx;rw[<-h k x hx];exact g k x hx
 intro g k x hx;rw[h k x hx];exact g k x hx
theorem KN {p q:Nat->α->Bool} {xs:List α}:(fP p xs&&fP q xs)=fP (λk x=>p k x&&q k x) xs:=by
 rw[abZ,hV,eM,eM,eM]
 constructor
 .rintro⟨h1,h2⟩ k x hx;simp[h1 k x hx,h2 k x hx]
 intro h
 exact⟨λk x hx=>by have:=h k x hx;simp at this;exact this.1,λk x hx=>by have:=h k x hx;simp at this;exact this.2⟩
theorem sx {p:α->Bool} {xs:List α}:fP (λ_ x=>p x) xs=xs.all p:=by
 rw[abZ,eM,aag]
 constructor
 .intro h x hx
  obtain⟨k,hk,rfl⟩:=List.getElem_of_mem hx
  exact h k _ (v0 hk)
 intro h k x hx;exact h x (aab hx)
theorem gj {L:Int->Option (ct Int Bool)} (xs:List α) (p:Nat->α->Bool) (c:Option Bool) (hl:xs.length<=9223372036854775806)
 (hs:∀(k:Nat) (x:α),xs[k]?=some x->k<xs.length->L (k:Int)=bif p k x then some (.next ((k+1:Nat):Int)) else some (.done false)) (he:L (xs.length:Int)=dn c):
 iter L FU 0=bif fP p xs then c else some false:=allK xs p c hl hs he
theorem wq {xs:List α} (hk:k<xs.length) (h0:0<k) (hl:xs.length<=9223372036854775806):∃y,xs[k-1]?=some y/\ix xs (WR ((k:Int)-1))=some y:=by
 have h1:k-1<xs.length:=by omega
 refine⟨xs[k-1],v0 h1,?_⟩
 rw[bO oaa,show((k:Int)-1)=((k-1:Nat):Int) from by omega,bp,v0 h1]
def jX (key:α->Int) (xs:List α) (k:Nat) (x:α):Bool:=match k with
 |0=>true
 |j+1=>match xs[j]? with
  |some y=>!leB (key x) (key y)
  |none=>false
def asc (xs:List Int):Bool:=fP (jX id xs) xs
theorem gE (a b c:Int):cf a b c=some (inR a b c):=by
 unfold cf inR
 cases leB b a<;>rfl
theorem fY (a b c:Int):du a b c=some (inR a b c):=by
 unfold du inR
 cases leB b a<;>rfl
theorem Pi {xs:List Int} (h:xs.length<=1048576):oJ xs=some (asc xs):=by
 have key:∀(n m:Nat) (j:Nat),j+n=xs.length->1<=j->n<m->∃b,iter (kG xs) m (j:Int)=some b/\(b=true↔∀k x,j<=k->xs[k]?=some x->jX id xs k x=true):=by
  intro n
  induction n with
  |zero=>
   intro m j hj h1 hm
   cases m with
   |zero=>omega
   |succ m=>
    simp only[iter,kG]
    rw[show ltB (j:Int) (xs.length:Int)=false from by simp[ltB];omega]
    refine⟨true,rfl,λ_ k x hk hx=>?_,λ_=>rfl⟩
    have:=(aaa.1 hx).1
    omega
  |succ n ih=>
   intro m j hj h1 hm
   cases m with
   |zero=>omega
   |succ m=>
    have hjl:j<xs.length:=by omega
    obtain⟨y,hy,hi⟩:=wq hjl oaa oaa
    simp only[iter,kG]
    rw[cI hjl,hi,bp,v0 hjl]
    simp only[au]
    obtain⟨i,rfl⟩:∃i,j=i+1:=⟨j-1,by omega⟩
    simp only[acb] at hy
    cases hle:leB xs[i+1] y with
    |true=>
     refine⟨false,rfl,(λh=>by cases h),λhh=>?_⟩
     have:=hh (i+1) _ (aah _) (v0 hjl)
     simp[jX,hy,hle] at this
    |false=>
     simp only[cond_false]
     rw[WRs (k:=i+1)]
     obtain⟨b,hb,hi⟩:=ih m (i+1+1) oaa oaa oaa
     refine⟨b,hb,hi.trans ⟨λhh k x hk hx=>?_,λhh k x hk hx=>hh k x oaa hx⟩⟩
     by_cases e:k=i+1
     .subst e
      rw[v0 hjl] at hx;cases hx
      simp[jX,hy,hle]
     exact hh k x oaa hx
 unfold oJ
 cases hx:xs with
 |nil=>
  have:FU=(FU-1)+1:=by have:=hO;omega
  rw[this,iter]
  simp[kG,dn,ltB,asc,fP]
 |cons a l=>
  rw[<-hx]
  obtain⟨b,hb,hi⟩:=key (xs.length-1) FU 1 (by have:0<xs.length:=(by rw[hx];simp);omega) (aah _) (by have:=hO;omega)
  rw[show(1:Int)=((1:Nat):Int) from rfl,hb]
  congr 1
  rw[abZ,hi,asc,eM]
  constructor
  .intro hh k x hk
   cases k with
   |zero=>rfl
   |succ k=>exact hh _ x oaa hk
  intro hh k x _ hk;exact hh k x hk
def nU (k:Int):Bool:=inR k 1 2147483646
theorem LD (k:Int):gQ k=some (nU k):=by simp only[gQ,gE,abX,nU]
theorem LE (k:Int):iA k=some (nU k):=by simp only[iA,fY,abX,nU]
def GA (x:dw):Bool:=inR x.dZ 0 3&&inR x.bW 0 99
theorem Y9 (x:dw):gR x=some (GA x):=by
 simp only[gR,gE,abX,GA];cases inR x.dZ 0 3<;>rfl
theorem Za (x:dw):gW x=some (GA x):=by
 simp only[gW,fY,abX,GA];cases inR x.dZ 0 3<;>rfl
def tx (x:lC):Bool:=GA x.ID&&(nU x.fo&&inR x.dv 0 999999)
theorem Wf (x:lC):oy x=some (tx x):=by
 simp only[oy,Y9,LD,gE,abX,tx];cases GA x.ID<;>cases nU x.fo<;>rfl
theorem Wg (x:lC):oZ x=some (tx x):=by
 simp only[oZ,Za,LE,fY,abX,tx];cases GA x.ID<;>cases nU x.fo<;>rfl
def tF (x:aO):Bool:=GA x.ID&&(nU x.fo&&inR x.c8 0 999999)
theorem Y3 (x:aO):fK x=some (tF x):=by
 simp only[fK,Y9,LD,gE,abX,tF];cases GA x.ID<;>cases nU x.fo<;>rfl
theorem Vo (x:aO):eR x=some (tF x):=by
 simp only[eR,Za,LE,fY,abX,tF];cases GA x.ID<;>cases nU x.fo<;>rfl
def kz (x:cN):Bool:=inR x.f6 0 2&&(inR x.eX 0 4&&inR x.fA 0 3)
theorem Vc (x:cN):ox x=some (kz x):=by
 simp only[ox,gE,abX,kz];cases inR x.f6 0 2<;>cases inR x.eX 0 4<;>rfl
theorem Vd (x:cN):oY x=some (kz x):=by
 simp only[oY,fY,abX,kz];cases inR x.f6 0 2<;>cases inR x.eX 0 4<;>rfl
def kh (x:bH):Bool:=inR x.fx 1 6&&inR x.fB 0 (WR ((md .i64 1 x.fx)-1))
theorem JU (x:bH):kn x=some (kh x):=by
 simp only[kn,gE,abX,kh]
 cases h:inR x.fx 1 6 with
 |false=>rfl
 |true=>rw[show leB 0 x.fx=true from by rw[bQ] at h;simp[leB];omega];rfl
theorem NT (x:bH):mw x=some (kh x):=by
 simp only[mw,fY,abX,kh]
 cases h:inR x.fx 1 6 with
 |false=>rfl
 |true=>rw[show leB 0 x.fx=true from by rw[bQ] at h;simp[leB];omega];rfl
def jy (x:cP):Bool:=leB 0 x.aC&&(leB 0 x.er&&(leB x.er x.cS&&leB x.cS 100000))
theorem DU (x:cP):jt x=some (jy x):=by
 simp only[jt,abX,jy];cases leB 0 x.aC<;>cases leB 0 x.er<;>cases leB x.er x.cS<;>rfl
theorem Bx (x:cP):iB x=some (jy x):=by
 have:jy x=(leB 0 x.aC&&(inR x.cS 0 100000&&inR x.er 0 x.cS)):=by
  rw[abZ];simp[jy,inR,leB];omega
 rw[this]
 simp only[iB,fY,abX];cases leB 0 x.aC<;>cases inR x.cS 0 100000<;>rfl
def vc (n:Nat):Bool:=!ltB 60 (n:Int)
def AE (xs:List bV):Bool:=xs.all λx=>vc x.bb.length
theorem YQ {xs:List bV} (h:xs.length<=1048576):tY xs=some (AE xs):=
 Ti xs (λx=>vc x.bb.length) oaa (λk x hx hk=>by
  simp only[sU,cI hk,bp,hx,WRs (k:=k),vc,au]
  cases ltB 60 (x.bb.length:Int)<;>rfl) (by simp[sU,dn])
def yf (r:aP) (k:Nat) (x:ae):Bool:=inR x.c8 (WR (r.bB+1)) (WR (WR (r.bB+8)-1))&&(jX ae.c8 r.aK k x&&vc x.bb.length)
def pz (r:aP):Bool:=eqB r.bB (WR ((r.be.length:Int)+1))&&(leB (r.be.length:Int) 24&&(AE r.be&&(leB (r.aK.length:Int) 8&&fP (yf r) r.aK)))
theorem sY (a b:Int):ltB a b=!leB b a:=by rw[abZ];simp[ltB,leB]
theorem Vr (h1:r.be.length<=1048576) (h2:r.aK.length<=1048576):jQ r=some (pz r):=by
 have hL:iter (jF r) FU 0=bif fP (yf r) r.aK then some true else some false:=by
  refine gj r.aK (yf r) (some true) oaa (λk x hx hk=>?_) (by simp[jF])
  simp only[jF,cI hk,bp,hx,WRs (k:=k),gE,yf,vc,au]
  cases k with
  |zero=>
   simp only[jX,show ltB 0 ((0:Nat):Int)=false from by simp[ltB]]
   cases ltB 60 (x.bb.length:Int)<;>cases inR x.c8 (WR (r.bB+1)) (WR (WR (r.bB+8)-1))<;>rfl
  |succ k=>
   obtain⟨y,hy,hi⟩:=wq hk oaa oaa
   simp only[acb] at hy
   simp only[jX,hy,hi,show ltB 0 ((k+1:Nat):Int)=true from by simp[ltB],abX]
   cases ltB 60 (x.bb.length:Int)<;>cases inR x.c8 (WR (r.bB+1)) (WR (WR (r.bB+8)-1))<;>cases leB x.c8 y.c8<;>rfl
 simp only[jQ,YQ h1,abX,hL,pz,sY 24,sY 8]
 cases eqB r.bB (WR ((r.be.length:Int)+1))<;>cases leB (r.be.length:Int) 24<;>cases AE r.be<;>cases leB (r.aK.length:Int) 8<;>cases fP (yf r) r.aK<;>rfl
theorem Vs (h1:r.be.length<=1048576) (h2:r.aK.length<=1048576):jY r=some (pz r):=by
 have hF:iter (im r) FU 0=bif fP (λ_ x=>vc x.bb.length) r.be then some (eqB r.bB (WR ((r.be.length:Int)+1))&&(leB (r.be.length:Int) 24&&leB (r.aK.length:Int) 8)) else some false:=by
  refine gj r.be (λ_ x=>vc x.bb.length) _ oaa (λk x hx hk=>?_) ?_
  .simp only[im,cI hk,bp,hx,WRs (k:=k),vc,au]
   cases ltB 60 (x.bb.length:Int)<;>rfl
  simp only[im,ci,cond_false]
  cases eqB r.bB (WR ((r.be.length:Int)+1))<;>cases leB (r.be.length:Int) 24<;>rfl
 have hL:iter (jG r) FU 0=bif fP (yf r) r.aK then iter (im r) FU 0 else some false:=by
  refine gj r.aK (yf r) _ oaa (λk x hx hk=>?_) (by simp[jG])
  simp only[jG,cI hk,bp,hx,WRs (k:=k),fY,yf,vc,au]
  cases k with
  |zero=>
   simp only[jX,show ltB 0 ((0:Nat):Int)=false from by simp[ltB]]
   cases ltB 60 (x.bb.length:Int)<;>cases inR x.c8 (WR (r.bB+1)) (WR (WR (r.bB+8)-1))<;>rfl
  |succ k=>
   obtain⟨y,hy,hi⟩:=wq hk oaa oaa
   simp only[acb] at hy
   simp only[jX,hy,hi,show ltB 0 ((k+1:Nat):Int)=true from by simp[ltB],abX]
   cases ltB 60 (x.bb.length:Int)<;>cases inR x.c8 (WR (r.bB+1)) (WR (WR (r.bB+8)-1))<;>cases leB x.c8 y.c8<;>rfl
 rw[sx] at hF
 simp only[jY,hL,hF,pz,AE]
 cases eqB r.bB (WR ((r.be.length:Int)+1))<;>cases leB (r.be.length:Int) 24<;>cases(r.be.all λx=>vc x.bb.length)<;>cases leB (r.aK.length:Int) 8<;>cases fP (yf r) r.aK<;>rfl
def lA (d:aJ):Bool:=tx d.dq&&(inR d.bi 0 3&&(inR d.bg 0 5&&(inR d.ag 0 999999&&(inR d.aX 0 999999&&(inR d.aZ 0 2147483646&&((!inR d.bi 2 3||nU d.aZ)&&(inR d.fA 0 3&&pz d.bY)))))))
theorem st23 (n:Int):inR n 2 3=(eqB n 2||eqB n 3):=by rw[abZ];simp[inR,leB,eqB];omega
theorem TN {d:aJ} (h1:d.bY.be.length<=1048576) (h2:d.bY.aK.length<=1048576):ou d=some (lA d):=by
 simp only[ou,Wf,gE,LD,Vr h1 h2,abX,lA,st23]
 cases tx d.dq<;>cases inR d.bi 0 3<;>cases inR d.bg 0 5<;>try rfl
 cases inR d.ag 0 999999<;>cases inR d.aX 0 999999<;>cases inR d.aZ 0 2147483646<;>try rfl
 cases eqB d.bi 2<;>cases eqB d.bi 3<;>cases nU d.aZ<;>cases inR d.fA 0 3<;>rfl
theorem TO {d:aJ} (h1:d.bY.be.length<=1048576) (h2:d.bY.aK.length<=1048576):oV d=some (lA d):=by
 simp only[oV,Wg,fY,LE,Vs h1 h2,abX,lA]
 cases inR d.bi 2 3<;>cases nU d.aZ<;>cases tx d.dq<;>cases inR d.bi 0 3<;>cases inR d.bg 0 5<;>cases inR d.ag 0 999999<;>try rfl
 all_goals (cases inR d.aX 0 999999<;>cases inR d.aZ 0 2147483646<;>cases inR d.fA 0 3<;>rfl)
theorem ve {α:Type} {step:Int×Int->Option (ct (Int×Int) Int)} (xs:List α) (f:Int->α->Int) (hl:xs.length<=9223372036854775806)
 (hs:∀(k:Nat) (x:α) (a:Int),xs[k]?=some x->k<xs.length->step (a,(k:Int))=some (.next (f a x,((k+1:Nat):Int)))) (he:∀a,step (a,(xs.length:Int))=some (.done a)) (a0:Int):
 iter step FU (a0,0)=some (xs.foldl f a0):=by
 have:=eG (step:=step) xs (λk (v:Int)=>(v,(k:Int))) (λv x=>some (.next (f v x))) some hl
  (λk x s hx hk=>by rw[hs k x s hx hk];rfl) (λs=>by rw[he];rfl) a0
 refine Eq.trans (show iter step FU (a0,0)=_ from this) ?_
 clear this he hs
 induction xs generalizing a0 with
 |nil=>rfl
 |cons x xs ih=>rw[kj,ack];exact ih (by simp at hl;omega) _
def ya (xs:List ae):Int:=xs.foldl (λa x=>WR (a+(x.bb.length:Int))) 0
theorem nb_i {xs:List ae} (h:xs.length<=1048576):oL xs=some (ya xs):=by
 unfold oL
 rw[ve xs (λa x=>WR (a+(x.bb.length:Int))) oaa (λk x a hx hk=>by
  simp only[oN,cI hk,bp,hx,WRs (k:=k),au]) (λa=>by simp[oN])]
 rfl
theorem XM {xs:List ae} (h:xs.length<=1048576):pV xs=some (ya xs):=by
 unfold pV
 rw[ve xs (λa x=>WR (a+(x.bb.length:Int))) oaa (λk x a hx hk=>by
  simp only[wP,cI hk,bp,hx,WRs (k:=k),au]) (λa=>by simp[wP])]
 rfl
def L8 (q:cP):Int:=bif jy q then WR (q.cS-q.er) else 0
theorem Y4 (q:cP):kD q=some (L8 q):=by simp only[kD,DU,abX,L8];cases jy q<;>rfl
theorem Y5 (q:cP):kQ q=some (L8 q):=by simp only[kQ,Bx,abX,L8];cases jy q<;>rfl
def Cp (p:bP):Bool:=inR p.jM 1 1000&&(inR p.jJ 1 4&&inR p.et 1 100000)
def qL (p:bP):Bool:=Cp p&&fP (λk x=>inR x 0 3&&jX id p.bJ k x) p.bJ
theorem subs_i {p:bP} (h:eO p):jg p=some (qL p):=by
 have hl:=h.1
 have hL:iter (gZ p) FU 0=bif fP (λ_ x=>inR x 0 3) p.bJ then some (asc p.bJ) else some false:=by
  refine gj p.bJ (λ_ x=>inR x 0 3) _ oaa (λk x hx hk=>?_) (by simp[gZ,Pi hl])
  simp only[gZ,cI hk,bp,hx,WRs (k:=k),gE,au]
  cases inR x 0 3<;>rfl
 simp only[jg,gE,abX,hL,qL,Cp,<-KN,asc]
 cases inR p.jM 1 1000<;>cases inR p.jJ 1 4<;>cases inR p.et 1 100000<;>cases fP (λ_ x=>inR x 0 3) p.bJ<;>rfl
theorem VY {p:bP} (h:eO p):gX p=some (qL p):=by
 have hl:=h.1
 have hL:iter (g9 p) FU 0=bif fP (λk x=>inR x 0 3&&jX id p.bJ k x) p.bJ then some (Cp p) else some false:=by
  refine gj p.bJ _ _ oaa (λk x hx hk=>?_) ?_
  .simp only[g9,cI hk,bp,hx,WRs (k:=k),fY,au]
   cases k with
   |zero=>
    simp only[jX,show ltB 0 ((0:Nat):Int)=false from by simp[ltB]]
    cases inR x 0 3<;>rfl
   |succ k=>
    obtain⟨y,hy,hi⟩:=wq hk oaa oaa
    simp only[acb] at hy
    simp only[jX,hy,hi,hx,bp,show ltB 0 ((k+1:Nat):Int)=true from by simp[ltB],abX,id]
    cases inR x 0 3<;>cases leB x y<;>rfl
  simp only[g9,ci,fY,Cp,au]
  cases inR p.jM 1 1000<;>cases inR p.jJ 1 4<;>rfl
 simp only[gX,hL,qL]
 cases Cp p<;>cases fP (λk x=>inR x 0 3&&jX id p.bJ k x) p.bJ<;>rfl
def unB (w:a9) (k:Nat) (x:ae):Bool:=eqB x.c8 (WR (WR (w.bB-(w.aA.length:Int))+(k:Int)))&&vc x.bb.length
def jI (w:a9):Bool:=inR w.bB 1 100000&&(leB (w.aA.length:Int) 8&&(leB 1 (WR (w.bB-(w.aA.length:Int)))&&fP (unB w) w.aA))
theorem Mn (h:jv w):lG w=some (jI w):=by
 have hl:=h.1
 have hL:iter (lh w) FU 0=bif fP (unB w) w.aA then some true else some false:=by
  refine gj w.aA (unB w) _ oaa (λk x hx hk=>?_) (by simp[lh])
  simp only[lh,cI hk,bp,hx,WRs (k:=k),unB,vc,au]
  cases eqB x.c8 (WR (WR (w.bB-(w.aA.length:Int))+(k:Int)))<;>cases ltB 60 (x.bb.length:Int)<;>rfl
 simp only[lG,gE,abX,hL,jI,sY]
 cases inR w.bB 1 100000<;>cases leB (w.aA.length:Int) 8<;>cases leB 1 (WR (w.bB-(w.aA.length:Int)))<;>cases fP (unB w) w.aA<;>rfl
theorem Mo (h:jv w):lW w=some (jI w):=by
 have hl:=h.1
 have hL:iter (lx w) FU 0=bif fP (unB w) w.aA then some (inR w.bB 1 100000&&(leB (w.aA.length:Int) 8&&leB 1 (WR (w.bB-(w.aA.length:Int))))) else some false:=by
  refine gj w.aA (unB w) _ oaa (λk x hx hk=>?_) ?_
  .simp only[lx,cI hk,bp,hx,WRs (k:=k),unB,vc,au]
   cases eqB x.c8 (WR (WR (w.bB-(w.aA.length:Int))+(k:Int)))<;>cases ltB 60 (x.bb.length:Int)<;>rfl
  simp only[lx,ci,fY,au]
  cases inR w.bB 1 100000<;>cases leB (w.aA.length:Int) 8<;>rfl
 simp only[lW,hL,jI]
 cases inR w.bB 1 100000<;>cases leB (w.aA.length:Int) 8<;>cases leB 1 (WR (w.bB-(w.aA.length:Int)))<;>cases fP (unB w) w.aA<;>rfl
def Il (a b:List Int):Bool:=strB (xo a) (xo b)
theorem eqb_i (a b:List Int):xL a b=some (Il a b):=rfl
theorem eqb_s (a b:List Int):qD a b=some (Il a b):=rfl
def AC (s:ah) (x:ae):Bool:=match s.aG[(x.c8-1).toNat]? with
 |some y=>Il x.bb y.bb
 |none=>false
def nE (s:ah):Bool:=leB (s.aG.length:Int) 24&&(AE s.aG&&(jI s.aw&&leB s.aw.bB (WR ((s.aG.length:Int)+1))))
def uc (s:ah):Bool:=leB (ya s.aw.aA) (L8 s.bU)
def Fi (s:ah):Bool:=(!eqB s.bi 1||nU s.aZ)&&(!ltB 0 s.bL||nU s.aK.fo)
def jp (s:ah):Bool:=tF s.bE&&(qL s.gG&&(kz s.gr&&(jI s.aw&&(jy s.bU&&(inR s.bi 0 1&&(Fi s&&(inR s.bL 0 999999&&(inR s.ag 0 999999&&(inR s.aX 0 999999&&(inR s.aZ 0 2147483646&&
 (inR s.bg 0 5&&(inR s.dX 0 5&&(inR s.dP 0 3&&(leB (s.aG.length:Int) 24&&(AE s.aG&&(leB s.aw.bB (WR ((s.aG.length:Int)+1))&&(s.aw.aA.all (AC s)&&uc s)))))))))))))))))
theorem Ze (hs:nE s=true) (hx:s.aw.aA[k]?=some x):∃y,ix s.aG (WR (x.c8-1))=some y/\s.aG[(x.c8-1).toNat]?=some y:=by
 simp only[nE,jI,hV,eM,bQ] at hs
 obtain⟨h1,h2,⟨⟨h3,h3'⟩,h4,h5,h6⟩,h7⟩:=hs
 have hk:=(aaa.1 hx).1
 have h8:=h6 k x hx
 simp only[unB,hV] at h8
 have h4':(s.aw.aA.length:Int)<=8:=by simpa [leB] using h4
 have h1':(s.aG.length:Int)<=24:=by simpa [leB] using h1
 rw[bO oaa] at h5
 rw[bO oaa] at h7
 have h9:=h8.1
 rw[bO (n:=s.aw.bB-_) oaa,bO oaa] at h9
 have h9':x.c8=s.aw.bB-s.aw.aA.length+k:=by simpa [eqB] using h9
 have h5':1<=s.aw.bB-(s.aw.aA.length:Int):=by simpa [leB] using h5
 have h7':s.aw.bB<=(s.aG.length:Int)+1:=by simpa [leB] using h7
 have hlt:(x.c8-1).toNat<s.aG.length:=by omega
 refine⟨s.aG[(x.c8-1).toNat],?_,v0 hlt⟩
 have hm:x.c8-1=(((x.c8-1).toNat:Nat):Int):=by omega
 rw[bO oaa]
 generalize (x.c8-1).toNat=m at hm hlt ⊢
 rw[hm,bp,v0 hlt]
theorem tail_i (h:d9 s) (hs:nE s=true):iter (gx s) FU 0=some (s.aw.aA.all (AC s)&&uc s):=by
 have hl:=h.2.2.1
 have:=gj (L:=gx s) s.aw.aA (λ_ x=>AC s x) (some (uc s)) oaa (λk x hx hk=>by
  obtain⟨y,h1,h2⟩:=Ze hs hx
  simp only[gx,cI hk,bp,hx,h1,eqb_i,WRs (k:=k),AC,h2,au]
  cases Il x.bb y.bb<;>rfl) (by simp[gx,jh,nb_i hl,Y4,uc])
 rw[this,sx]
 cases s.aw.aA.all (AC s)<;>rfl
theorem tail_s (h:d9 s) (hs:nE s=true):iter (kY s) FU 0=some (s.aw.aA.all (AC s)&&uc s):=by
 have hl:=h.2.2.1
 have:=gj (L:=kY s) s.aw.aA (λ_ x=>AC s x) (some (uc s)) oaa (λk x hx hk=>by
  obtain⟨y,h1,h2⟩:=Ze hs hx
  simp only[kY,cI hk,bp,hx,h1,eqb_s,WRs (k:=k),AC,h2,au]
  cases Il x.bb y.bb<;>rfl) (by simp[kY,XM hl,Y5,uc])
 rw[this,sx]
 cases s.aw.aA.all (AC s)<;>rfl
theorem VX (h:d9 s):wT s=some (nE s&&(s.aw.aA.all (AC s)&&uc s)):=by
 have hl:=h.2.1.1
 have hL:=gj (L:=qj s) s.aG (λ_ x=>vc x.bb.length) (bif leB (s.aG.length:Int) 24&&(jI s.aw&&leB s.aw.bB (WR ((s.aG.length:Int)+1))) then iter (kY s) FU 0 else some false) oaa (λk x hx hk=>by
  simp only[qj,cI hk,bp,hx,WRs (k:=k),vc,au]
  cases ltB 60 (x.bb.length:Int)<;>rfl) (by
  simp only[qj,ci,Mo h.2.2,sY,au]
  cases leB (s.aG.length:Int) 24<;>cases jI s.aw<;>cases leB s.aw.bB (WR ((s.aG.length:Int)+1))<;>rfl)
 rw[sx] at hL
 unfold wT
 rw[hL]
 cases hs:nE s with
 |true=>
  rw[tail_s h hs]
  simp only[nE,AE,hV] at hs
  simp[hs.1,hs.2.1,hs.2.2.1,hs.2.2.2]
 |false=>
  have:(leB (s.aG.length:Int) 24&&(jI s.aw&&leB s.aw.bB (WR ((s.aG.length:Int)+1))))=false\/(s.aG.all λx=>vc x.bb.length)=false:=by
   simp only[nE,AE] at hs
   revert hs
   cases leB (s.aG.length:Int) 24<;>cases jI s.aw<;>cases leB s.aw.bB (WR ((s.aG.length:Int)+1))<;>cases(s.aG.all λx=>vc x.bb.length)<;>simp
  rcases this with e|e<;>rw[e]
  .cases(s.aG.all λx=>vc x.bb.length)<;>rfl
  rfl
theorem st01 (n:Int):inR n 0 1=(eqB n 0||eqB n 1):=by rw[abZ];simp[inR,leB,eqB];omega
theorem CE (h:d9 s):i7 s=some (jp s):=by
 have hz:=λhs=>tail_i h hs
 simp only[i7,Y3,subs_i h.1,Vc,Mn h.2.2,DU,LD,gE,YQ h.2.1.1,abX,jp,Fi,st01,sY 24,sY (WR ((s.aG.length:Int)+1))]
 simp only[nE] at hz
 revert hz
 generalize iter (gx s) FU 0=z
 cases tF s.bE
 .intro _;rfl
 cases qL s.gG
 .intro _;rfl
 cases kz s.gr
 .intro _;rfl
 cases jI s.aw
 .intro _;rfl
 cases jy s.bU
 .intro _;rfl
 cases eqB s.bi 0<;>cases eqB s.bi 1<;>try (intro _;rfl)
 all_goals
  cases nU s.aZ<;>cases ltB 0 s.bL<;>cases nU s.aK.fo<;>try (intro _;rfl)
 all_goals
  cases inR s.bL 0 999999<;>cases inR s.ag 0 999999<;>cases inR s.aX 0 999999<;>cases inR s.aZ 0 2147483646<;>try (intro _;rfl)
 all_goals
  cases inR s.bg 0 5<;>cases inR s.dX 0 5<;>cases inR s.dP 0 3<;>try (intro _;rfl)
 all_goals
  cases leB (s.aG.length:Int) 24<;>cases AE s.aG<;>cases leB s.aw.bB (WR ((s.aG.length:Int)+1))<;>intro hz<;>first|rfl|exact hz rfl
theorem CF (h:d9 s):kP s=some (jp s):=by
 have:jp s=(inR s.bi 0 1&&(Fi s&&(tF s.bE&&(qL s.gG&&(kz s.gr&&(jy s.bU&&((nE s&&(s.aw.aA.all (AC s)&&uc s))&&(inR s.bL 0 999999&&(inR s.ag 0 999999&&(inR s.aX 0 999999&&(inR s.aZ 0 2147483646&&(inR s.bg 0 5&&(inR s.dX 0 5&&inR s.dP 0 3))))))))))))):=by
  simp only[jp,nE];ac_rfl
 rw[this]
 simp only[kP,Vo,VY h.1,Vd,Bx,LE,fY,VX h,abX,Fi,st01]
 cases eqB s.bi 0<;>cases eqB s.bi 1<;>cases nU s.aZ<;>cases ltB 0 s.bL<;>cases nU s.aK.fo<;>try rfl
 all_goals
  cases tF s.bE<;>cases qL s.gG<;>cases kz s.gr<;>cases jy s.bU<;>cases(nE s&&(s.aw.aA.all (AC s)&&uc s))<;>try rfl
 all_goals
  cases inR s.bL 0 999999<;>cases inR s.ag 0 999999<;>cases inR s.aX 0 999999<;>cases inR s.aZ 0 2147483646<;>try rfl
 all_goals
  cases inR s.bg 0 5<;>cases inR s.dX 0 5<;>rfl
def So (a:am):Int:=a.aj.foldl (λs x=>WR (s+x.dW)) 0
theorem totr_i (h:ie a):oG a=some (So a):=by
 have:=h.1
 unfold oG
 rw[ve a.aj (λs x=>WR (s+x.dW)) oaa (λk x s hx hk=>by
  simp only[oH,cI hk,bp,hx,WRs (k:=k),au]) (λs=>by simp[oH])]
 rfl
theorem totr_s (h:ie a):pc a=some (So a):=by
 have:=h.1
 unfold pc
 rw[ve a.aj (λs x=>WR (s+x.dW)) oaa (λk x s hx hk=>by
  simp only[pf,cI hk,bp,hx,WRs (k:=k),au]) (λs=>by simp[pf])]
 rfl
def Dz (a:am) (k:Nat) (x:aD):Bool:=!ltB x.aC 0&&(inR x.dW 1 100000&&jX aD.aC a.aj k x)
def Sn (a:am):Bool:=eqB (WR (WR (a.bz+a.eg)+So a)) a.eE
def iV (a:am):Bool:=inR a.eE 0 100000&&(inR a.bz 0 a.eE&&(inR a.eg 0 a.eE&&(leB (a.aj.length:Int) 8&&(fP (Dz a) a.aj&&Sn a))))
theorem pG (h:ie a):fM a=some (iV a):=by
 have hl:=h.1
 have hL:iter (km a) FU 0=bif fP (Dz a) a.aj then some (Sn a) else some false:=by
  refine gj a.aj (Dz a) _ oaa (λk x hx hk=>?_) (by simp[km,totr_i h,Sn])
  simp only[km,cI hk,bp,hx,WRs (k:=k),gE,Dz,au]
  cases k with
  |zero=>
   simp only[jX,show ltB 0 ((0:Nat):Int)=false from by simp[ltB]]
   cases ltB x.aC 0<;>cases inR x.dW 1 100000<;>rfl
  |succ k=>
   obtain⟨y,hy,hi⟩:=wq hk oaa oaa
   simp only[acb] at hy
   simp only[jX,hy,hi,show ltB 0 ((k+1:Nat):Int)=true from by simp[ltB],abX]
   cases ltB x.aC 0<;>cases inR x.dW 1 100000<;>cases leB x.aC y.aC<;>rfl
 simp only[fM,gE,abX,hL,iV,sY 8]
 cases inR a.eE 0 100000<;>cases inR a.bz 0 a.eE<;>cases inR a.eg 0 a.eE<;>cases leB (a.aj.length:Int) 8<;>cases fP (Dz a) a.aj<;>rfl
theorem yJ (h:ie a):ig a=some (iV a):=by
 have hl:=h.1
 have hL:iter (kw a) FU 0=bif fP (Dz a) a.aj then some (inR a.eE 0 100000&&(inR a.bz 0 a.eE&&(inR a.eg 0 a.eE&&(leB (a.aj.length:Int) 8&&Sn a)))) else some false:=by
  refine gj a.aj (Dz a) _ oaa (λk x hx hk=>?_) ?_
  .simp only[kw,cI hk,bp,hx,WRs (k:=k),fY,Dz,au]
   cases k with
   |zero=>
    simp only[jX,show ltB 0 ((0:Nat):Int)=false from by simp[ltB]]
    cases ltB x.aC 0<;>cases inR x.dW 1 100000<;>rfl
   |succ k=>
    obtain⟨y,hy,hi⟩:=wq hk oaa oaa
    simp only[acb] at hy
    simp only[jX,hy,hi,hx,bp,show ltB 0 ((k+1:Nat):Int)=true from by simp[ltB],abX]
    cases ltB x.aC 0<;>cases inR x.dW 1 100000<;>cases leB x.aC y.aC<;>rfl
  simp only[kw,ci,fY,totr_s h,Sn,au]
  cases inR a.eE 0 100000<;>cases inR a.bz 0 a.eE<;>cases inR a.eg 0 a.eE<;>cases leB (a.aj.length:Int) 8<;>rfl
 simp only[ig,hL,iV]
 cases inR a.eE 0 100000<;>cases inR a.bz 0 a.eE<;>cases inR a.eg 0 a.eE<;>cases leB (a.aj.length:Int) 8<;>cases fP (Dz a) a.aj<;>rfl
def it (a:am) (i:Int):Int:=match a.aj.find? (λx=>eqB x.aC i) with
 |some x=>x.dW
 |none=>0
theorem O6 (p:α->Bool) (xs:List α):(nK p 0 xs= -1/\xs.find? p=none)\/∃x,ltB (nK p 0 xs) 0=false/\ix xs (nK p 0 xs)=some x/\xs.find? p=some x:=by
 rcases Cl p xs 0 with⟨h1,h2⟩|⟨j,h1,x,h2,h3,h4⟩
 .exact .inl ⟨h1,by rw[acu];intro x hx;simp[h2 x hx]⟩
 right
 have h1':nK p 0 xs=(j:Int):=by simpa using h1
 refine⟨x,by rw[h1'];simp[ltB],by rw[h1',bp,h2],?_⟩
 have hj:=(aaa.1 h2)
 rw[List.find?_eq_some_iff_getElem]
 have hjl:=hj.1
 refine⟨h3,j,hjl,hj.2,λi hi=>?_⟩
 have hil:i<xs.length:=Nat.lt_trans hi hjl
 have:xs[i]∈xs.take j:=List.mem_take_iff_getElem.2 ⟨i,by omega,rfl⟩
 simp[h4 _ this]
theorem FE (h:ie a) (i:Int):ml a i=some (it a i):=by
 have:=h.1
 have hf:=vb (L:=ji a i) a.aj (λx=>eqB x.aC i) oaa (λk x hx hk=>by
  simp only[ji,cI hk,bp,hx,WRs (k:=k),au]
  cases eqB x.aC i<;>rfl) (by simp[ji,dn])
 unfold ml eU it
 rw[hf]
 rcases O6 (λx:aD=>eqB x.aC i) a.aj with⟨e1,e2⟩|⟨x,e1,e2,e3⟩
 .rw[e1,e2];simp[ltB]
 simp only[e1,e2,e3,au]
theorem Mc (h:ie a) (i:Int):pa a i=some (it a i):=by
 have:=h.1
 have hf:=vb (L:=uq a i) a.aj (λx=>eqB x.aC i) oaa (λk x hx hk=>by
  simp only[uq,cI hk,bp,hx,WRs (k:=k),au]
  cases eqB x.aC i<;>rfl) (by simp[uq,dn])
 unfold pa qJ it
 rw[hf]
 rcases O6 (λx:aD=>eqB x.aC i) a.aj with⟨e1,e2⟩|⟨x,e1,e2,e3⟩
 .rw[e1,e2];simp[ltB]
 simp only[e1,e2,e3,au]
def wZ (a:am) (q:cP):Bool:=iV a&&(jy q&&eqB (it a q.aC) q.cS)
theorem DN (h:ie a) (q:cP):fg a q=some (wZ a q):=by
 simp only[fg,pG h,DU,FE h,abX,wZ];cases iV a<;>cases jy q<;>rfl
theorem JD (h:ie a) (q:cP):fZ a q=some (wZ a q):=by
 simp only[fZ,yJ h,Bx,Mc h,abX,wZ];cases iV a<;>cases jy q<;>rfl
theorem lD {L:Int->Option (ct Int ρ)} (xs:List α) (p:Nat->α->Bool) (f:ρ) (c:Option ρ) (hl:xs.length<=9223372036854775806)
 (hs:∀(k:Nat) (x:α),xs[k]?=some x->k<xs.length->L (k:Int)=bif p k x then some (.next ((k+1:Nat):Int)) else some (.done f)) (he:L (xs.length:Int)=dn c):
 iter L FU 0=bif fP p xs then c else some f:=by
 have:=eG (step:=L) xs.zipIdx (λk (_:Unit)=>(k:Int)) (λ_ y=>bif p y.2 y.1 then some (.next ()) else some (.done f)) (λ_=>c) (by simpa using hl)
  (λk y s hy hk=>by
   have hk':k<xs.length:=by simpa using hk
   have:y=(xs[k],k):=by rw[v0 hk] at hy;simpa using hy.symm
   subst this
   rw[hs k xs[k] (v0 hk') hk'];cases p k xs[k]<;>rfl) (λs=>by rw[List.length_zipIdx,he]) ()
 refine Eq.trans (show iter L FU 0=_ from this) ?_
 have key:∀ys:List (α×Nat),kj (λ(_:Unit) y=>bif p y.2 y.1 then some (.next ()) else some (ct.done f)) (λ_=>c) ys ()=bif ys.all (λy=>p y.2 y.1) then c else some f:=by
  intro ys
  induction ys with
  |nil=>rfl
  |cons x xs ih=>rw[kj];cases hp:p x.2 x.1<;>simp[hp,ih]
 exact key _
theorem Um {l:List Int} (h:l.length<=1048576) (v:Int):BJ l v=some (l.any λx=>eqB x v):=
 KP l (λx=>eqB x v) oaa (λk x hx hk=>by
  simp only[Au,cI hk,bp,hx,WRs (k:=k),au]
  cases eqB x v<;>rfl) (by simp[Au,dn])
theorem T2 (a b:Int):eqB a b=eqB b a:=by rw[abZ];simp[eqB];exact eq_comm
theorem has_i {l:List Int} (h:l.length<=1048576) (v:Int):gI l v=some (l.any λx=>eqB x v):=by
 have hf:=vb (L:=gJ l v) l (λx=>eqB x v) oaa (λk x hx hk=>by
  simp only[gJ,cI hk,bp,hx,WRs (k:=k),T2 v x,au]
  cases eqB x v<;>rfl) (by simp[gJ,dn])
 unfold gI lb
 rw[hf]
 simp only[abX]
 rw[Fc oaa]
def eL (m:aS) (i:Int):Bool:=inR i 0 ((m.a8.length:Int)-1)
theorem vY (h:m.a8.length<=1048576) (i:Int):lr m i=some (eL m i):=by
 simp only[lr,gE,AH h,abX,eL]
def AN (m:aS) (x:Int) (i:Nat):Bool:=match m.a8[x.toNat]? with
 |some d=>d.cF.any λy=>eqB y (i:Int)
 |none=>false
def nbB (m:aS) (i:Nat) (ns:List Int) (k:Nat) (x:Int):Bool:=eL m x&&(!eqB x (i:Int)&&(jX id ns k x&&AN m x i))
def yE (m:aS) (i:Nat) (c:fy):Bool:=inR c.f6 0 2&&fP (nbB m i c.cF) c.cF
def pW (m:aS):Bool:=inR (m.a8.length:Int) 1 6&&fP (yE m) m.a8
theorem AT {x:Int} (h:eL m x=true):∃d,d∈m.a8/\ix m.a8 x=some d/\m.a8[x.toNat]?=some d:=by
 simp only[eL,bQ] at h
 have hlt:x.toNat<m.a8.length:=by omega
 refine⟨m.a8[x.toNat],aci hlt,?_,v0 hlt⟩
 have hm:x=(x.toNat:Int):=by omega
 generalize x.toNat=m at hm hlt ⊢
 rw[hm,bp,v0 hlt]
theorem map_i (h:gz m):tQ m=some (pW m):=by
 have hl:=h.1
 have h2:∀(i:Nat) (c:fy),c∈m.a8->i<m.a8.length->iter (ow m (i:Int) c) FU 0=bif fP (λk x=>!eqB x (i:Int)&&(eL m x&&AN m x i)) c.cF then some (.next ((i+1:Nat):Int)) else some (.done false):=by
  intro i c hc hi
  have hn:=(h.2 c hc).1
  refine lD c.cF (λk x=>!eqB x (i:Int)&&(eL m x&&AN m x i)) (ct.done false) _ oaa (λk x hx hk=>?_) (by simp[ow,WRs (k:=i)])
  simp only[ow,cI hk,bp,hx,WRs (k:=k),vY hl,uO,au]
  cases eqB x (i:Int) with
  |true=>rfl
  |false=>
   cases hcb:eL m x with
   |false=>rfl
   |true=>
    obtain⟨d,d1,d2,d3⟩:=AT hcb
    simp only[d2,has_i (h.2 d d1).1,AN,d3,au]
    cases(d.cF.any λy=>eqB y (i:Int))<;>rfl
 have hL:iter (ov m) FU 0=bif fP (yE m) m.a8 then some true else some false:=by
  refine lD m.a8 (yE m) false (some true) oaa (λk x hx hk=>?_) (by simp[ov])
  have hm:=aab hx
  simp only[ov,cI hk,bp,hx,gE,Pi (h.2 x hm).1,h2 k x hm hk,yE,au]
  have:fP (nbB m k x.cF) x.cF=(asc x.cF&&fP (λj y=>!eqB y (k:Int)&&(eL m y&&AN m y k)) x.cF):=by
   rw[asc,KN]
   exact Na λj y _=>by simp only[nbB];ac_rfl
  rw[this]
  cases inR x.f6 0 2<;>cases asc x.cF<;>cases fP (λj y=>!eqB y (k:Int)&&(eL m y&&AN m y k)) x.cF<;>rfl
 simp only[tQ,gE,abX,hL,pW]
 cases inR (m.a8.length:Int) 1 6<;>cases fP (yE m) m.a8<;>rfl
theorem YY (h:gz m):qF m=some (pW m):=by
 have hl:=h.1
 have h2:∀(i:Nat) (c:fy),c∈m.a8->i<m.a8.length->iter (oX m (i:Int) c) FU 0=bif fP (nbB m i c.cF) c.cF then some (.next ((i+1:Nat):Int)) else some (.done false):=by
  intro i c hc hi
  have hn:=(h.2 c hc).1
  refine lD c.cF (nbB m i c.cF) (ct.done false) _ oaa (λk x hx hk=>?_) (by simp[oX,WRs (k:=i)])
  simp only[oX,cI hk,bp,hx,WRs (k:=k),fY,AH hl,nbB,au]
  cases hcb:eL m x with
  |false=>rw[show inR x 0 ((m.a8.length:Int)-1)=false from hcb];rfl
  |true=>
   rw[show inR x 0 ((m.a8.length:Int)-1)=true from hcb]
   obtain⟨d,d1,d2,d3⟩:=AT hcb
   cases k with
   |zero=>
    simp only[jX,show ltB 0 ((0:Nat):Int)=false from by simp[ltB],d2,Um (h.2 d d1).1,AN,d3,au]
    cases eqB x (i:Int)<;>cases(d.cF.any λy=>eqB y (i:Int))<;>rfl
   |succ k=>
    obtain⟨y,hy,hi⟩:=wq hk oaa oaa
    simp only[acb] at hy
    simp only[jX,hy,hi,show ltB 0 ((k+1:Nat):Int)=true from by simp[ltB],d2,Um (h.2 d d1).1,AN,d3,id,au]
    cases eqB x (i:Int)<;>cases leB x y<;>cases(d.cF.any λy=>eqB y (i:Int))<;>rfl
 have hL:iter (oW m) FU 0=bif fP (yE m) m.a8 then some (inR (m.a8.length:Int) 1 6) else some false:=by
  refine lD m.a8 (yE m) false _ oaa (λk x hx hk=>?_) (by simp[oW,fY])
  have hm:=aab hx
  simp only[oW,cI hk,bp,hx,fY,h2 k x hm hk,yE,au]
  cases inR x.f6 0 2<;>cases fP (nbB m k x.cF) x.cF<;>rfl
 simp only[qF,hL,pW]
 cases inR (m.a8.length:Int) 1 6<;>cases fP (yE m) m.a8<;>rfl
def Fa (d:aJ) (s:ah):Bool:=(eqB d.dq.ID.dZ s.bE.ID.dZ&&(eqB d.dq.ID.bW s.bE.ID.bW&&true))&&eqB d.dq.fo s.bE.fo
def wu (n:ab) (i:Nat) (d:aJ):Bool:=match n.aF[i]?,n.bk[i]? with
 |some s,some a=>lA d&&(jp s&&(iV a&&(Fa d s&&(eL n.ei d.bg&&(eL n.ei s.bg&&(eqB s.bU.aC (i:Int)&&wZ a s.bU))))))
 |_,_=>false
def flB (n:ab) (f:bS):Bool:=inR f.bm 0 ((n.av.length:Int)-1)&&eL n.ei f.bg
def z8 (n:ab):Bool:=inR n.dy 0 (WR ((md .i64 1 (n.ei.a8.length:Int))-1))&&(inR n.qO 0 100000&&leB 0 n.ki)
def nm (n:ab):Bool:=pW n.ei&&(kh n.ev&&(!eqB n.ev.fB 0&&(leB (n.av.length:Int) 4&&(eqB (n.aF.length:Int) (n.av.length:Int)&&(eqB (n.bk.length:Int) (n.av.length:Int)&&
 (fP (wu n) n.av&&(leB (n.aT.length:Int) 200&&(n.aT.all (flB n)&&z8 n))))))))
theorem OS {x:Int} (h:inR x 0 b=true):eL m x=ltB x (m.a8.length:Int):=by
 rw[bQ] at h
 rw[abZ];simp[eL,inR,leB,ltB];omega
theorem flt_i (h:iN n):iter (iM n) FU 0=some (n.aT.all (flB n)&&z8 n):=by
 have hl:=h.2.2.2.2.1
 have:=gj (L:=iM n) n.aT (λ_ f=>flB n f) (some (z8 n)) oaa (λk x hx hk=>by
  simp only[iM,cI hk,bp,hx,WRs (k:=k),gE,AH h.2.1.1,vY h.1.1,flB,au]
  cases inR x.bm 0 ((n.av.length:Int)-1)<;>cases eL n.ei x.bg<;>rfl) (by
  simp only[iM,ci,gE,z8,show leB 0 (n.ei.a8.length:Int)=true from by simp[leB],au]
  cases inR n.dy 0 (WR ((md .i64 1 (n.ei.a8.length:Int))-1))<;>cases inR n.qO 0 100000<;>rfl)
 rw[this,sx]
 cases n.aT.all (flB n)<;>rfl
theorem flt_s (h:iN n):iter (iQ n) FU 0=some (n.aT.all (flB n)&&z8 n):=by
 have hl:=h.2.2.2.2.1
 have:=gj (L:=iQ n) n.aT (λ_ f=>flB n f) (some (z8 n)) oaa (λk x hx hk=>by
  simp only[iQ,cI hk,bp,hx,WRs (k:=k),fY,AH h.2.1.1,AH h.1.1,flB,eL,au]
  cases inR x.bm 0 ((n.av.length:Int)-1)<;>cases inR x.bg 0 ((n.ei.a8.length:Int)-1)<;>rfl) (by
  simp only[iQ,ci,fY,z8,show leB 0 (n.ei.a8.length:Int)=true from by simp[leB],au]
  cases inR n.dy 0 (WR ((md .i64 1 (n.ei.a8.length:Int))-1))<;>cases inR n.qO 0 100000<;>rfl)
 rw[this,sx]
 cases n.aT.all (flB n)<;>rfl
section
variable {n:ab} (h:iN n) (e1:n.aF.length=n.av.length) (e2:n.bk.length=n.av.length)
include h e1 e2
omit h in
theorem at_i (hk:k<n.av.length):∃s a,s∈n.aF/\a∈n.bk/\n.aF[k]?=some s/\n.bk[k]?=some a:=
 ⟨n.aF[k]'(by omega),n.bk[k]'(by omega),aci _,aci _,v0 _,v0 _⟩
theorem mem_i {d:aJ} (hd:n.av[k]?=some d):kt n (k:Int)=some (wu n k d):=by
 have hk:=(aaa.1 hd).1
 obtain⟨s,a,s1,a1,s2,a2⟩:=at_i e1 e2 hk
 have od:=h.2.1.2 d (aab hd)
 have os:=h.2.2.1.2 s s1
 have oa:=h.2.2.2.1.2 a a1
 simp only[kt,bp,hd,s2,a2,TN od.2.1 od.1.1,CE os,pG oa,vY h.1.1,DN oa,abX,wu,Fa]
 cases lA d<;>cases jp s<;>cases iV a<;>try rfl
 cases(eqB d.dq.ID.dZ s.bE.ID.dZ&&(eqB d.dq.ID.bW s.bE.ID.bW&&true))<;>cases eqB d.dq.fo s.bE.fo<;>try rfl
 cases eL n.ei d.bg<;>cases eL n.ei s.bg<;>cases eqB s.bU.aC (k:Int)<;>rfl
theorem mem_s {d:aJ} (hd:n.av[k]?=some d):wU n (k:Int)=some (wu n k d):=by
 have hk:=(aaa.1 hd).1
 obtain⟨s,a,s1,a1,s2,a2⟩:=at_i e1 e2 hk
 have od:=h.2.1.2 d (aab hd)
 have os:=h.2.2.1.2 s s1
 have oa:=h.2.2.2.1.2 a a1
 simp only[wU,bp,hd,s2,a2,TO od.2.1 od.1.1,CF os,yJ oa,JD oa,abX,wu,Fa]
 cases hv:lA d
 .rfl
 cases hs:jp s
 .rfl
 have c1:eL n.ei d.bg=ltB d.bg (n.ei.a8.length:Int):=by
  simp only[lA,hV] at hv;exact OS hv.2.2.1
 have c2:eL n.ei s.bg=ltB s.bg (n.ei.a8.length:Int):=by
  simp only[jp,hV] at hs;exact OS hs.2.2.2.2.2.2.2.2.2.2.2.1
 rw[c1,c2]
 cases iV a<;>cases(eqB d.dq.ID.dZ s.bE.ID.dZ&&(eqB d.dq.ID.bW s.bE.ID.bW&&true))<;>cases eqB d.dq.fo s.bE.fo<;>try rfl
 cases ltB d.bg (n.ei.a8.length:Int)<;>cases ltB s.bg (n.ei.a8.length:Int)<;>cases eqB s.bU.aC (k:Int)<;>rfl
theorem Z4:iter (iL n) FU 0=some (fP (wu n) n.av&&(leB (n.aT.length:Int) 200&&(n.aT.all (flB n)&&z8 n))):=by
 have hl:=h.2.1.1
 have:=gj (L:=iL n) n.av (wu n) (some (leB (n.aT.length:Int) 200&&(n.aT.all (flB n)&&z8 n))) oaa (λk x hx hk=>by
  simp only[iL,cI hk,mem_i h e1 e2 hx,WRs (k:=k),au]
  cases wu n k x<;>rfl) (by
  simp only[iL,ci,cond_false,flt_i h,sY 200]
  cases leB (n.aT.length:Int) 200<;>rfl)
 rw[this]
 cases fP (wu n) n.av<;>rfl
theorem Z5:iter (iO n) FU 0=some (fP (wu n) n.av&&(n.aT.all (flB n)&&z8 n)):=by
 have hl:=h.2.1.1
 have:=gj (L:=iO n) n.av (wu n) (some (n.aT.all (flB n)&&z8 n)) oaa (λk x hx hk=>by
  simp only[iO,cI hk,mem_s h e1 e2 hx,WRs (k:=k),au]
  cases wu n k x<;>rfl) (by simp only[iO,ci,cond_false,flt_s h])
 rw[this]
 cases fP (wu n) n.av<;>rfl
end
theorem yP {a b:Nat} (h:eqB (a:Int) (b:Int)=true):a=b:=by
 have:(a:Int)=b:=by simpa [eqB] using h
 omega
theorem H1 (h:iN n):kC n=some (nm n):=by
 simp only[kC,map_i h.1,JU,abX,nm,sY 4]
 cases pW n.ei<;>cases kh n.ev<;>cases eqB n.ev.fB 0<;>cases leB (n.av.length:Int) 4<;>try rfl
 cases e1:eqB (n.aF.length:Int) (n.av.length:Int)<;>cases e2:eqB (n.bk.length:Int) (n.av.length:Int)<;>try rfl
 rw[Z4 h (yP e1) (yP e2)];rfl
theorem Rw (h:iN n):nz n=some (nm n):=by
 simp only[nz,YY h.1,NT,abX,nm,sY 4,sY 200]
 cases pW n.ei<;>cases kh n.ev<;>cases eqB n.ev.fB 0<;>cases leB (n.av.length:Int) 4<;>try rfl
 cases e1:eqB (n.aF.length:Int) (n.av.length:Int)<;>cases e2:eqB (n.bk.length:Int) (n.av.length:Int)<;>try rfl
 rw[Z5 h (yP e1) (yP e2)]
 cases fP (wu n) n.av<;>cases leB (n.aT.length:Int) 200<;>rfl
attribute [local simp] ci bp
theorem pN {by_:Nat} {L:Int×List α->Option (ct (Int×List α) (List α))} (xs:List α) (hb:by_<=100000) (hl:xs.length<=1048576)
 (hs:∀(k:Nat) (x:α),xs[k]?=some x->k<xs.length->L ((k:Int),xs.take k)=bif da by_ (xs.take k++[x]).length then some (.next (((k+1:Nat):Int),xs.take k++[x])) else none)
 (he:L ((xs.length:Nat),xs)=some (.done xs)):iter L FU (0,[])=some xs:=by
 have:=eG (step:=L) xs (λk (_:Unit)=>((k:Int),xs.take k)) (λ_ _=>some (.next ())) (λ_=>some xs) oaa
  (λk x _ hx hk=>by
   rw[hs k x hx hk,cG hb (by simp;omega)]
   have e:xs.take (k+1)=xs.take k++[x]:=by rw[acg,hx];rfl
   simp[e]) (λ_=>by rw[acA,he];rfl) ()
 rw[EK xs (λ_ _=>rfl)] at this
 exact this
theorem AU (z:α) (xs:List α):cpL (aaf ((xs.length:Int)).toNat z) xs=xs:=by simp[cpL]
theorem ic {b n:Nat} (hb:b<=100000) (hn:n<=1048576):qB b (n:Int) (n:Int)=true:=by
 have h:b*n<=100000*1048576:=acx hb hn
 have h2:(b:Int)*(n:Int)<=104857600000:=by rw[<-Int.natCast_mul];omega
 simp only[qB,decide_eq_true_eq];omega
theorem pO {f:α->Option α} {L:Int×List α->Option (ct (Int×List α) (List α))} (z:α) (xs:List α) (hl:xs.length<=1048576) (hf:∀x∈xs,f x=some x)
 (hs:∀(k:Nat) (v:List α),L ((k:Int),v)=bif ltB (k:Int) (xs.length:Int) then(abU (ix xs (k:Int)) λx=>abU (f x) λr=>abU (ix v (k:Int)) λ_=>some (.next (WR ((k:Int)+1),v.set ((k:Int)).toNat r))) else some (.done v)):
 iter L FU (0,aaf ((xs.length:Int)).toNat z)=some xs:=by
 have:=Rd (step:=L) id z xs oaa
  (λk x v hx hv=>by
   have hk:=(aaa.1 hx).1
   rw[hs]
   simp[cI hk,hx,hf x (aab hx),WRs (k:=k),v0 (show k<v.length by omega)])
  (λv=>by rw[hs];simp)
 simpa using this
theorem Hu {xs:List bV} (h:okL s3 xs):tf xs=some xs:=by
 rw[tf,pN (by_:=24) (L:=qi xs) xs oaa h.1 (λk x hx hk=>by
  simp[qi,cI hk,hx,oh (show k<9223372036854775807 by have:=h.1;omega),cG (by_:=1) (n:=x.bb.length) oaa (by have:=(h.2 x (aab hx)).1;omega)]) (by simp[qi])]
 rfl
theorem Mp {xs:List ae} (h:okL ge xs):vJ xs=some xs:=by
 rw[vJ,pN (by_:=32) (L:=rX xs) xs oaa h.1 (λk x hx hk=>by
  simp[rX,cI hk,hx,oh (show k<9223372036854775807 by have:=h.1;omega),cG (by_:=1) (n:=x.bb.length) oaa (by have:=(h.2 x (aab hx)).1;omega)]) (by simp[rX])]
 rfl
theorem Ge (h:jv w):nR w=some w:=by rw[nR,Mp h];rfl
theorem Vq (h:fw r):yw r=some r:=by rw[yw,Mp h.1,abX,Hu h.2];rfl
theorem plan_c {p:bP} (h:eO p):vM p=some p:=by
 rw[vM,aa8,cG oaa (by have:=h.1;omega)];rfl
theorem rf (h:d9 s):jo s=some s:=by rw[jo,plan_c h.1,abX,Hu h.2.1,abX,Ge h.2.2];rfl
theorem AY {d:aJ} (h:eu d):kS d=some d:=by rw[kS,Vq h];rfl
theorem Ed (h:ie a):ni a=some a:=by
 rw[ni,aa8,cG oaa (by have:=h.1;omega)];rfl
theorem X4 {x:ax} (h:oS x):BN x=some x:=by
 rw[BN,aa8,cG oaa (by have:=h.1;omega)];rfl
theorem Le (h:kX f):tl f=some f:=by rw[tl,X4 h];rfl
theorem map_c (h:gz m):qI m=some m:=by
 rw[qI,pN (by_:=32) (L:=kf m) m.a8 oaa h.1 (λk x hx hk=>by
  simp[kf,cI hk,hx,oh (show k<9223372036854775807 by have:=h.1;omega),cG (by_:=8) (n:=x.cF.length) oaa (by have:=(h.2 x (aab hx)).1;omega)]) (by simp[kf])]
 rfl
theorem Y2 (h:iN n):yB n=some n:=by
 obtain⟨h1,h2,h3,h4,h5⟩:=h
 rw[yB,map_c h1,abX,
  pN (by_:=144) (L:=uu n) n.av oaa h2.1 (λk x hx hk=>by simp[uu,cI hk,hx,oh (show k<9223372036854775807 by have:=h2.1;omega),AY (h2.2 x (aab hx))]) (by simp[uu]),abX,
  pN (by_:=288) (L:=uv n) n.aF oaa h3.1 (λk x hx hk=>by simp[uv,cI hk,hx,oh (show k<9223372036854775807 by have:=h3.1;omega),rf (h3.2 x (aab hx))]) (by simp[uv]),abX,
  pN (by_:=48) (L:=uw n) n.bk oaa h4.1 (λk x hx hk=>by simp[uw,cI hk,hx,oh (show k<9223372036854775807 by have:=h4.1;omega),Ed (h4.2 x (aab hx))]) (by simp[uw]),abX,
  pN (by_:=176) (L:=ux n) n.aT oaa h5.1 (λk x hx hk=>by simp[ux,cI hk,hx,oh (show k<9223372036854775807 by have:=h5.1;omega),Le (h5.2 x (aab hx))]) (by simp[ux])]
 rfl
theorem Uu {xs:List Int} (h:xs.length<=1048576):sb xs=some xs:=by rw[sb,ic oaa h,AU];rfl
theorem vW {xs:List Int} (h:xs.length<=1048576):fj xs=some xs:=by rw[fj,ic oaa h,AU];rfl
theorem Xy {xs:List aD} (h:xs.length<=1048576):f5 xs=some xs:=by rw[f5,ic oaa h,AU];rfl
theorem VR {xs:List aH} (h:xs.length<=1048576):ga xs=some xs:=by rw[ga,ic oaa h,AU];rfl
theorem Fx {xs:List bV} (h:okL s3 xs):mT xs=some xs:=by
 rw[mT,ic oaa h.1,pO (f:=λx=>abU (fj x.bb) λr=>some (⟨r⟩:bV)) (L:=pM xs) (⟨[]⟩:bV) xs h.1 (λx hx=>by rw[vW (h.2 x hx).1];rfl) (λk v=>by
  simp only[pM];cases ltB (k:Int) (xs.length:Int)<;>simp[acv])]
 rfl
theorem Ak {xs:List ae} (h:okL ge xs):kU xs=some xs:=by
 rw[kU,ic oaa h.1,pO (f:=λx=>abU (fj x.bb) λr=>some (⟨x.c8,r⟩:ae)) (L:=pL xs) bT xs h.1 (λx hx=>by rw[vW (h.2 x hx).1];rfl) (λk v=>by
  simp only[pL];cases ltB (k:Int) (xs.length:Int)<;>simp[acv])]
 rfl
theorem P8 (h:fw r):mU r=some r:=by rw[mU,Ak h.1,abX,Fx h.2];rfl
theorem Nl {d:aJ} (h:eu d):lL d=some d:=by rw[lL,P8 h];rfl
theorem X0 {p:bP} (h:eO p):lq p=some p:=by rw[lq,Uu h.1];rfl
theorem CD (h:jv w):lO w=some w:=by rw[lO,Ak h];rfl
theorem wK (h:d9 s):gL s=some s:=by rw[gL,X0 h.1,abX,Fx h.2.1,abX,CD h.2.2];rfl
theorem xy (h:ie a):eK a=some a:=by rw[eK,Xy h.1];rfl
theorem N8 {x:bv} (h:ua x):rF x=some x:=by rw[rF,vW h.1];rfl
theorem Vk {x:ax} (h:oS x):wi x=some x:=by rw[wi,N8 h];rfl
theorem HN (h:kX f):qv f=some f:=by rw[qv,Vk h];rfl
theorem Z0 (h:gz m):Bh m=some m:=by
 rw[Bh,ic oaa h.1,pO (f:=λx=>abU (sb x.cF) λr=>some (⟨x.f6,r⟩:fy)) (L:=xQ m) OH m.a8 h.1 (λx hx=>by rw[Uu (h.2 x hx).1];rfl) (λk v=>by
  simp only[xQ];cases ltB (k:Int) (m.a8.length:Int)<;>simp[acv])]
 rfl
theorem net_ci (h:iN n):rE n=some n:=by
 obtain⟨h1,h2,h3,h4,h5⟩:=h
 rw[rE,Z0 h1,abX,fR,ic oaa h2.1,pO (L:=g7 n.av) _ _ h2.1 (λx hx=>Nl (h2.2 x hx)) (λk v=>rfl),cond_true,abX,abX,
  fE,ic oaa h3.1,pO (L:=gD n.aF) _ _ h3.1 (λx hx=>wK (h3.2 x hx)) (λk v=>rfl),cond_true,abX,abX,
  fD,ic oaa h4.1,pO (L:=gB n.bk) _ _ h4.1 (λx hx=>xy (h4.2 x hx)) (λk v=>rfl),cond_true,abX,abX,
  fT,ic oaa h5.1,pO (L:=g8 n.aT) _ _ h5.1 (λx hx=>HN (h5.2 x hx)) (λk v=>rfl),cond_true,abX,abX]
theorem CS (n a b:Int):cf n a b=some (inR n a b):=by unfold cf inR;cases leB a n<;>rfl
theorem Mu (n a b:Int):du n a b=some (inR n a b):=by unfold du inR;cases leB a n<;>rfl
theorem Iu (x m:Int):(abV x m)%m=x%m:=by
 have h:=Int.mul_tdiv_add_tmod x m
 have h2:x%m=(m*x.tdiv m+x.tmod m)%m:=by rw[h]
 rw[h2,Int.mul_add_emod_self_left]
theorem MN {m:Int} (x:Int) (hm:0<m): -m<abV x m/\abV x m<m:=⟨Int.lt_tmod_of_pos x hm,Int.tmod_lt_of_pos x hm⟩
theorem XE {r m:Int} (h1: -m<r) (h2:r<0):r%m=r+m:=by
 rw[<-acH r m,acI oaa oaa]
theorem Pe (x:Int) {m:Int} (h1:1<=m) (h2:m<=1000000000000):Q5 x m=some (x%m):=by
 obtain⟨a,b⟩:=MN x (show 0<m by omega)
 have hr:inR m 1 1000000000000=true:=bQ.2 ⟨h1,h2⟩
 have hz:(!eqB m 0)=true:=by simp[eqB];omega
 simp only[Q5,CS,hr,hz,au]
 rw[<-Iu x m]
 by_cases h:abV x m<0
 .rw[show ltB (abV x m) 0=true from lt0_t h,XE a h]
  simp only[au]
  rw[bO oaa]
 rw[show ltB (abV x m) 0=false from lt0_f oaa,acI oaa b]
 simp only[au]
theorem y5 (x:Int) {m:Int} (h1:1<=m) (h2:m<=1000000000000):Hc x m=some (x%m):=by
 obtain⟨a,b⟩:=MN x (show 0<m by omega)
 have hr:inR m 1 1000000000000=true:=bQ.2 ⟨h1,h2⟩
 have hz:(!eqB m 0)=true:=by simp[eqB];omega
 simp only[Hc,Mu,hr,hz,au]
 rw[bO oaa,ab1 oaa,acH,Iu]
abbrev hM:Int:=2147483647
def A7 (v x:Int):Int:=(v*1000003+x%hM+13)%hM
theorem qp (v x:Int):0<=A7 v x/\A7 v x<hM:=⟨acB _ (by decide),acz _ (by decide)⟩
theorem Vl {v x:Int} (h0:0<=v) (h1:v<hM):abV (WR (WR (WR (v*1000003)+x%hM)+13)) hM=A7 v x:=by
 have a:=acB x (show hM≠0 by decide)
 have b:=acz x (show 0<hM by decide)
 unfold hM at*
 rw[bO (n:=v*1000003) oaa,bO (n:=v*1000003+x%2147483647) oaa,bO (n:=v*1000003+x%2147483647+13) oaa,ab1 oaa]
 rfl
theorem wl {v x:Int} (h0:0<=v) (h1:v<hM):mq v x=some (A7 v x):=by
 rw[mq,Pe x oaa oaa]
 simp only[abX]
 rw[Vl h0 h1]
def EO (v:Int) (xs:List Int):Int:=xs.foldl A7 v
theorem Ln {v:Int} (h0:0<=v) (h1:v<hM):∀(xs:List Int),0<=EO v xs/\EO v xs<hM
 |[]=>⟨h0,h1⟩
 |x::xs=>Ln (qp v x).1 (qp v x).2 xs
theorem Lf:∀(xs:List Int) (v:Int),0<=v->v<hM->kj (λ(s x:Int)=>some (ct.next (ρ:=Int) (abV (WR (WR (WR (s*1000003)+x%hM)+13)) hM))) some xs v=some (EO v xs)
 |[],v,_,_=>rfl
 |x::xs,v,h0,h1=>by
  rw[kj,Vl h0 h1]
  exact Lf xs _ (qp v x).1 (qp v x).2
theorem VD {xs:List Int} (hl:xs.length<=1048576):Qa xs=some (EO 11 xs):=by
 have:=eG (step:=yn xs) xs (λk (s:Int)=>(s,(k:Int))) (λs x=>some (ct.next (abV (WR (WR (WR (s*1000003)+x%hM)+13)) hM))) some oaa
  (λk x s hx hk=>by
   simp only[yn,cI hk,bp,hx,y5 x (m:=2147483647) oaa oaa,WRs (k:=k),au];rfl) (λs=>by simp[yn]) 11
 rw[Qa,show iter (yn xs) FU (11,0)=_ from this,Lf xs 11 (by decide) (by decide)]
 rfl
theorem HT:∀(xs:List Int) (v:Int),0<=v->v<hM->kj (λ(s x:Int)=>abU (mq s x) λr=>some (ct.next (ρ:=Int) r)) some xs v=some (EO v xs)
 |[],v,_,_=>rfl
 |x::xs,v,h0,h1=>by
  rw[kj,wl h0 h1]
  exact HT xs _ (qp v x).1 (qp v x).2
def em (k:Int) (xs:List Int):Int:=A7 (EO (A7 11 k) xs) k
theorem lP (k:Int) (xs:List Int):0<=em k xs/\em k xs<hM:=qp _ _
theorem ey {xs:List Int} (hl:xs.length<=1048576) (k:Int):fc k xs=some (em k xs):=by
 have:=eG (step:=mP xs) xs (λk (s:Int)=>(s,(k:Int))) (λs x=>abU (mq s x) λr=>some (ct.next r)) some oaa
  (λk x s hx hk=>by
   simp only[mP,cI hk,bp,hx,WRs (k:=k),au]
   cases mq s x<;>rfl) (λs=>by simp[mP]) (A7 11 k)
 rw[fc,wl (by decide) (by decide)]
 simp only[abX]
 have h2:=qp 11 k
 rw[show iter (mP xs) FU (A7 11 k,0)=_ from this,HT xs _ h2.1 h2.2]
 have h3:=Ln h2.1 h2.2 xs
 simp only[abX]
 rw[wl h3.1 h3.2]
 rfl
theorem eA {xs:List Int} (hl:xs.length<=100000) (k:Int):fk k xs=some (em k xs):=by
 have a1:da 8 ([k]++xs).length=true:=cG oaa (by simp;omega)
 have a2:da 8 (([k]++xs)++[k]).length=true:=cG oaa (by simp;omega)
 rw[fk,a1,a2]
 simp only[cond_true]
 rw[VD (by simp;omega)]
 simp[EO,em]
def dk (k x:Int):Int:=if em k [9,x]=0 then 1 else em k [9,x]
theorem uP (k x:Int):pJ k x=some (dk k x):=by
 rw[pJ,ey (by simp)]
 simp only[abX,dk]
 by_cases h:em k [9,x]=0
 .rw[h];simp
 rw[show eqB (em k [9,x]) 0=false from eqB_f.2 h];simp[h]
theorem uS (k x:Int):pT k x=some (dk k x):=by
 have:=(lP k [9,x]).1
 rw[pT,eA (by simp)]
 simp only[abX,dk,FQ]
 by_cases h:em k [9,x]=0
 .rw[h,show ltB 1 0=false from ltB_f.2 oaa];simp
 by_cases h1:em k [9,x]=1
 .rw[h1];simp
 rw[show ltB 1 (em k [9,x])=true from ltB_t.2 oaa];simp[h]
def LG (k:Int) (xs:List Int):Int:=xs.foldl dk k
theorem Cm:∀(xs:List Int) (v:Int),kj (λ(s x:Int)=>some (ct.next (ρ:=Int) (dk s x))) some xs v=some (LG v xs)
 |[],v=>rfl
 |x::xs,v=>by rw[kj];exact Cm xs _
theorem xM {p:fJ} (hl:p.Steps.length<=1048576) (k:Int):qr k p=some (LG k p.Steps):=by
 have:=eG (step:=kF p.Steps) p.Steps (λj (s:Int)=>(s,(j:Int))) (λs x=>some (ct.next (dk s x))) some oaa
  (λj x s hx hj=>by simp[kF,cI hj,hx,WRs (k:=j),uP]) (λs=>by simp[kF]) k
 rw[qr,wj,show iter (kF p.Steps) FU (k,0)=_ from this,Cm]
 rfl
theorem yo {p:fJ} (hl:p.Steps.length<=1048576) (k:Int):qG k p=some (LG k p.Steps):=by
 have:=eG (step:=lY p) p.Steps (λj (s:Int)=>(s,(j:Int))) (λs x=>some (ct.next (dk s x))) some oaa
  (λj x s hx hj=>by simp[lY,cI hj,hx,WRs (k:=j),uS]) (λs=>by simp[lY]) k
 rw[qG,show iter (lY p) FU (k,0)=_ from this,Cm]
 rfl
def Md (k e:Int):Int:=LG k [1,3,e]
theorem we (k e:Int):sa k e=some (Md k e):=by
 rw[sa,uQ]
 simp only[abX]
 rw[xM (by simp)];rfl
theorem wG (k e:Int):sj k e=some (Md k e):=by
 rw[sj,uU]
 simp only[abX]
 rw[yo (by simp)];rfl
def okB (xs:List Int):Prop:=∀x∈xs,ye x
theorem Tc {x:Int} (h:ye x):WR x=x:=bO (by simp only[ye] at h;omega)
theorem B6:∀(xs acc:List Int),okB xs->acc.length+xs.length<=100000->kj (λ(s:List Int) (x:Int)=>bif da 8 (s++[WR x]).length then some (ct.next (ρ:=List Int) (s++[WR x])) else none) some xs acc=some (acc++xs)
 |[],acc,_,_=>by simp[kj]
 |x::xs,acc,h,hl=>by
  simp only[aai] at hl
  rw[kj,show da 8 (acc++[WR x]).length=true from gk (by simp;omega) (by simp;omega),Tc (h x (.head _))]
  simp only[cond_true]
  rw[B6 xs (acc++[x]) (λy hy=>h y (.tail _ hy)) (by simp;omega)]
  simp
theorem HS {xs:List Int} (hb:okB xs) (hl:xs.length<=50000):rr xs=some ((xs.length:Int)::xs):=by
 have:=eG (step:=kB xs) xs (λj (s:List Int)=>((j:Int),s)) (λ(s:List Int) (x:Int)=>bif da 8 (s++[WR x]).length then some (ct.next (ρ:=List Int) (s++[WR x])) else none) some oaa
  (λj x s hx hj=>by
   simp only[kB,cI hj,bp,hx,WRs (k:=j),au]
   cases da 8 (s++[WR x]).length<;>rfl) (λs=>by simp[kB]) [(xs.length:Int)]
 have hm:qB 8 0 (WR ((xs.length:Int)+1))=true:=by
  rw[bO oaa];simp only[qB,decide_eq_true_eq];omega
 rw[rr,hm]
 simp only[cond_true]
 rw[show((aaf ((0:Int)).toNat 0)++[(xs.length:Int)])=[(xs.length:Int)] from rfl,show da 8 [(xs.length:Int)].length=true from gk (by simp) (by simp)]
 simp only[cond_true]
 rw[show iter (kB xs) FU (0,[(xs.length:Int)])=_ from this,B6 xs _ hb (by simp;omega)]
 rfl
theorem Ij {xs:List Int} (hb:okB xs) (hl:xs.length<=50000):rK xs=some ((xs.length:Int)::xs):=by
 have:=eG (step:=kL xs) xs (λj (s:List Int)=>((j:Int),s)) (λ(s:List Int) (x:Int)=>bif da 8 (s++[WR x]).length then some (ct.next (ρ:=List Int) (s++[WR x])) else none) some oaa
  (λj x s hx hj=>by
   simp only[kL,cI hj,bp,hx,WRs (k:=j),au]
   cases da 8 (s++[WR x]).length<;>rfl) (λs=>by simp[kL]) [(xs.length:Int)]
 rw[rK,show iter (kL xs) FU (0,[(xs.length:Int)])=_ from this,B6 xs _ hb (by simp;omega)]
 rfl
def DC (m:bv):Bool:=inR m.cY 0 1&&(inR m.fU 1 100000&&(leB (m.bb.length:Int) 60&&inR m.jE 0 2147483646))
theorem s7 (m:bv):kO m=some (DC m):=by
 simp only[kO,Mu,abX,DC]
 cases inR m.cY 0 1<;>cases inR m.fU 1 100000<;>cases leB (m.bb.length:Int) 60<;>rfl
theorem Ad (m:bv):nr m=some (DC m):=by
 simp only[nr,CS,abX,DC]
 by_cases h0:m.cY=0
 .rw[h0,show inR 0 0 1=true from bQ.2 oaa]
  simp only[bR,cond_true]
  cases inR m.fU 1 100000<;>cases leB (m.bb.length:Int) 60<;>rfl
 by_cases h1:m.cY=1
 .rw[h1,show inR 1 0 1=true from bQ.2 oaa,show eqB 1 0=false from eqB_f.2 oaa]
  simp only[bR,au]
  cases inR m.fU 1 100000<;>cases leB (m.bb.length:Int) 60<;>rfl
 rw[show eqB m.cY 0=false from eqB_f.2 h0,show eqB m.cY 1=false from eqB_f.2 h1,show inR m.cY 0 1=false from by
  cases h:inR m.cY 0 1 with
  |false=>rfl
  |true=>have:=bQ.1 h;omega]
 rfl
def mac (k:Int) (m:bv):Int:=em k ([m.cY,m.fU]++((m.bb.length:Int)::m.bb))
theorem GR {m:bv} (hb:okB m.bb) (hl:m.bb.length<=50000) (k:Int):wg k m=some (eqB m.jE (mac k m)):=by
 rw[wg,nX,HS hb hl]
 simp only[abX]
 rw[show da 8 ([m.cY,m.fU]++((m.bb.length:Int)::m.bb)).length=true from gk (by simp;omega) (by simp;omega),ey (by simp;omega)]
 rfl
theorem zT {m:bv} (hb:okB m.bb) (hl:m.bb.length<=50000) (k:Int):tc k m=some (eqB m.jE (mac k m)):=by
 rw[tc,CI,Ij hb hl]
 simp only[abX]
 rw[show da 8 ([m.cY,m.fU]++((m.bb.length:Int)::m.bb)).length=true from gk (by simp;omega) (by simp;omega),eA (by simp;omega)]
 rfl
theorem GB {m:bv} (h:DC m=true):m.bb.length<=60:=by
 simp only[DC,hV] at h
 have:=zt h.2.2.1
 omega
def w6 (k:Int) (p:ax):Bool:=DC p.bC&&(eqB p.bC.cY 1&&eqB p.bC.jE (mac (Md k p.aX) p.bC))
theorem Dr {p:ax} (hb:okB p.bC.bb) (k:Int):rC k p=some (w6 k p):=by
 rw[rC,Ad]
 simp only[abX,w6,we]
 cases hv:DC p.bC
 .rfl
 rw[GR hb (aba (GB hv) oaa)]
 cases eqB p.bC.cY 1<;>rfl
theorem xl {p:ax} (hb:okB p.bC.bb) (k:Int):ph k p=some (w6 k p):=by
 rw[ph,s7]
 simp only[abX,w6,wG]
 cases hv:DC p.bC
 .rfl
 rw[zT hb (aba (GB hv) oaa)]
 cases eqB p.bC.cY 1<;>rfl
def d1 (k:Int) (i:Nat) (x:Int):Int:=(x-em k [(i:Int)]%256)%256
def xE (k:Int) (xs:List Int):List Int:=xs.mapIdx (λi x=>d1 k i x)
theorem Ez (k:Int) (xs:List Int):(xE k xs).length=xs.length:=by simp[xE]
theorem W8 (k:Int) (xs:List Int):okB (xE k xs):=by
 intro x hx
 obtain⟨i,hi⟩:=aap hx
 simp only[xE,aca] at hi
 cases h:xs[i]? with
 |none=>rw[h] at hi;cases hi
 |some y=>
  rw[h] at hi;simp at hi;subst hi
  simp only[ye,d1]
  omega
theorem GD (n:Int):IntKind.u8.wrap n=n%256:=by rw[IntKind.wrap_u8]
theorem Lp {xs:List Int} (hb:okB xs) (hl:xs.length<=50000) (k:Int):A8 k xs=some (xE k xs):=by
 have hc:fj xs=some xs:=by
  have hm:qB 1 (xs.length:Int) (xs.length:Int)=true:=by simp only[qB,decide_eq_true_eq];omega
  rw[fj,hm]
  simp[cpL]
 have goal:Wp (iter (xJ k xs) FU (0,xs)) (λr=>r=xE k xs):=by
  refine Wp.iterF (λs=>∃i:Nat,i<=xs.length/\s.1=(i:Int)/\s.2.length=xs.length/\(∀j,j<i->s.2[j]?=(xE k xs)[j]?)/\(∀j,i<=j->s.2[j]?=xs[j]?)) (λs=>((xs.length:Int)-s.1).toNat) ⟨0,by omega,rfl,rfl,by omega,λ_ _=>rfl⟩ (by simp;omega) ?_
  rintro⟨v2,v3⟩ ⟨i,hi,rfl,h3,h4,h5⟩
  simp only at h3 h4 h5
  simp only[xJ]
  refine Wp.cond (λhlt=>?_) (λhlt=>?_)
  .have hlt:=mI hlt
   have hil:i<xs.length:=by omega
   refine Wp.ix oaa oaa λx hx hxi=>?_
   refine Wp.eq (ey (by simp) _) (Wp.ix oaa oaa λx' _ _=>Wp.some ?_)
   simp only[abY] at hxi
   have hxi':xs[i]?=some x:=by rw[<-h5 i (aah _)];exact hxi
   have hr:=lP k [(i:Int)]
   have e1:abV (em k [(i:Int)]) 256=em k [(i:Int)]%256:=ab1 hr.1
   have e2:IntKind.u8.wrap (x-IntKind.u8.wrap (abV (em k [(i:Int)]) 256))=d1 k i x:=by
    rw[GD,GD,e1,d1]
    omega
   have e3:WR ((i:Int)+1)=((i+1:Nat):Int):=by rw[bO oaa];rfl
   rw[e2,e3]
   refine⟨⟨i+1,by omega,rfl,by simpa using h3,λj hj=>?_,λj hj=>?_⟩,?_⟩
   .simp only[abY]
    rw[abI]
    by_cases hij:i=j
    .subst hij
     rw[if_pos rfl,if_pos oaa]
     simp only[xE,aca,hxi',ace]
    rw[if_neg hij];exact h4 j oaa
   .simp only[abY]
    rw[abI,if_neg oaa]
    exact h5 j oaa
   simp only;omega
  have hlt:=pP hlt
  refine Wp.some (ab9 λj=>?_)
  by_cases hj:j<xs.length
  .exact h4 j oaa
  rw[acd oaa,acd (by rw[Ez];omega)]
 obtain⟨r,h1,h2⟩:=goal.ex
 rw[A8,hc]
 simp only[abX]
 rw[h1,h2];rfl
theorem Mg {xs:List Int} (hb:okB xs) (hl:xs.length<=50000) (k:Int):BB k xs=some (xE k xs):=by
 have goal:Wp (iter (yl k xs) FU (0,[])) (λr=>r=xE k xs):=by
  refine Wp.iterF (λs=>∃i:Nat,i<=xs.length/\s.1=(i:Int)/\s.2=(xE k xs).take i) (λs=>((xs.length:Int)-s.1).toNat) ⟨0,by omega,rfl,rfl⟩ (by simp;omega) ?_
  rintro⟨v2,v3⟩ ⟨i,hi,rfl,rfl⟩
  simp only[yl]
  refine Wp.cond (λhlt=>?_) (λhlt=>?_)
  .have hlt:=mI hlt
   have hil:i<xs.length:=by omega
   refine Wp.ix oaa oaa λx hx hxi=>?_
   simp only[abY] at hxi
   have hx8:=hb x hx
   have hr:=lP k [(i:Int)]
   have e1:abV (em k [(i:Int)]) 256=em k [(i:Int)]%256:=ab1 hr.1
   have hb8:0<=em k [(i:Int)]%256/\em k [(i:Int)]%256<256:=by omega
   simp only[ye] at hx8
   refine Wp.eq (eA (by simp) _) (Wp.eq (y5 _ oaa oaa) ?_)
   have hlen:((xE k xs).take i).length=i:=by rw[abf,Ez];omega
   rw[e1,Tc (hb x hx),bO oaa,GD]
   have e4:(x-em k [(i:Int)]%256)%256%256=d1 k i x:=by rw[d1];omega
   rw[e4]
   refine Wp.ok (gk (by simp only[aav,hlen,aai,ab0];omega) (by simp only[aav,hlen,aai,ab0];omega)) (Wp.some ?_)
   have e3:WR ((i:Int)+1)=((i+1:Nat):Int):=by rw[bO oaa];rfl
   rw[e3]
   have hxd:(xE k xs)[i]?=some (d1 k i x):=by simp only[xE,aca,hxi,ace]
   refine⟨⟨i+1,by omega,rfl,by rw[acg,hxd];rfl⟩,?_⟩
   simp only;omega
  have hlt:=pP hlt
  refine Wp.some ?_
  rw[ab7 (by rw[Ez];omega)]
 obtain⟨r,h1,h2⟩:=goal.ex
 rw[BB,h1,h2];rfl
def e1 (k:Int) (i:Nat) (x:Int):Int:=(x+em k [(i:Int)]%256)%256
def tC (k:Int) (xs:List Int):List Int:=xs.mapIdx (λi x=>e1 k i x)
@[simp] theorem encL_len (k:Int) (xs:List Int):(tC k xs).length=xs.length:=by simp[tC]
theorem Jh (k:Int) (xs:List Int):okB (tC k xs):=by
 intro x hx
 obtain⟨i,hi⟩:=aap hx
 simp only[tC,aca] at hi
 cases h:xs[i]? with
 |none=>rw[h] at hi;cases hi
 |some y=>rw[h] at hi;simp at hi;subst hi;simp only[ye,e1];omega
theorem W9 {xs:List Int} (h:okB xs) (k:Int):xE k (tC k xs)=xs:=by
 apply ab9
 intro i
 simp only[xE,tC,aca,Option.map_map]
 cases hx:xs[i]? with
 |none=>rfl
 |some x=>
  have:=h x (aab hx)
  simp only[ye] at this
  simp only[ace,Function.comp,d1,e1,Option.some.injEq]
  omega
theorem Lq {xs:List Int} (hb:okB xs) (hl:xs.length<=50000) (k:Int):A9 k xs=some (tC k xs):=by
 have hc:fj xs=some xs:=vW oaa
 have goal:Wp (iter (xK k xs) FU (0,xs)) (λr=>r=tC k xs):=by
  refine Wp.iterF (λs=>∃i:Nat,i<=xs.length/\s.1=(i:Int)/\s.2.length=xs.length/\(∀j,j<i->s.2[j]?=(tC k xs)[j]?)/\(∀j,i<=j->s.2[j]?=xs[j]?)) (λs=>((xs.length:Int)-s.1).toNat) ⟨0,by omega,rfl,rfl,by omega,λ_ _=>rfl⟩ (by simp;omega) ?_
  rintro⟨v2,v3⟩ ⟨i,hi,rfl,h3,h4,h5⟩
  simp only at h3 h4 h5
  simp only[xK]
  refine Wp.cond (λhlt=>?_) (λhlt=>?_)
  .have hlt:=mI hlt
   have hil:i<xs.length:=by omega
   refine Wp.ix oaa oaa λx hx hxi=>?_
   refine Wp.eq (ey (by simp) _) (Wp.ix oaa oaa λx' _ _=>Wp.some ?_)
   simp only[abY] at hxi
   have hxi':xs[i]?=some x:=by rw[<-h5 i (aah _)];exact hxi
   have hr:=lP k [(i:Int)]
   have t1:abV (em k [(i:Int)]) 256=em k [(i:Int)]%256:=ab1 hr.1
   have t2:IntKind.u8.wrap (x+IntKind.u8.wrap (abV (em k [(i:Int)]) 256))=e1 k i x:=by
    rw[GD,GD,t1,e1]
    omega
   have t3:WR ((i:Int)+1)=((i+1:Nat):Int):=by rw[bO oaa];rfl
   rw[t2,t3]
   refine⟨⟨i+1,by omega,rfl,by simpa using h3,λj hj=>?_,λj hj=>?_⟩,?_⟩
   .simp only[abY]
    rw[abI]
    by_cases hij:i=j
    .subst hij
     rw[if_pos rfl,if_pos oaa]
     simp only[tC,aca,hxi',ace]
    rw[if_neg hij];exact h4 j oaa
   .simp only[abY]
    rw[abI,if_neg oaa]
    exact h5 j oaa
   simp only;omega
  have hlt:=pP hlt
  refine Wp.some (ab9 λj=>?_)
  by_cases hj:j<xs.length
  .exact h4 j oaa
  rw[acd oaa,acd (by rw[encL_len];omega)]
 obtain⟨r,h1,h2⟩:=goal.ex
 rw[A9,hc]
 simp only[abX]
 rw[h1,h2];rfl
theorem Mh {xs:List Int} (hb:okB xs) (hl:xs.length<=50000) (k:Int):BC k xs=some (tC k xs):=by
 have goal:Wp (iter (ym k xs) FU (0,[])) (λr=>r=tC k xs):=by
  refine Wp.iterF (λs=>∃i:Nat,i<=xs.length/\s.1=(i:Int)/\s.2=(tC k xs).take i) (λs=>((xs.length:Int)-s.1).toNat) ⟨0,by omega,rfl,rfl⟩ (by simp;omega) ?_
  rintro⟨v2,v3⟩ ⟨i,hi,rfl,rfl⟩
  simp only[ym]
  refine Wp.cond (λhlt=>?_) (λhlt=>?_)
  .have hlt:=mI hlt
   have hil:i<xs.length:=by omega
   refine Wp.ix oaa oaa λx hx hxi=>?_
   simp only[abY] at hxi
   have hx8:=hb x hx
   have hr:=lP k [(i:Int)]
   have t1:abV (em k [(i:Int)]) 256=em k [(i:Int)]%256:=ab1 hr.1
   have hb8:0<=em k [(i:Int)]%256/\em k [(i:Int)]%256<256:=by omega
   simp only[ye] at hx8
   refine Wp.eq (eA (by simp) _) ?_
   have hlen:((tC k xs).take i).length=i:=by rw[abf,encL_len];omega
   rw[t1,Tc (hb x hx),bO oaa,ab1 oaa,GD]
   have t4:(x+em k [(i:Int)]%256)%256%256=e1 k i x:=by rw[e1];omega
   rw[t4]
   refine Wp.ok (gk (by simp only[aav,hlen,aai,ab0];omega) (by simp only[aav,hlen,aai,ab0];omega)) (Wp.some ?_)
   have t3:WR ((i:Int)+1)=((i+1:Nat):Int):=by rw[bO oaa];rfl
   rw[t3]
   have hxd:(tC k xs)[i]?=some (e1 k i x):=by simp only[tC,aca,hxi,ace]
   refine⟨⟨i+1,by omega,rfl,by rw[acg,hxd];rfl⟩,?_⟩
   simp only;omega
  have hlt:=pP hlt
  refine Wp.some ?_
  rw[ab7 (by rw[encL_len];omega)]
 obtain⟨r,h1,h2⟩:=goal.ex
 rw[BC,h1,h2];rfl
theorem UG {b:List Int} (hb:okB b) (hl:b.length<=50000) (k d c:Int):nX k d c b=some (em k ([d,c]++((b.length:Int)::b))):=by
 rw[nX,HS hb hl]
 simp only[abX]
 rw[show da 8 ([d,c]++((b.length:Int)::b)).length=true from gk (by simp;omega) (by simp;omega),ey (by simp;omega)]
 rfl
theorem UH {m:bv} (hb:okB m.bb) (hl:m.bb.length<=50000) (k:Int):CI k m=some (mac k m):=by
 rw[CI,Ij hb hl]
 simp only[abX]
 rw[show da 8 ([m.cY,m.fU]++((m.bb.length:Int)::m.bb)).length=true from gk (by simp;omega) (by simp;omega),eA (by simp;omega)]
 rfl
def Ga (k c:Int) (b:List Int):bv:=⟨1,c,tC (dk k (2*c+1)) b,mac k ⟨1,c,tC (dk k (2*c+1)) b,0⟩⟩
def iF (root g e:Int) (x:ae):ax:=⟨g,e,Ga (Md root e) x.c8 x.bb⟩
theorem N7 (h0:0<=x.c8) (h1:x.c8<=1000000) (hb:okB x.bb) (hl:x.bb.length<=50000) (root g e:Int):s8 root g e x=some (iF root g e x):=by
 simp only[s8,wG,FY,abX,bO (n:=2*x.c8) oaa,bO (n:=2*x.c8+1) oaa,uS,Mh hb hl,UH (m:=⟨1,x.c8,tC _ x.bb,0⟩) (Jh _ _) (by simpa using hl)]
 rfl
theorem VL (h0:0<=x.c8) (h1:x.c8<=1000000) (hb:okB x.bb) (hl:x.bb.length<=50000) (root g e:Int):sQ root g e x=some (iF root g e x):=by
 simp only[sQ,we,EX,abX,bO (n:=2*x.c8) oaa,bO (n:=2*x.c8+1) oaa,uP,Lq hb hl,UG (Jh _ _) (show(tC _ x.bb).length<=50000 by simpa using hl)]
 rfl
theorem hM_le (k:Int) (xs:List Int):inR (em k xs) 0 2147483646=true:=by have:=lP k xs;rw[bQ];unfold hM at this;omega
theorem Yh {c:Int} {b:List Int} (h0:1<=c) (h1:c<=100000) (hl:b.length<=60) (k:Int):DC (Ga k c b)=true:=by
 simp only[DC,Ga,encL_len,mac];rw[hM_le];simp[inR,leB];omega
theorem seal_v (h0:1<=x.c8) (h1:x.c8<=100000) (hl:x.bb.length<=60) (root g e:Int):w6 root (iF root g e x)=true:=by
 simp only[w6,iF,Yh h0 h1 hl];simp[Ga,mac,eqB]
def rm (root g e:Int) (x:ax):ae×Bool:=
 if x.ag=g/\x.aX=e/\w6 root x=true then(⟨x.bC.fU,xE (dk (Md root e) (2*x.bC.fU+1)) x.bC.bb⟩,true) else(bT,false)
theorem H3 {p:ax} (hb:okB p.bC.bb) (k g e:Int):sO k g e p=some (rm k g e p)/\wF k g e p=some (rm k g e p):=by
 simp only[sO,Dr hb,we,wF,xl hb,wG,abX,rm]
 cases hg:eqB p.ag g
 .rw[if_neg (λh=>Ji hg h.1)];exact⟨rt,rt⟩
 cases he:eqB p.aX e
 .rw[if_neg (λh=>Ji he h.2.1)];exact⟨rt,rt⟩
 cases hv:w6 k p
 .rw[if_neg (λh=>by cases h.2.2)];exact⟨rt,rt⟩
 have he:=pH he
 rw[if_pos ⟨pH hg,he,rfl⟩]
 simp only[w6,hV] at hv
 obtain⟨h1,h2,h3⟩:=hv
 have hlen:=GB h1
 have hd:=pH h2
 have hm:=pH h3
 have hcnt:1<=p.bC.fU/\p.bC.fU<=100000:=by
  simp only[DC,hV] at h1
  exact bQ.1 h1.2.1
 rw[he] at hm
 have ek:eqB p.bC.jE (mac (Md k e) p.bC)=true:=by rw[hm];simp
 simp only[wm,uP,Lp hb (show p.bC.bb.length<=50000 by omega),Ar,s7,zT hb (show p.bC.bb.length<=50000 by omega),uS,Mg hb (show p.bC.bb.length<=50000 by omega),h1,h2,ek,show leB p.bC.fU 0=false from leB_f.2 oaa,hd,bO (n:=2*p.bC.fU) oaa,bO (n:=2*p.bC.fU+1) oaa,au]
 refine⟨?_,?_⟩<;>first|trivial|rfl|(rw[bR];rfl)
theorem RD (h0:1<=x.c8) (h1:x.c8<=100000) (hb:okB x.bb) (hl:x.bb.length<=60) (root g e:Int):rm root g e (iF root g e x)=(x,true):=by
 rw[rm,if_pos ⟨rfl,rfl,seal_v h0 h1 hl _ _ _⟩]
 simp[iF,Ga,W9 hb]
def N9 (root:Int) (m:aH):Int:=em (LG root [1,2]) [23,m.bh,m.bg,m.ag,m.aX,m.bW]
def wM (root:Int) (m:aH):aH:={m with jE:=N9 root m}
def tw (root:Int) (m:aH):Bool:=eqB m.jE (N9 root m)
theorem VQ (root:Int) (m:aH):s9 root m=some (N9 root m):=by simp[s9,pb,yo,eA,N9]
theorem VP (root:Int) (m:aH):sR root m=some (N9 root m):=by simp[sR,oF,xM,ey,N9]
theorem CG (root:Int) (m:aH):ke root m=some (wM root m):=by simp[ke,VQ,wM]
theorem Kh (root:Int) (m:aH):nW root m=some (wM root m):=by simp[nW,VP,wM]
theorem Ku (root:Int) (m:aH):iC root m=some (tw root m):=by simp[iC,VQ,tw]
theorem OA (root:Int) (m:aH):ju root m=some (tw root m):=by simp[ju,VP,tw]
@[simp] theorem vSig_sign (root:Int) (m:aH):tw root (wM root m)=true:=by simp[tw,wM,N9,eqB]
def lS (m:aH):Bool:=inR m.bh 1 8&&(inR m.bg 0 5&&(inR m.ag 0 999999&&(inR m.aX 0 999999&&inR m.bW 0 1000000000000)))
theorem PQ (m:aH):lX m=some (lS m):=by
 simp only[lX,fY,abX,lS]
 cases inR m.bh 1 8<;>cases inR m.bg 0 5<;>cases inR m.ag 0 999999<;>cases inR m.aX 0 999999<;>rfl
theorem PP (m:aH):lH m=some (lS m):=by
 simp only[lH,gE,abX,lS]
 cases inR m.bh 1 8<;>cases inR m.bg 0 5<;>cases inR m.ag 0 999999<;>cases inR m.aX 0 999999<;>rfl
def msk (k r:Int):Int:=em k [1,r]%1000000
theorem Fq (k r:Int):0<=msk k r/\msk k r<1000000:=by unfold msk;omega
theorem Y1 (k r:Int):m9 k r=some (msk k r):=by simp[m9,eA,y5,msk]
theorem Y0 (k r:Int):mR k r=some (msk k r):=by simp[mR,ey,msk,ab1 (lP k [1,r]).1]
def unm (k r a:Int):Int:=(a%1000000-msk k r)%1000000
theorem Oz (k r a:Int):0<=unm k r a/\unm k r a<=999999:=by unfold unm;omega
theorem Zg (k r a:Int):kR k r a=some (unm k r a):=by
 have:=Fq k r
 simp only[kR,y5 _ (show(1:Int)<=1000000 by omega) oaa,Y1,abX,unm];rw[bO oaa]
theorem Zf (k r a:Int):kE k r a=some (unm k r a):=by
 have:=Fq k r
 simp only[kE,Pe _ (show(1:Int)<=1000000 by omega) oaa,Y0,abX,unm];rw[bO oaa]
def JE (x:Int):Int:=if x=0 then 1 else x
def vec (k r q:Int):cE:=bif inR q 0 999999 then⟨r,(q+msk k r)%1000000,em k [2,r,q],em k [3,r],JE (em k [4,r,q])⟩ else cr
theorem XD (k:Int) (xs:List Int):1<=JE (em k xs)/\JE (em k xs)<=2147483646:=by have:=lP k xs;unfold hM JE at*;split<;>omega
theorem Qy (k r q:Int):iS k r q=some (vec k r q):=by
 simp only[iS,fY,abX,vec]
 cases hq:inR q 0 999999
 .rfl
 rw[bQ] at hq
 have h1:=Fq k r
 have h2:=lP k [4,r,q]
 simp only[Y1,y5 _ (show(1:Int)<=1000000 by omega) oaa,eA (show [2,r,q].length<=100000 by simp),eA (show [3,r].length<=100000 by simp),eA (show [4,r,q].length<=100000 by simp),FQ,au]
 rw[bO oaa]
 by_cases h:em k [4,r,q]=0
 .rw[show ltB 1 (em k [4,r,q])=false from ltB_f.2 oaa];simp[JE,h]
 by_cases h':em k [4,r,q]=1
 .rw[h'];simp[ltB,JE]
 rw[show ltB 1 (em k [4,r,q])=true from ltB_t.2 oaa];simp[JE,h]
theorem Zh (k r q:Int):lI k r q=some (vec k r q):=by
 simp only[lI,gE,abX,vec]
 cases hq:inR q 0 999999
 .rfl
 rw[bQ] at hq
 have h1:=Fq k r
 simp only[Y0,ey (show [2,r,q].length<=1048576 by simp),ey (show [3,r].length<=1048576 by simp),ey (show [4,r,q].length<=1048576 by simp),au]
 rw[bO oaa,ab1 oaa]
 by_cases h:em k [4,r,q]=0
 .rw[h];simp[JE]
 rw[show eqB (em k [4,r,q]) 0=false from eqB_f.2 h];simp[JE,h]
theorem Qt {k r q:Int} (h0:0<=q) (h1:q<=999999):unm k r ((q+msk k r)%1000000)=q:=by have:=Fq k r;unfold unm;omega
def ka (k last:Int) (v:cE):Int:=
 if v.jE≠em k [2,v.eC,unm k v.eC v.gm] then 1 else if unm k v.eC v.gm<=last then 2 else if last<unm k v.eC v.gm-1000 then 3 else 0
theorem Qw (k last:Int) (v:cE):nf k last v=some (ka k last v):=by
 have hu:=Oz k v.eC v.gm
 simp only[nf,Zg,eA (show [2,v.eC,unm k v.eC v.gm].length<=100000 by simp),abX,ka]
 rw[bO oaa]
 by_cases h1:v.jE=em k [2,v.eC,unm k v.eC v.gm]
 .rw[show eqB v.jE (em k [2,v.eC,unm k v.eC v.gm])=true from eqB_t.2 h1]
  simp only[ne_eq,h1,not_true_eq_false,if_false,au]
  by_cases h2:unm k v.eC v.gm<=last
  .rw[show leB (unm k v.eC v.gm) last=true from leB_t.2 h2,if_pos h2];rfl
  rw[show leB (unm k v.eC v.gm) last=false from leB_f.2 oaa,if_neg h2]
  by_cases h3:last<unm k v.eC v.gm-1000
  .rw[show ltB last (unm k v.eC v.gm-1000)=true from ltB_t.2 h3,if_pos h3];rfl
  rw[show ltB last (unm k v.eC v.gm-1000)=false from ltB_f.2 oaa,if_neg h3];rfl
 rw[show eqB v.jE (em k [2,v.eC,unm k v.eC v.gm])=false from eqB_f.2 h1]
 simp[h1]
theorem YA {last:Int} (hl: -9000000000000<=last/\last<=9000000000000) (k:Int) (v:cE):p9 k last v=some (ka k last v):=by
 have hu:=Oz k v.eC v.gm
 simp only[p9,Zf,ey (show [2,v.eC,unm k v.eC v.gm].length<=1048576 by simp),abX,ka]
 rw[bO oaa]
 by_cases h1:v.jE=em k [2,v.eC,unm k v.eC v.gm]
 .rw[show eqB v.jE (em k [2,v.eC,unm k v.eC v.gm])=true from eqB_t.2 h1]
  simp only[ne_eq,h1,not_true_eq_false,if_false,au]
  by_cases h2:unm k v.eC v.gm<=last
  .rw[show leB (unm k v.eC v.gm) last=true from leB_t.2 h2,if_pos h2];rfl
  rw[show leB (unm k v.eC v.gm) last=false from leB_f.2 oaa,if_neg h2]
  by_cases h3:last<unm k v.eC v.gm-1000
  .rw[show ltB (last+1000) (unm k v.eC v.gm)=true from ltB_t.2 oaa,if_pos h3];rfl
  rw[show ltB (last+1000) (unm k v.eC v.gm)=false from ltB_f.2 oaa,if_neg h3];rfl
 rw[show eqB v.jE (em k [2,v.eC,unm k v.eC v.gm])=false from eqB_f.2 h1]
 simp[h1]
theorem Sp {k r q:Int} (h0:0<=q) (h1:q<=999999) (last:Int):ka k last (vec k r q)=if q<=last then 2 else if last<q-1000 then 3 else 0:=by
 have hq:inR q 0 999999=true:=bQ.2 ⟨h0,h1⟩
 simp only[vec,hq,cond_true,ka,Qt h0 h1,ne_eq,not_true_eq_false,if_false]
def Et (id:dw) (q:Int):Int:=em 29 [id.dZ,id.bW,q]
theorem Tv (id:dw) (q:Int):lU id q=some (Et id q):=by simp[lU,eA,Et]
theorem Zs (id:dw) (q:Int):ot id q=some (Et id q):=by simp[ot,ey,Et]
theorem MF {α:Type} (p:α->Bool):∀(xs:List α) (i:Nat),i<(xs.takeWhile p).length->∃x,xs[i]?=some x/\p x=true
 |[],i,h=>by simp at h
 |x::xs,i,h=>by
  rw[ach] at h
  cases hp:p x<;>rw[hp] at h
  .simp at h
  cases i with
  |zero=>exact⟨x,rfl,hp⟩
  |succ i=>exact MF p xs i (by simpa using h)
theorem ME {α:Type} (p:α->Bool):∀(xs:List α) (x:α),xs[(xs.takeWhile p).length]?=some x->p x=false
 |[],x,h=>by simp at h
 |y::xs,x,h=>by
  rw[ach] at h
  cases hp:p y<;>rw[hp] at h
  .simp at h;subst h;exact hp
  exact ME p xs x (by simpa using h)
theorem Gy (p:α->Bool) (xs:List α):(xs.takeWhile p).length<=xs.length:=(List.takeWhile_prefix p).length_le
theorem Gz {α:Type} (p:α->Bool):∀xs:List α,xs.take (xs.takeWhile p).length=xs.takeWhile p
 |[]=>rfl
 |x::xs=>by
  rw[ach]
  cases p x
  .rfl
  simp[Gz p xs]
theorem Gx {α:Type} (p:α->Bool):∀xs:List α,xs.drop (xs.takeWhile p).length=xs.dropWhile p
 |[]=>rfl
 |x::xs=>by
  rw[ach,acG]
  cases p x
  .rfl
  simp[Gx p xs]
theorem w7 {L:Int->Option (ct Int Int)} (xs:List α) (p:α->Bool) (hl:xs.length<=1048576)
 (h1:∀(k:Nat) (x:α),xs[k]?=some x->L k=bif p x then some (.next (WR ((k:Int)+1))) else some (.done k)) (h0:L xs.length=some (.done xs.length)):iter L FU 0=some (((xs.takeWhile p).length:Nat):Int):=by
 have hle:=Gy p xs
 have:Wp (iter L FU 0) (λr=>r=(((xs.takeWhile p).length:Nat):Int)):=by
  refine Wp.iterF (λs=>∃i:Nat,s=(i:Int)/\i<=(xs.takeWhile p).length) (λs=>((xs.length:Int)-s).toNat) ⟨0,rfl,by omega⟩ oaa ?_
  rintro _ ⟨i,rfl,hi⟩
  by_cases e:i<(xs.takeWhile p).length
  .obtain⟨x,hx,hp⟩:=MF p xs i e
   rw[h1 i x hx,hp]
   exact⟨⟨i+1,by rw[bO oaa];rfl,by omega⟩,by simp only[bO (show-9223372036854775808<=(i:Int)+1/\(i:Int)+1<=9223372036854775807 by omega)];omega⟩
  have e:i=(xs.takeWhile p).length:=by omega
  by_cases hn:i<xs.length
  .obtain⟨x,hx⟩:∃x,xs[i]?=some x:=⟨_,v0 hn⟩
   rw[h1 i x hx,ME p xs x (by rw[<-e];exact hx)]
   subst e;rfl
  have:i=xs.length:=by omega
  subst this
  rw[h0]
  show(xs.length:Int)=_
  omega
 obtain⟨r,hr,rfl⟩:=this.ex
 exact hr
def before (q:Int) (x:ae):Bool:=ltB x.c8 q
def qw (x:ae) (xs:List ae):List ae:=xs.takeWhile (before x.c8)++[x]++xs.dropWhile (before x.c8)
def sI:List ae->Int->List bV->aP
 |[],n,dl=>⟨n,[],dl⟩
 |x::xs,n,dl=>if x.c8=n/\dl.length<24 then sI xs (n+1) (dl++[⟨x.bb⟩]) else⟨n,x::xs,dl⟩
def xY (r:aP) (x:ae):Bool:=!pz r||(ltB 60 (x.bb.length:Int)||(!inR x.c8 r.bB (r.bB+7)||(r.aK.any (λy=>eqB y.c8 x.c8)||leB 24 (r.be.length:Int))))
def oc (r:aP) (x:ae):aP:=
 bif xY r x then r else
  let o:=sI (qw x r.aK) r.bB r.be
  bif leB 24 (o.be.length:Int) then {o with aK:=[]} else o
theorem HD:∀(xs:List ae) (n:Int) (dl:List bV),dl.length<=24->(sI xs n dl).be.length<=24
 |[],n,dl,h=>h
 |x::xs,n,dl,h=>by
  rw[sI];split
  .exact HD xs _ _ (by simp;omega)
  exact h
theorem Ca {L:aP->Option (ct aP aP)}
 (hL:∀v:aP,v.aK.length<=1000->v.be.length<=24->0<=v.bB->v.bB<=2000000->L v=match v.aK with
  |[]=>some (.done v)
  |x::xs=>if x.c8=v.bB/\v.be.length<24 then some (.next ⟨v.bB+1,xs,v.be++[⟨x.bb⟩]⟩) else some (.done v)):
 ∀(xs:List ae) (n:Int) (dl:List bV) (fu:Nat),xs.length<=1000->dl.length<=24->0<=n->n+xs.length<=2000000->xs.length<fu->iter L fu ⟨n,xs,dl⟩=some (sI xs n dl)
 |[],n,dl,fu,h1,h2,h3,h4,h5=>by
  cases fu with
  |zero=>omega
  |succ fu=>rw[iter,hL _ h1 h2 h3 (by simpa using h4)];rfl
 |x::xs,n,dl,fu,h1,h2,h3,h4,h5=>by
  simp only[aai] at h1 h4 h5
  cases fu with
  |zero=>omega
  |succ fu=>
   rw[iter,hL ⟨n,x::xs,dl⟩ (by simpa using h1) h2 h3 (by simp only;omega),sI]
   simp only
   by_cases e:x.c8=n/\dl.length<24
   .rw[if_pos e,if_pos e]
    exact Ca hL xs (n+1) _ fu oaa (by simp;omega) oaa oaa oaa
   rw[if_neg e,if_neg e]
theorem T7 {xs:List ae} (h:xs.length<=1048576) (q:Int):∃r,Gi xs q=some r/\leB 0 r=xs.any (λy=>eqB y.c8 q):=by
 refine⟨_,vb (L:=ut xs q) xs (λy=>eqB y.c8 q) oaa (λk x hx hk=>?_) ?_,?_⟩
 .simp[ut,cI hk,hx];cases eqB x.c8 q<;>simp[WRs (k:=k)]
 .simp[ut]
 rcases Cl (λy:ae=>eqB y.c8 q) xs 0 with⟨e,ha⟩|⟨j,e,x,hx,hp,_⟩
 .rw[show((0:Nat):Int)=0 from rfl] at e
  rw[e,show xs.any (λy=>eqB y.c8 q)=false from by rw[abk];intro y hy;simp[ha y hy]];simp[leB]
 rw[show((0:Nat):Int)=0 from rfl] at e
 rw[e,show xs.any (λy=>eqB y.c8 q)=true from List.any_eq_true.2 ⟨x,aab hx,hp⟩,leB_t];omega
theorem Vf (h:r.aK.length<=1048576) (q:Int):Ag r q=some (r.aK.any (λy=>eqB y.c8 q)):=
 KP (L:=qc r q) r.aK (λy=>eqB y.c8 q) oaa (λk x hx hk=>by
  simp[qc,cI hk,hx];cases eqB x.c8 q<;>simp[WRs (k:=k)]) (by simp[qc])
theorem sm (h:pz r=true):r.bB=(r.be.length:Int)+1/\r.be.length<=24/\r.aK.length<=8:=by
 simp only[pz,hV] at h
 obtain⟨h1,h2,h3,h4,h5⟩:=h
 have h2:=zt h2
 have h4:=zt h4
 have h1:=pH h1
 rw[bO oaa] at h1
 omega
theorem oK (x:ae) (xs:List ae):(qw x xs).length=xs.length+1:=by
 have:(xs.takeWhile (before x.c8)).length+(xs.dropWhile (before x.c8)).length=xs.length:=by rw[<-aav,acl]
 simp[qw];omega
theorem L2_i:∀v:aP,v.aK.length<=1000->v.be.length<=24->0<=v.bB->v.bB<=2000000->lj v=match v.aK with
 |[]=>some (.done v)
 |x::xs=>if x.c8=v.bB/\v.be.length<24 then some (.next ⟨v.bB+1,xs,v.be++[⟨x.bb⟩]⟩) else some (.done v):=by
 rintro⟨n,p,dl⟩ h1 h2 h3 h4
 cases p with
 |nil=>simp[lj]
 |cons x xs=>
  simp only[aai] at h1 h2
  have i0:ix (x::xs) 0=some x:=by simp[ix,leB]
  have hlt:ltB 0 (((x::xs).length:Nat):Int)=true:=ltB_t.2 (by simp only[aai];omega)
  simp only[lj,i0,hlt,au]
  by_cases e:x.c8=n
  .by_cases e2:dl.length<24
   .rw[if_pos ⟨e,e2⟩,eqB_t.2 e,show ltB (dl.length:Int) 24=true from ltB_t.2 oaa]
    have a1:da 24 (dl++[(⟨x.bb⟩:bV)]).length=true:=cG oaa (by simp;omega)
    have a2:eS (x::xs) 1 (((x::xs).length:Nat):Int)=true:=by simp[eS];omega
    simp only[a1,a2,bO (n:=n+1) (by simp only at h3 h4;omega),au]
    rfl
   rw[if_neg (λh=>e2 h.2),eqB_t.2 e,show ltB (dl.length:Int) 24=false from ltB_f.2 oaa];rfl
  rw[if_neg (λh=>e h.1),eqB_f.2 e];rfl
theorem L2_s:∀v:aP,v.aK.length<=1000->v.be.length<=24->0<=v.bB->v.bB<=2000000->uj v=match v.aK with
 |[]=>some (.done v)
 |x::xs=>if x.c8=v.bB/\v.be.length<24 then some (.next ⟨v.bB+1,xs,v.be++[⟨x.bb⟩]⟩) else some (.done v):=L2_i
theorem yL (b:Bool) (x y:α):(bif b then some x else some y)=some (bif b then x else y):=by cases b<;>rfl
theorem Ps (a b c d e:Bool):(bif !a then some true else bif b then some true else bif !c then some true else bif d then some true else some e)=some (!a||(b||(!c||(d||e)))):=by cases a<;>cases b<;>cases c<;>cases d<;>rfl
theorem take_s (h:fw r) :o7 r x=some (oc r x):=by
 obtain⟨q,hq,hq2⟩:=T7 h.1.1 x.c8
 have hw:pz r=true->inR x.c8 r.bB (WR (WR (r.bB+8)-1))=inR x.c8 r.bB (r.bB+7):=λhv=>by
  have:=sm hv
  rw[bO (n:=r.bB+8) oaa,bO oaa,show r.bB+8-1=r.bB+7 by omega]
 have hl:(bif !pz r then some true else(bif ltB 60 (x.bb.length:Int) then some true else(bif !(inR x.c8 r.bB (WR (WR (r.bB+8)-1))) then some true else(bif leB 0 q then some true else some (leB 24 (r.be.length:Int))))))=some (xY r x):=by
  rw[hq2,Ps]
  cases hv:pz r
  .simp[xY,hv]
  rw[hw hv];simp[xY,hv]
 simp only[o7,Vq h,Vs h.2.1 h.1.1,fY,hq,abX,hl]
 rw[oc]
 cases hlt:xY r x
 .simp only[xY,aaq,ab8] at hlt
  obtain⟨l1,l2,l3,l4,l5⟩:=hlt
  have hv:=sm l1
  have l2:=pP l2
  have l5:=xq l5
  have hw2:=Gy (before x.c8) r.aK
  have hrun:=w7 (L:=ly x r) r.aK (before x.c8) oaa (λk y hy=>by
   have hk:=(aaa.1 hy).1
   simp[ly,cI hk,hy,before]) (by simp[ly])
  have hxs:([]:List ae)++r.aK.take ((((r.aK.takeWhile (before x.c8)).length:Nat):Int)).toNat++[(⟨x.c8,[]++x.bb⟩:ae)]++r.aK.drop ((((r.aK.takeWhile (before x.c8)).length:Nat):Int)).toNat=qw x r.aK:=by
   simp[Gz,Gx,qw]
  have a1:eS r.aK 0 (((r.aK.takeWhile (before x.c8)).length:Nat):Int)=true:=by simp[eS];omega
  have a2:eS r.aK (((r.aK.takeWhile (before x.c8)).length:Nat):Int) (r.aK.length:Int)=true:=by simp[eS];omega
  have a3:da 1 (([]:List Int)++x.bb).length=true:=cG oaa (by simp;omega)
  have a4:da 32 (([]:List ae)++r.aK.take ((((r.aK.takeWhile (before x.c8)).length:Nat):Int)).toNat).length=true:=cG oaa (by simp;omega)
  have a5:da 32 (([]:List ae)++r.aK.take ((((r.aK.takeWhile (before x.c8)).length:Nat):Int)).toNat++[(⟨x.c8,[]++x.bb⟩:ae)]).length=true:=cG oaa (by simp;omega)
  simp only[hrun,a1,a2,a3,a4,a5,au]
  rw[hxs,cG oaa (show(qw x r.aK).length<=1048577 by rw[oK];omega),Ca L2_s (qw x r.aK) r.bB r.be FU (by rw[oK];omega) oaa oaa (by rw[oK];omega) (by have:=hO;rw[oK];omega)]
  have hd:=HD (qw x r.aK) r.bB r.be oaa
  simp only[yL,au]
  rw[show eqB (((sI (qw x r.aK) r.bB r.be).be.length:Nat):Int) 24=leB 24 (((sI (qw x r.aK) r.bB r.be).be.length:Nat):Int) from by rw[abZ];simp[eqB,leB];omega]
  cases leB 24 (((sI (qw x r.aK) r.bB r.be).be.length:Nat):Int)<;>rfl
 rfl
theorem Po (xs ys:List α) (z x:α):((cpD ((xs++ys)++[z]) (xs.length+1) (((xs++ys)++[z]).drop xs.length)).set xs.length x)=xs++[x]++ys:=by
 have e1:((xs++ys)++[z]).drop xs.length=ys++[z]:=by rw[aaR,acn]
 have e2:((xs++ys)++[z]).drop (xs.length+1)=(ys++[z]).drop 1:=by rw[<-abc,e1]
 have e3:((xs++ys)++[z]).take (xs.length+1)=xs++(ys++[z]).take 1:=by rw[aaR,List.take_append,ab7 oaa];simp
 rw[cpD,e1,e2,e3,cpL]
 cases ys with
 |nil=>simp
 |cons y ys=>simp[List.set_append]
theorem take_i (h:fw r) :oC r x=some (oc r x):=by
 have hw:pz r=true->inR x.c8 r.bB (WR (WR (r.bB+8)-1))=inR x.c8 r.bB (r.bB+7):=λhv=>by
  have:=sm hv
  rw[bO (n:=r.bB+8) oaa,bO oaa,show r.bB+8-1=r.bB+7 by omega]
 have hl:(bif !pz r then some true else(bif ltB 60 (x.bb.length:Int) then some true else(bif !(inR x.c8 r.bB (WR (WR (r.bB+8)-1))) then some true else(bif r.aK.any (λy=>eqB y.c8 x.c8) then some true else some (leB 24 (r.be.length:Int))))))=some (xY r x):=by
  rw[Ps]
  cases hv:pz r
  .simp[xY,hv]
  rw[hw hv];simp[xY,hv]
 simp only[oC,P8 h,Vr h.2.1 h.1.1,gE,Vf h.1.1,abX,hl]
 rw[oc]
 cases hlt:xY r x
 .simp only[xY,aaq,ab8] at hlt
  obtain⟨l1,l2,l3,l4,l5⟩:=hlt
  have hv:=sm l1
  have l2:=pP l2
  have l5:=xq l5
  have hw2:=Gy (before x.c8) r.aK
  have hrun:=w7 (L:=li x r) r.aK (before x.c8) oaa (λk y hy=>by
   have hk:=(aaa.1 hy).1
   simp[li,cI hk,hy,before]) (by simp[li])
  generalize hm:(r.aK.takeWhile (before x.c8)).length=m at*
  have hxs:(cpD (r.aK++[bT]) (m+1) ((r.aK++[bT]).drop m)).set m (⟨x.c8,x.bb⟩:ae)=qw x r.aK:=by
   have:=Po (r.aK.takeWhile (before x.c8)) (r.aK.dropWhile (before x.c8)) bT x
   rw[acl,hm] at this
   exact this
  have w1:WR ((m:Int)+1)=((m+1:Nat):Int):=oh oaa
  have a1:eS (r.aK++[bT]) ((m+1:Nat):Int) (((r.aK++[bT]).length:Nat):Int)=true:=by simp[eS];omega
  have a2:eS (r.aK++[bT]) (m:Int) (((r.aK++[bT]).length:Nat):Int)=true:=by simp[eS];omega
  have a3:da 32 (r.aK++[bT]).length=true:=cG oaa (by simp;omega)
  obtain⟨y,_,hy⟩:=Uz (xs:=cpD (r.aK++[bT]) (m+1) ((r.aK++[bT]).drop m)) (i:=(m:Int)) oaa (by simp;omega)
  simp only[hrun,w1,abY,a1,a2,a3,vW (show x.bb.length<=1048576 by omega),hy,au]
  rw[hxs,Ca L2_i (qw x r.aK) r.bB r.be FU (by rw[oK];omega) oaa oaa (by rw[oK];omega) (by have:=hO;rw[oK];omega)]
  simp only[abX,yL]
 rfl
def xD (d:aJ):aH:=wM d.aZ ⟨5,d.bg,d.ag,d.aX,0,cr,0⟩
def yN (d:aJ):aH:={dQ with bh:=1,bg:=d.bg}
def qo (d:aJ):aY:=
 bif ltB 0 d.fA then⟨{d with fA:=d.fA-1},[]⟩ else bif eqB d.bi 1 then⟨{d with fA:=3},[yN d]⟩ else bif eqB d.bi 2&&!d.cy then⟨{d with fA:=3},[xD d]⟩ else⟨d,[]⟩
def dOn (d:aJ):aY:=bif eqB d.bi 0 then⟨{d with bi:=1,fA:=3},[yN d]⟩ else⟨d,[]⟩
def xp (d:aJ):aY:=⟨{d with cy:=false,fA:=3},[xD d]⟩
def sH (d:aJ) (c:Int):aY:=
 bif eqB c d.bg||!inR c 0 5 then⟨d,[]⟩ else bif eqB d.bi 2&&ltB d.aX 999999 then xp {d with bg:=c,aX:=d.aX+1} else⟨{d with bg:=c},[]⟩
def GJ (d:aJ) (m:aH):aY:=
 bif eqB (ka d.dq.fo d.dq.dv m.cm) 0 then
  ⟨{d with dq:={d.dq with dv:=unm d.dq.fo m.cm.eC m.cm.gm},ag:=m.ag,aZ:=(vec d.dq.fo m.cm.eC (unm d.dq.fo m.cm.eC m.cm.gm)).fo},
   [⟨3,d.bg,m.ag,0,em d.dq.fo [3,m.cm.eC],cr,0⟩]⟩
 else⟨d,[]⟩
def z2 (d:aJ) (m:aH):aY:=
 bif !lS m||(!eqB m.bg d.bg||eqB d.bi 0) then⟨d,[]⟩ else
 bif eqB m.bh 2&&eqB d.bi 1 then GJ d m else
 bif eqB m.bh 4&&(eqB d.bi 1&&(nU d.aZ&&(eqB m.ag d.ag&&tw d.aZ m))) then⟨{d with bi:=2,aX:=m.aX,cy:=true},[]⟩ else
 bif eqB m.bh 6&&(eqB d.bi 2&&(eqB m.ag d.ag&&(eqB m.aX d.aX&&tw d.aZ m))) then⟨{d with cy:=true},[]⟩ else
 bif eqB m.bh 7&&(eqB d.bi 3&&ltB d.aX 999999) then xp {d with bi:=2,aX:=d.aX+1} else
 bif eqB m.bh 7&&eqB d.bi 2 then xp d else⟨d,[]⟩
def dAck (d:aJ) (r:aP):aH:=wM d.aZ ⟨8,d.bg,d.ag,d.aX,r.bB,cr,0⟩
def z1 (d:aJ) (x:ax):aY:=
 let o:=rm d.aZ d.ag d.aX x
 bif eqB d.bi 2&&o.2 then⟨{d with bY:=oc d.bY o.1},[dAck d (oc d.bY o.1)]⟩ else⟨d,[]⟩
def u6 (d:aJ):aJ:=bif eqB d.bi 2 then {d with bi:=3} else d
theorem JQ {d:aJ} (h:eu d):th d=some ⟨d,[]⟩:=by simp[th,AY h]
theorem NR (d:aJ):vK d=some (xD d):=by simp[vK,CG,xD]
theorem Ve (d:aJ):qx d=some (xD d):=by simp[qx,Kh,xD]
theorem Y6 {d:aJ} (h:eu d) {l:List aH} (hl:l.length<=1048576):cV d l=some ⟨d,l⟩:=by simp[cV,Nl h,VR hl]
theorem qX {d:aJ} (h:eu d):cV d []=some ⟨d,[]⟩:=Y6 h (by simp)
theorem FD {d:aJ} (h:eu d) (m:aH):cV d [m]=some ⟨d,[m]⟩:=Y6 h (by simp)
theorem tick_s {d:aJ} (h:eu d) (hw:d.fA<=3):ul d=some (qo d):=by
 simp only[ul,AY h,abX,tg,nj,NR,qo]
 cases hb:ltB 0 d.fA
 .cases eqB d.bi 1<;>cases eqB d.bi 2<;>cases hp:d.cy<;>rfl
 have:=mI hb
 rw[bO oaa];rfl
theorem tick_i {d:aJ} (h:eu d) (hw:d.fA<=3):tW d=some (qo d):=by
 have h2:∀w,eu {d with fA:=w}:=λ_=>h
 simp only[tW,qX h,qX (h2 _),FD (h2 _),mS,Ve,abX,qo]
 cases hb:ltB 0 d.fA
 .cases eqB d.bi 1<;>cases eqB d.bi 2<;>cases hp:d.cy<;>rfl
 have:=mI hb
 rw[bO oaa];rfl
theorem on_s {d:aJ} (h:eu d):yp d=some (dOn d):=by
 simp only[yp,JQ h,AY h,abX,tg,nj,dOn]
 cases eqB d.bi 0<;>rfl
theorem on_i {d:aJ} (h:eu d):Bb d=some (dOn d):=by
 simp only[Bb,qX h,FD (d:={d with bi:=1,fA:=3}) h,abX,mS,dOn]
 cases eqB d.bi 0<;>rfl
theorem UZ {d:aJ} (he:0<=d.aX/\d.aX<=999999):yx d=some (xp {d with aX:=d.aX+1}):=by
 simp only[yx,NR,abX,nj]
 rw[bO oaa];rfl
theorem Tj {d:aJ} (h:eu d):iz d=some (xp d):=by
 simp only[iz,Ve,abX,FD (d:={d with cy:=false,fA:=3}) h];rfl
theorem Z7 {d:aJ} (h:eu d) (he:0<=d.aX/\d.aX<=999999) (c:Int):uf d c=some (sH d c):=by
 simp only[uf,JQ h,AY h,abX,fY,UZ (d:={d with bg:=c}) he,sH]
 cases eqB c d.bg<;>cases inR c 0 5<;>cases eqB d.bi 2<;>cases ltB d.aX 999999<;>rfl
theorem Z6 {d:aJ} (h:eu d) (he:0<=d.aX/\d.aX<=999999) (c:Int):tT d c=some (sH d c):=by
 simp only[tT,qX h,qX (d:={d with bg:=c}) h,Tj (d:={d with bg:=c,aX:=WR (d.aX+1)}) h,abX,gE,sH,sY]
 rw[bO oaa]
 cases eqB c d.bg<;>cases inR c 0 5<;>cases eqB d.bi 2<;>cases leB 999999 d.aX<;>rfl
theorem tok_s (k r last:Int):∃t,rR k r last=some t:=by
 simp only[rR,fY,abX,eA (show [5,r,last].length<=100000 by simp),y5 _ (show(1:Int)<=1000 by omega) oaa]
 cases inR last 0 999999<;>exact⟨_,rfl⟩
theorem tok_i (k r last:Int):∃t,ry k r last=some t:=by
 simp only[ry,gE,abX,ey (show [5,r,last].length<=1048576 by simp)]
 cases inR last 0 999999<;>exact⟨_,rfl⟩
theorem ask_s {d:aJ} (h:eu d) (hc:tx d.dq=true) (m:aH):zg d m=some (GJ d m):=by
 obtain⟨t,ht⟩:=tok_s d.dq.fo m.cm.eC d.dq.dv
 simp only[zg,mK,Wg,hc,Qw,Zg,Qy,eA (show [3,m.cm.eC].length<=100000 by simp),ht,AY h,GJ,au]
 cases h0:eqB (ka d.dq.fo d.dq.dv m.cm) 0
 .cases h2:eqB (ka d.dq.fo d.dq.dv m.cm) 2<;>cases h3:eqB (ka d.dq.fo d.dq.dv m.cm) 3<;>simp[h0]
 simp[eP]
theorem ask_i {d:aJ} (h:eu d) (hc:tx d.dq=true) (m:aH):mn d m=some (GJ d m):=by
 obtain⟨t,ht⟩:=tok_i d.dq.fo m.cm.eC d.dq.dv
 have hl: -9000000000000<=d.dq.dv/\d.dq.dv<=9000000000000:=by
  simp only[tx,hV,bQ] at hc;omega
 simp only[mn,mF,Wf,hc,YA hl,Zf,Zh,ey (show [3,m.cm.eC].length<=1048576 by simp),ht,GJ,au]
 cases h0:eqB (ka d.dq.fo d.dq.dv m.cm) 0
 .cases h2:eqB (ka d.dq.fo d.dq.dv m.cm) 2<;>cases h3:eqB (ka d.dq.fo d.dq.dv m.cm) 3<;>simp[h0,qX h]
 simp only[h0,au]
 rw[FD (d:={d with dq:={d.dq with dv:=unm d.dq.fo m.cm.eC m.cm.gm},ag:=m.ag,aZ:=(vec d.dq.fo m.cm.eC (unm d.dq.fo m.cm.eC m.cm.gm)).fo}) h]
 rfl
theorem sig_s {d:aJ} (h:eu d) (hc:tx d.dq=true) (he:0<=d.aX/\d.aX<=999999) (m:aH):o8 d m=some (z2 d m):=by
 simp only[o8,PQ,JQ h,AY h,ask_s h hc,LE,Ku,UZ (d:={d with bi:=2}) he,NR,nj,abX,z2]
 cases lS m<;>cases eqB m.bg d.bg<;>cases eqB d.bi 0<;>try rfl
 simp only[acf,au]
 cases eqB m.bh 2<;>cases eqB d.bi 1<;>try rfl
 all_goals cases eqB m.bh 4<;>cases nU d.aZ<;>cases eqB m.ag d.ag<;>cases tw d.aZ m<;>cases eqB m.bh 6<;>cases eqB d.bi 2<;>cases eqB m.aX d.aX<;>cases eqB m.bh 7<;>cases eqB d.bi 3<;>cases ltB d.aX 999999<;>rfl
theorem Cd {a c:Int} (h:eqB a b=true) (hn:b≠c):eqB a c=false:=by rw[eqB_t] at h;rw[eqB_f];omega
theorem sig_i {d:aJ} (h:eu d) (hc:tx d.dq=true) (he:0<=d.aX/\d.aX<=999999) (m:aH):oD d m=some (z2 d m):=by
 have a1:iz d=some (xp d):=Tj h
 have a2:iz {d with bi:=2,aX:=WR (d.aX+1)}=some (xp {d with bi:=2,aX:=d.aX+1}):=by rw[bO oaa];exact Tj (d:={d with bi:=2,aX:=d.aX+1}) h
 have a3:cV {d with bi:=2,aX:=m.aX,cy:=true} []=some ⟨{d with bi:=2,aX:=m.aX,cy:=true},[]⟩:=qX (d:={d with bi:=2,aX:=m.aX,cy:=true}) h
 have a4:∀b,cV {d with cy:=b} []=some ⟨{d with cy:=b},[]⟩:=λb=>qX (d:={d with cy:=b}) h
 simp only[oD,PP,ask_i h hc,LD,OA,a1,a2,a4,qX h,abX,z2]
 cases lS m<;>cases eqB m.bg d.bg<;>cases eqB d.bi 0<;>try rfl
 simp only[acf,au]
 cases h2:eqB m.bh 2
 .cases h4:eqB m.bh 4
  .cases h6:eqB m.bh 6
   .cases h7:eqB m.bh 7
    .rfl
    cases eqB d.bi 3<;>cases ltB d.aX 999999<;>cases eqB d.bi 2<;>rfl
   rw[Cd h6 (show(6:Int)≠7 by omega)]
   cases eqB d.bi 2<;>cases eqB m.ag d.ag<;>cases eqB m.aX d.aX<;>cases tw d.aZ m<;>rfl
  rw[Cd h4 (show(4:Int)≠6 by omega),Cd h4 (show(4:Int)≠7 by omega)]
  cases eqB d.bi 1<;>cases nU d.aZ<;>cases eqB m.ag d.ag<;>cases tw d.aZ m<;>first|(simp only[a3,qX h,ab5,ab6,acJ,acK,au];done)|(simp[a3,qX h];done)
 rw[Cd h2 (show(2:Int)≠4 by omega),Cd h2 (show(2:Int)≠6 by omega),Cd h2 (show(2:Int)≠7 by omega)]
 cases eqB d.bi 1<;>rfl
def PO (x:ax):Prop:=okB x.bC.bb
theorem rad_s {d:aJ} (h:eu d) {x:ax} (hx:PO x):qf d x=some (z1 d x):=by
 simp only[qf,(H3 hx _ _ _).2,JQ h,AY h,take_s h,CG,abX,z1]
 cases eqB d.bi 2<;>cases(rm d.aZ d.ag d.aX x).2<;>rfl
theorem MD (h:fw r) (x:ae):fw (oc r x):=by
 rw[oc]
 cases hlt:xY r x
 .simp only[xY,aaq,ab8] at hlt
  obtain⟨l1,l2,l3,l4,l5⟩:=hlt
  have hv:=sm l1
  have l2:=pP l2
  have hi:okL ge (qw x r.aK):=by
   refine⟨by rw[oK];omega,λy hy=>?_⟩
   simp only[qw,aac,ab4] at hy
   rcases hy with(hy|hy)|hy
   .exact h.1.2 y (acE _ hy)
   .subst hy;exact⟨by omega,λ_ _=>trivial⟩
   exact h.1.2 y (acp _ hy)
  have hd:∀(xs:List ae) (n:Int) (dl:List bV),okL ge xs->(∀p∈dl,s3 p)->dl.length<=24->fw (sI xs n dl):=by
   intro xs
   induction xs with
   |nil=>exact λn dl h1 h2 h3=>⟨h1,by show dl.length<=1048576;omega,h2⟩
   |cons y ys ih=>
    intro n dl h1 h2 h3
    rw[sI];split
    .exact ih _ _ ⟨by have:=h1.1;simp at this;omega,λz hz=>h1.2 z (by simp[hz])⟩ (λp hp=>by
      rcases aac.1 hp with hp|hp
      .exact h2 p hp
      simp at hp;subst hp;exact h1.2 y (by simp)) (by simp;omega)
    exact⟨h1,by show dl.length<=1048576;omega,h2⟩
  have:=hd _ r.bB r.be hi h.2.2 oaa
  simp only[cond_false]
  cases leB 24 (((sI (qw x r.aK) r.bB r.be).be.length:Nat):Int)
  .exact this
  exact⟨⟨by simp,by simp⟩,this.2⟩
 exact h
theorem rad_i {d:aJ} (h:eu d) {x:ax} (hx:PO x):p6 d x=some (z1 d x):=by
 simp only[p6,(H3 hx _ _ _).1,qX h,take_i h,Kh,abX,z1]
 cases eqB d.bi 2
 .rfl
 cases(rm d.aZ d.ag d.aX x).2
 .rfl
 simp only[ab5,au]
 rw[FD (d:={d with bY:=oc d.bY (rm d.aZ d.ag d.aX x).1}) (MD h _)]
 rfl
theorem ZQ {d:aJ} (h:eu d):wy d=some (u6 d):=by
 simp only[wy,AY h,abX,u6];cases eqB d.bi 2<;>rfl
theorem ZP {d:aJ} (h:eu d):wd d=some (u6 d):=by
 have a:∀v,lL {d with bi:=v}=some {d with bi:=v}:=λv=>Nl (d:={d with bi:=v}) h
 simp only[wd,a,abX,u6];cases eqB d.bi 2<;>rfl
theorem Pj {α:Type} (p:α->Bool) (x:α) (d:List α) (hx:p x=true):∀(t:List α) (i:Nat),(∀y∈t,p y=false)->nK p (i:Int) (t++x::d)=((i+t.length:Nat):Int)
 |[],i,_=>by simp[nK,hx]
 |y::t,i,h=>by
  rw[aaE,nK,h y (by simp),cond_false]
  have:=Pj p x d hx t (i+1) (λz hz=>h z (by simp[hz]))
  rw[show((i+1:Nat):Int)=(i:Int)+1 by omega] at this
  rw[this];simp;omega
theorem Pk {α:Type} (p:α->Bool):∀(t:List α) (i:Int),(∀y∈t,p y=false)->nK p i t= -1
 |[],i,_=>rfl
 |y::t,i,h=>by rw[nK,h y (by simp),cond_false];exact Pk p t _ λz hz=>h z (by simp[hz])
def Dl:List aD->Int->Int->List aD
 |[],i,n=>[⟨i,n⟩]
 |x::xs,i,n=>if x.aC<i then x::Dl xs i n else if x.aC=i then⟨i,x.dW+n⟩::xs else⟨i,n⟩::x::xs
def IX:List aD->Int->Int->List aD
 |[],i,n=>[]
 |x::xs,i,n=>if x.aC=i then(if n<x.dW then⟨i,x.dW-n⟩::xs else xs) else x::IX xs i n
def tE (h:List aD):Int:=(h.map aD.dW).sum
structure nV (a:am):Prop where
 t:0<=a.eE/\a.eE<=100000
 v:0<=a.bz/\a.bz<=a.eE
 s:0<=a.eg/\a.eg<=a.eE
 l:a.aj.length<=8
 r:∀x∈a.aj,0<=x.aC/\1<=x.dW/\x.dW<=100000
 o:a.aj.Pairwise λx y=>x.aC<y.aC
 e:a.bz+a.eg+tE a.aj=a.eE
theorem H6 {α:Type} {key:α->Int}:∀{xs:List α},(∀(k:Nat) (x y:α),xs[k]?=some x->xs[k+1]?=some y->key x<key y)->xs.Pairwise λx y=>key x<key y
 |[],_=>.nil
 |[x],_=>by simp
 |x::y::xs,h=>by
  have ih:=H6 (xs:=y::xs) (key:=key) λk a b h1 h2=>h (k+1) a b (by simpa using h1) (by simpa using h2)
  have hxy:=h 0 x y rfl rfl
  refine List.Pairwise.cons (λz hz=>?_) ih
  rcases aae.1 hz with e|hz
  .subst e;exact hxy
  exact Int.lt_trans hxy (acD ih hz)
theorem Hr {key:α->Int} {xs:List α} (h:∀(k:Nat) (x:α),xs[k]?=some x->jX key xs k x=true):xs.Pairwise λx y=>key x<key y:=by
 refine H6 λk x y h1 h2=>?_
 have:=h (k+1) y h2
 simp only[jX,h1,aax] at this
 exact leB_f.1 this
theorem DT {key:α->Int} {xs:List α} (h:xs.Pairwise λx y=>key x<key y) {x:α} (hx:xs[k]?=some x):jX key xs k x=true:=by
 cases k with
 |zero=>rfl
 |succ k=>
  have hl:=(aaa.1 hx).1
  simp only[jX,v0 (show k<xs.length by omega),aax]
  rw[leB_f]
  have:=List.pairwise_iff_getElem.1 h k (k+1) oaa hl oaa
  rwa [(aaa.1 hx).2] at this
theorem YS:∀(h:List aD) (s:Int),(∀x∈h,0<=x.dW/\x.dW<=100000)->0<=s->s+100000*h.length<=9000000000000->h.foldl (λs x=>WR (s+x.dW)) s=s+tE h
 |[],s,_,_,_=>by simp[tE]
 |x::h,s,hx,h0,h1=>by
  have hh:=hx x (by simp)
  simp only[aai] at h1
  rw[ack,bO oaa,YS h _ (λy hy=>hx y (by simp[hy])) oaa oaa]
  simp[tE];omega
theorem Qs (l:a.aj.length<=8) (r:∀x∈a.aj,0<=x.aC/\1<=x.dW/\x.dW<=100000):So a=tE a.aj:=by
 rw[So,YS _ _ (λx hx=>by have:=r x hx;omega) oaa oaa];omega
theorem py:∀{h:List aD},(∀x∈h,0<=x.aC/\1<=x.dW/\x.dW<=100000)->0<=tE h/\tE h<=100000*h.length/\∀x∈h,x.dW<=tE h
 |[],_=>by simp[tE]
 |x::h,r=>by
  have ih:=py (h:=h) λy hy=>r y (by simp[hy])
  have hx:=r x (by simp)
  have e:tE (x::h)=x.dW+tE h:=by simp[tE]
  rw[e]
  refine⟨by omega,by simp only[aai];omega,λy hy=>?_⟩
  rcases aae.1 hy with e|hy
  .subst e;omega
  have:=ih.2.2 y hy;omega
theorem tG:iV a=true↔nV a:=by
 constructor
 .intro h
  simp only[iV,hV,bQ,eM] at h
  obtain⟨h1,h2,h3,h4,h5,h6⟩:=h
  have h4:=zt h4
  have r:∀x∈a.aj,0<=x.aC/\1<=x.dW/\x.dW<=100000:=λx hx=>by
   obtain⟨k,hk⟩:=aap hx
   have:=h5 k x hk
   simp only[Dz,hV,aax,bQ] at this
   have h0:=pP this.1
   omega
  have hs:=py r
  refine⟨h1,h2,h3,by omega,r,Hr λk x hk=>?_,?_⟩
  .have:=h5 k x hk
   simp only[Dz,hV] at this
   exact this.2.2
  have h6:=pH h6
  rw[Qs oaa r,bO (n:=a.bz+a.eg) oaa,bO oaa] at h6
  exact h6
 rintro⟨h1,h2,h3,h4,r,h5,h6⟩
 have hs:=py r
 simp only[iV,hV,bQ,eM]
 refine⟨h1,h2,h3,leB_t.2 oaa,λk x hk=>?_,eqB_t.2 ?_⟩
 .have hx:=r x (aab hk)
  simp only[Dz,hV,aax,bQ]
  exact⟨ltB_f.2 oaa,by omega,DT h5 hk⟩
 rw[Qs oaa r,bO (n:=a.bz+a.eg) oaa,bO oaa]
 exact h6
theorem nV.ok (h:nV a):ie a:=⟨by have:=h.l;omega,λ_ _=>trivial⟩
theorem Je {h:List aD} (o:h.Pairwise λx y=>x.aC<y.aC) (i:Int):
 (∃t m d,h=t++⟨i,m⟩::d/\(∀x∈t,x.aC<i)/\∀x∈d,i<x.aC)\/(∃t d,h=t++d/\(∀x∈t,x.aC<i)/\∀x∈d,i<x.aC):=by
 induction h with
 |nil=>exact .inr ⟨[],[],rfl,by simp,by simp⟩
 |cons x h ih=>
  have hx:=λy hy=>acD o (a':=y) hy
  by_cases h1:x.aC<i
  .rcases ih (ab2.1 o).2 with⟨t,m,d,e,h2,h3⟩|⟨t,d,e,h2,h3⟩
   .exact .inl ⟨x::t,m,d,by rw[e];rfl,λy hy=>by rcases aae.1 hy with e|hy;(subst e;exact h1);exact h2 y hy,h3⟩
   exact .inr ⟨x::t,d,by rw[e];rfl,λy hy=>by rcases aae.1 hy with e|hy;(subst e;exact h1);exact h2 y hy,h3⟩
  by_cases h2:x.aC=i
  .exact .inl ⟨[],x.dW,h,by rw[<-h2];rfl,by simp,λy hy=>by have:=hx y hy;omega⟩
  refine .inr ⟨[],x::h,rfl,by simp,λy hy=>?_⟩
  rcases aae.1 hy with e|hy
  .subst e;omega
  have:=hx y hy;omega
theorem IM {d:List aD} {m n:Int} (h:∀x∈t,x.aC<i):Dl (t++⟨i,m⟩::d) i n=t++⟨i,m+n⟩::d:=by
 induction t with
 |nil=>simp[Dl]
 |cons x t ih=>rw[aaE,Dl,if_pos (h x (by simp)),ih λy hy=>h y (by simp[hy])];rfl
theorem IN {d:List aD} {n:Int} (h:∀x∈t,x.aC<i) (h2:∀x∈d,i<x.aC):Dl (t++d) i n=t++⟨i,n⟩::d:=by
 induction t with
 |nil=>cases d with
  |nil=>rfl
  |cons y d=>have:=h2 y (by simp);rw[aa8,Dl,if_neg oaa,if_neg oaa];rfl
 |cons x t ih=>rw[aaE,Dl,if_pos (h x (by simp)),ih λy hy=>h y (by simp[hy])];rfl
theorem IY {d:List aD} {m n:Int} (h:∀x∈t,x.aC<i):IX (t++⟨i,m⟩::d) i n=t++(if n<m then⟨i,m-n⟩::d else d):=by
 induction t with
 |nil=>simp[IX]
 |cons x t ih=>rw[aaE,IX,if_neg (by have:=h x (by simp);omega),ih λy hy=>h y (by simp[hy])];rfl
theorem nY {d:List aD} {m:Int} (e:a.aj=t++⟨i,m⟩::d) (h:∀x∈t,x.aC<i):it a i=m:=by
 rw[it,e,List.find?_append,show t.find? (λx=>eqB x.aC i)=none from by rw[acu];intro x hx;have:=h x hx;simp[eqB];omega]
 simp[eqB]
theorem nZ (h:∀x∈a.aj,x.aC≠i):it a i=0:=by
 rw[it,show a.aj.find? (λx=>eqB x.aC i)=none from by rw[acu];intro x hx;have:=h x hx;simp[eqB];omega]
theorem Wb {d:List aD} (h:∀x∈t,x.aC<i) (h2:∀x∈d,i<=x.aC):((t++d).takeWhile λx=>ltB x.aC i)=t:=by
 rw[List.takeWhile_append_of_pos (λx hx=>ltB_t.2 (h x hx))]
 cases d with
 |nil=>simp
 |cons y d=>rw[ach,show ltB y.aC i=false from ltB_f.2 (h2 y (by simp))];simp
theorem A2 {L:Int->Option (ct Int Int)} (ok:nV a) (hL:∀v1,L v1=bif ltB v1 (a.aj.length:Int) then(abU (ix a.aj v1) λx2=>bif eqB x2.aC i then(dn (some v1)) else(some (.next (WR (v1+1))))) else(dn (some (-1)))):
 iter L FU 0=some (nK (λx=>eqB x.aC i) 0 a.aj):=by
 have:=ok.l
 exact vb (L:=L) a.aj (λx=>eqB x.aC i) oaa (λk x hx hk=>by
  simp only[hL,cI hk,bp,hx,WRs (k:=k),au]
  cases eqB x.aC i<;>rfl) (by simp[hL,dn])
theorem Of (ok:nV a) {n:Int} (h0:0<=n/\n<=100000):DY a.aj i n=some (Dl a.aj i n):=by
 have hl:=ok.l
 have hrun:=w7 (L:=wN a.aj i) a.aj (λx=>ltB x.aC i) oaa (λk x hx=>by
  have hk:=(aaa.1 hx).1
  simp[wN,cI hk,hx]) (by simp[wN])
 rw[DY,hrun]
 rcases Je ok.o i with⟨t,m,d,e,h1,h2⟩|⟨t,d,e,h1,h2⟩
 .have hm:m<=100000/\1<=m:=by have:=ok.r ⟨i,m⟩ (by rw[e];simp);simp only at this;omega
  have htl:t.length+1<=8:=by have:=congrArg acj e;simp at this;omega
  rw[e,Wb h1 (λx hx=>by rcases aae.1 hx with e|hx;(subst e;simp);have:=h2 x hx;omega),IM h1]
  have hx:(t++(⟨i,m⟩:aD)::d)[t.length]?=some ⟨i,m⟩:=by simp
  have a1:da 16 (t++(⟨i,m⟩:aD)::d).length=true:=cG oaa (by rw[<-e];omega)
  simp only[cI (show t.length<(t++(⟨i,m⟩:aD)::d).length by simp),bp,hx,aa8,a1,bR,abY,bO (n:=m+n) oaa,au]
  simp
 have htl:t.length<=8/\d.length<=8:=by have:=congrArg acj e;simp at this;omega
 rw[e,Wb h1 (λx hx=>by have:=h2 x hx;omega),IN h1 h2]
 have hc:(bif ltB (t.length:Int) (((t++d).length:Nat):Int) then(abU (ix (t++d) (t.length:Int)) λx8=>some (eqB x8.aC i)) else some false)=some false:=by
  cases d with
  |nil=>simp
  |cons y d=>
   have:=h2 y (by simp)
   rw[cI (show t.length<(t++y::d).length by simp),bp,show(t++y::d)[t.length]?=some y by simp,abX,eqB_f.2 (show y.aC≠i by omega)];rfl
 have a1:eS (t++d) 0 (t.length:Int)=true:=by simp[eS];omega
 have a2:eS (t++d) (t.length:Int) (((t++d).length:Nat):Int)=true:=by simp[eS];omega
 have a3:da 16 t.length=true:=cG oaa oaa
 have a4:da 16 (t++[(⟨i,n⟩:aD)]).length=true:=cG oaa (by simp;omega)
 have a5:da 16 (t++[(⟨i,n⟩:aD)]++d).length=true:=cG oaa (by simp;omega)
 simp only[hc,a1,a2,aa8,abY,aco,acn,a3,a4,a5,au]
 simp
theorem Fb {d:List aD} {m:Int} (h1:∀x∈t,x.aC<i):nK (λx=>eqB x.aC i) 0 (t++(⟨i,m⟩:aD)::d)=(t.length:Int):=by
 have:=Pj (λx:aD=>eqB x.aC i) ⟨i,m⟩ d (by simp) t 0 (λy hy=>eqB_f.2 (by have:=h1 y hy;omega))
 simpa using this
theorem Jt {d:List aD} (h1:∀x∈t,x.aC<i) (h2:∀x∈d,i<x.aC):nK (λx=>eqB x.aC i) 0 (t++d)= -1:=
 Pk _ _ _ λy hy=>eqB_f.2 (by rcases aac.1 hy with hy|hy;(have:=h1 y hy;omega);have:=h2 y hy;omega)
theorem Og (ok:nV a) {d:List aD} {m n:Int} (e:a.aj=t++⟨i,m⟩::d) (h1:∀x∈t,x.aC<i) (hn:0<=n/\n<=m):D0 a.aj (t.length:Int) n=some (IX a.aj i n):=by
 have hl:=ok.l
 have hm:m<=100000/\1<=m:=by have:=ok.r ⟨i,m⟩ (by rw[e];simp);simp only at this;omega
 have htl:t.length+1+d.length<=8:=by have:=congrArg acj e;simp at this;omega
 rw[e,IY h1]
 have hx:(t++(⟨i,m⟩:aD)::d)[t.length]?=some ⟨i,m⟩:=by simp
 have a1:da 16 (t++(⟨i,m⟩:aD)::d).length=true:=cG oaa (by rw[<-e];omega)
 simp only[D0,aa8,a1,bp,hx,abY,au]
 by_cases hb:n<m
 .rw[ltB_t.2 hb,if_pos hb]
  simp only[cond_true,bO (n:=m-n) oaa]
  simp
 rw[ltB_f.2 oaa,if_neg hb]
 have a2:eS (t++(⟨i,m⟩:aD)::d) 0 (t.length:Int)=true:=by simp[eS];omega
 have a3:eS (t++(⟨i,m⟩:aD)::d) ((t.length+1:Nat):Int) (((t++(⟨i,m⟩:aD)::d).length:Nat):Int)=true:=by simp[eS];omega
 have e2:(t++(⟨i,m⟩:aD)::d).drop (t.length+1)=d:=by rw[<-abc,acn];rfl
 have a4:da 16 (t++d).length=true:=cG oaa (by simp;omega)
 simp only[a2,WRs (k:=t.length),a3,abY,e2,aco,a4,au]
theorem Lu {d:List aD} {x:aD} (e:a.aj=t++x::d) (hl:t.length+1+d.length<=8):jU a (t.length:Int)=some {a with aj:=t++d}:=by
 have a2:eS (t++x::d) 0 (t.length:Int)=true:=by simp[eS];omega
 have a3:eS (t++x::d) ((t.length+1:Nat):Int) (((t++x::d).length:Nat):Int)=true:=by simp[eS];omega
 have e2:(t++x::d).drop (t.length+1)=d:=by rw[<-abc,acn];rfl
 have a4:da 16 (t++d).length=true:=cG oaa (by simp;omega)
 have a5:da 16 t.length=true:=cG oaa oaa
 simp only[jU,e,a2,WRs (k:=t.length),a3,cond_true,abY,e2,aco,aa8,a4,a5]
def full (a:am) (i:Int):Bool:=leB 8 (a.aj.length:Int)&&!a.aj.any λx=>eqB x.aC i
def lB (x y:Int):Int:=if y<x then y else x
def iu (a:am) (i n:Int):am×Int:=
 bif ltB i 0||(!inR n 1 100000||(eqB a.bz 0||full a i)) then(a,0) else({a with bz:=a.bz-lB n a.bz,aj:=Dl a.aj i (lB n a.bz)},lB n a.bz)
def u9 (a:am) (i n:Int):am:=bif ltB 0 n then {a with eg:=a.eg+n,aj:=IX a.aj i n} else a
theorem LP (x y:Int):FT x y=some (lB x y):=by
 rw[FT,lB];by_cases h:y<x
 .rw[ltB_t.2 h,if_pos h];rfl
 rw[ltB_f.2 oaa,if_neg h];rfl
theorem UJ (x y:Int):Q4 x y=some (lB x y):=LP x y
def Dx (x y:Int):Int:=if x<y then y else x
theorem LO (x y:Int):FQ x y=some (Dx x y):=by
 rw[FQ,Dx];by_cases h:x<y
 .rw[ltB_t.2 h,if_pos h];rfl
 rw[ltB_f.2 oaa,if_neg h];rfl
theorem YZ (x y:Int):Xs x y=some (Dx x y):=LO x y
theorem YK {d:List aD} {m:Int}:((t++(⟨i,m⟩:aD)::d).any λx=>eqB x.aC i)=true:=by simp
theorem Tk {d:List aD} (h1:∀x∈t,x.aC<i) (h2:∀x∈d,i<x.aC):((t++d).any λx=>eqB x.aC i)=false:=by
 rw[abk];intro y hy
 rcases aac.1 hy with hy|hy
 .have:=h1 y hy;simp[eqB];omega
 have:=h2 y hy;simp[eqB];omega
theorem RO (ok:nV a) (i n:Int):BF a i n=some (iu a i n):=by
 have hv:=tG.2 ok
 have hd:=ok.v
 have ht:=ok.t
 have hfind:qJ a i=some (nK (λx=>eqB x.aC i) 0 a.aj):=A2 ok λv=>rfl
 have hf:(bif leB 8 (a.aj.length:Int) then(abU (qJ a i) λr5=>some (ltB r5 0)) else some false)=some (full a i):=by
  rw[hfind,full]
  cases leB 8 (a.aj.length:Int)
  .rfl
  rcases Je ok.o i with⟨t,m,d,e,h1,h2⟩|⟨t,d,e,h1,h2⟩
  .rw[e,Fb h1,YK];simp[ltB]
  rw[e,Jt h1 h2,Tk h1 h2];simp[ltB]
 simp only[BF,Ed ok.ok,yJ ok.ok,hv,hf,fY,LP,iu,au]
 cases h1:ltB i 0<;>cases h2:inR n 1 100000<;>cases h3:eqB a.bz 0<;>cases h4:full a i<;>try rfl
 rw[bQ] at h2
 have h3:=Ji h3
 have hmin:1<=lB n a.bz/\lB n a.bz<=100000/\lB n a.bz<=a.bz:=by unfold lB;split<;>omega
 simp only[Of ok (show 0<=lB n a.bz/\lB n a.bz<=100000 by omega),bO (n:=a.bz-lB n a.bz) oaa,acf,au]
theorem RL (ok:nV a) (i n:Int):Bc a i n=some (iu a i n):=by
 have hv:=tG.2 ok
 have hd:=ok.v
 have ht:=ok.t
 have hl:=ok.l
 have hfind:eU a i=some (nK (λx=>eqB x.aC i) 0 a.aj):=A2 ok λv=>rfl
 simp only[Bc,xy ok.ok,pG ok.ok,hv,hfind,gE,UJ,iu,au]
 cases h1:ltB i 0<;>cases h2:inR n 1 100000<;>cases h3:eqB a.bz 0<;>try rfl
 rw[bQ] at h2
 have h3:=Ji h3
 have hmin:1<=lB n a.bz/\lB n a.bz<=100000/\lB n a.bz<=a.bz:=by unfold lB;split<;>omega
 simp only[bO (n:=a.bz-lB n a.bz) oaa,aaJ,au]
 rcases Je ok.o i with⟨t,m,d,e,k1,k2⟩|⟨t,d,e,k1,k2⟩
 .have hm:m<=100000/\1<=m:=by have:=ok.r ⟨i,m⟩ (by rw[e];simp);simp only at this;omega
  rw[full,e,Fb k1,YK,IM k1,show leB 0 (t.length:Int)=true from leB_t.2 oaa]
  have hx:(t++(⟨i,m⟩:aD)::d)[t.length]?=some ⟨i,m⟩:=by simp
  simp only[bp,hx,abY,bO (n:=m+lB n a.bz) oaa,acJ,au]
  simp
 have htl:t.length+d.length<=8:=by have:=congrArg acj e;simp at this;omega
 rw[full,e,Jt k1 k2,Tk k1 k2,IN k1 k2,show leB 0 (-1)=false from by simp[leB]]
 cases h4:leB 8 (((t++d).length:Nat):Int)
 .have hlt:(t++d).length<8:=by have:=xq h4;omega
  have hrun:=w7 (L:=tU i a) a.aj (λx=>ltB x.aC i) oaa (λk x hx=>by
   have hk:=(aaa.1 hx).1
   simp[tU,cI hk,hx]) (by simp[tU])
  rw[e,Wb k1 (λx hx=>by have:=k2 x hx;omega)] at hrun
  have hs:=Po t d df (⟨i,lB n a.bz⟩:aD)
  have b1:da 16 (t++d++[df]).length=true:=cG oaa (by simp at hlt ⊢;omega)
  have b2:eS (t++d++[df]) ((t.length+1:Nat):Int) (((t++d++[df]).length:Nat):Int)=true:=by simp[eS];omega
  have b3:eS (t++d++[df]) (t.length:Int) (((t++d++[df]).length:Nat):Int)=true:=by simp[eS];omega
  obtain⟨y,_,hy⟩:=Uz (xs:=cpD (t++d++[df]) (t.length+1) ((t++d++[df]).drop t.length)) (i:=(t.length:Int)) oaa (by simp;omega)
  simp only[hrun,WRs (k:=t.length),abY,b1,b2,b3,hy,hs,acK,au]
  simp
 rfl
theorem Ct (ok:nV a) (i:Int):0<=it a i/\it a i<=100000:=by
 rcases Je ok.o i with⟨t,m,d,e,h1,h2⟩|⟨t,d,e,h1,h2⟩
 .rw[nY e h1];have:=ok.r ⟨i,m⟩ (by rw[e];simp);simp only at this;omega
 rw[nZ (λx hx=>by rw[e] at hx;rcases aac.1 hx with hx|hx;(have:=h1 x hx;omega);have:=h2 x hx;omega)];omega
theorem W7 (ok:nV a) {n:Int} (hn:0<=n/\n<=it a i):J4 a i n=some (u9 a i n,true):=by
 have hv:=tG.2 ok
 have ht:=ok.t
 have hs:=ok.s
 have hr:=Ct ok i
 have hfind:qJ a i=some (nK (λx=>eqB x.aC i) 0 a.aj):=A2 ok λv=>rfl
 have hin:inR n 0 (it a i)=true:=bQ.2 hn
 simp only[J4,Ed ok.ok,yJ ok.ok,hv,hfind,Mc ok.ok,fY,hin,u9,au]
 cases h0:ltB 0 n
 .rfl
 have h0:=mI h0
 rcases Je ok.o i with⟨t,m,d,e,h1,h2⟩|⟨t,d,e,h1,h2⟩
 .rw[nY e h1] at hn hr
  have hc:=Og ok e h1 hn
  rw[show nK (λx=>eqB x.aC i) 0 a.aj=(t.length:Int) by rw[e];exact Fb h1]
  simp only[hc,bO (n:=a.eg+n) oaa,au]
 rw[nZ (λx hx=>by rw[e] at hx;rcases aac.1 hx with hx|hx;(have:=h1 x hx;omega);have:=h2 x hx;omega)] at hn
 omega
theorem W6 (ok:nV a) {n:Int} (hn:0<=n/\n<=it a i):Jo a i n=some (u9 a i n,true):=by
 have hv:=tG.2 ok
 have ht:=ok.t
 have hs:=ok.s
 have hl:=ok.l
 have hr:=Ct ok i
 have hfind:eU a i=some (nK (λx=>eqB x.aC i) 0 a.aj):=A2 ok λv=>rfl
 have hin:inR n 0 (it a i)=true:=bQ.2 hn
 simp only[Jo,xy ok.ok,pG ok.ok,hv,hfind,FE ok.ok,gE,hin,u9,au]
 rcases Je ok.o i with⟨t,m,d,e,h1,h2⟩|⟨t,d,e,h1,h2⟩
 .rw[nY e h1] at hn
  have hm:m<=100000/\1<=m:=by have:=ok.r ⟨i,m⟩ (by rw[e];simp);simp only at this;omega
  have htl:t.length+1+d.length<=8:=by have:=congrArg acj e;simp at this;omega
  have hx:(t++(⟨i,m⟩:aD)::d)[t.length]?=some ⟨i,m⟩:=by simp
  have hset:∀z:aD,(t++(⟨i,m⟩:aD)::d).set t.length z=t++z::d:=λz=>by simp
  have hx2:∀z:aD,(t++z::d)[t.length]?=some z:=λz=>by simp
  rw[e,Fb h1,show ltB (t.length:Int) 0=false from ltB_f.2 oaa,IY h1]
  simp only[bp,hx,hset,hx2,abY,bO (n:=m-n) oaa,bO (n:=a.eg+n) oaa,au]
  cases h0:ltB 0 n
  .have h0:=pP h0
   have hn0:n=0:=by omega
   subst hn0
   rw[show m-0=m by omega,eqB_f.2 (show m≠0 by omega),show a.eg+0=a.eg by omega]
   simp only[<-e,au]
  have h0:=mI h0
  by_cases hb:n<m
  .rw[if_pos hb,eqB_f.2 (show m-n≠0 by omega)];simp only[au]
  rw[if_neg hb,eqB_t.2 (show m-n=0 by omega)]
  simp only[Lu (a:={a with eg:=a.eg+n,aj:=t++(⟨i,m-n⟩:aD)::d}) rfl htl,au]
 have h0:n=0:=by
  rw[nZ (λx hx=>by rw[e] at hx;rcases aac.1 hx with hx|hx;(have:=h1 x hx;omega);have:=h2 x hx;omega)] at hn
  omega
 subst h0
 rw[e,Jt h1 h2]
 simp[ltB]
structure WOK (w:a9):Prop where
 n:1<=w.bB/\w.bB<=100000
 l:w.aA.length<=8
 f:1<=w.bB-w.aA.length
 u:∀(k:Nat) (x:ae),w.aA[k]?=some x->x.c8=w.bB-w.aA.length+k/\x.bb.length<=60
theorem WOK.ok (h:WOK w):jv w:=⟨by have:=h.l;omega,λx hx=>by
 obtain⟨k,hk⟩:=aap hx
 exact⟨by have:=(h.u k x hk).2;omega,λ_ _=>trivial⟩⟩
theorem tM {n:Nat}:vc n=true↔n<=60:=by simp[vc,ltB];omega
theorem D5:jI w=true↔WOK w:=by
 constructor
 .intro h
  simp only[jI,hV,bQ,eM,unB,tM] at h
  obtain⟨h1,h2,h3,h4⟩:=h
  have h2:=zt h2
  have h3:=zt h3
  rw[bO oaa] at h3
  refine⟨h1,by omega,h3,λk x hx=>?_⟩
  have hk:=(aaa.1 hx).1
  have:=h4 k x hx
  have e:=pH this.1
  rw[bO (n:=w.bB-(w.aA.length:Int)) oaa,bO oaa] at e
  exact⟨e,this.2⟩
 rintro⟨h1,h2,h3,h4⟩
 simp only[jI,hV,bQ,eM,unB,tM]
 refine⟨h1,leB_t.2 oaa,leB_t.2 (by rw[bO oaa];omega),λk x hx=>?_⟩
 have hk:=(aaa.1 hx).1
 have:=h4 k x hx
 exact⟨eqB_t.2 (by rw[bO (n:=w.bB-(w.aA.length:Int)) oaa,bO oaa];exact this.1),this.2⟩
def gh (xs:List ae):Int:=(xs.map λx=>(x.bb.length:Int)).sum
theorem wY:∀{xs:List ae},(∀x∈xs,x.bb.length<=60)->0<=gh xs/\gh xs<=60*xs.length
 |[],_=>by simp[gh]
 |x::xs,h=>by
  have ih:=wY (xs:=xs) λy hy=>h y (by simp[hy])
  have:=h x (by simp)
  have e:gh (x::xs)=x.bb.length+gh xs:=by simp[gh]
  rw[e];simp only[aai];omega
theorem HY {xs:List ae} (h:∀x∈xs,x.bb.length<=60) (hl:xs.length<=1000):ya xs=gh xs:=by
 have key:∀(xs:List ae) (s:Int),(∀x∈xs,x.bb.length<=60)->0<=s->s+60*xs.length<=9000000000->xs.foldl (λa x=>WR (a+(x.bb.length:Int))) s=s+gh xs:=by
  intro xs
  induction xs with
  |nil=>intro s _ _ _;simp[gh]
  |cons x xs ih=>
   intro s h h0 h1
   have hx:=h x (by simp)
   simp only[aai] at h1
   rw[ack,bO oaa,ih _ (λy hy=>h y (by simp[hy])) oaa oaa]
   simp[gh];omega
 have:=key xs 0 h oaa oaa
 rw[ya,this];omega
theorem WOK.d (h:WOK w):∀x∈w.aA,x.bb.length<=60:=λx hx=>by
 obtain⟨k,hk⟩:=aap hx;exact(h.u k x hk).2
structure QOK (q:cP):Prop where
 i:0<=q.aC
 u:0<=q.er
 g:q.er<=q.cS
 m:q.cS<=100000
theorem Fz:jy q=true↔QOK q:=by
 simp only[jy,hV,leB_t]
 exact⟨λ⟨a,b,c,d⟩=>⟨a,b,c,d⟩,λ⟨a,b,c,d⟩=>⟨a,b,c,d⟩⟩
theorem DW (h:QOK q):L8 q=q.cS-q.er:=by
 rw[L8,Fz.2 h];obtain⟨a,b,c,d⟩:=h
 simp only[cond_true];rw[bO oaa]
structure SP (s:ah):Prop where
 ok:d9 s
 rcd:tF s.bE=true
 plan:qL s.gG=true
 page:kz s.gr=true
 win:WOK s.aw
 q:QOK s.bU
 st:0<=s.bi/\s.bi<=1
 k1:s.bi=1->nU s.aZ=true
 k2:0<s.bL->nU s.aK.fo=true
 ps:0<=s.bL/\s.bL<=999999
 gn:0<=s.ag/\s.ag<=999999
 ep:0<=s.aX/\s.aX<=999999
 rk:0<=s.aZ/\s.aZ<=2147483646
 ce:0<=s.bg/\s.bg<=5
 qu:0<=s.dX/\s.dX<=5
 rt:0<=s.dP/\s.dP<=3
 sl:s.aG.length<=24
 sd:∀p∈s.aG,p.bb.length<=60
 nx:s.aw.bB<=s.aG.length+1
 un:∀x∈s.aw.aA,AC s x=true
 pd:gh s.aw.aA<=s.bU.cS-s.bU.er
theorem vF (ok:d9 s):jp s=true↔SP s:=by
 constructor
 .intro h
  simp only[jp,hV,bQ,D5,Fz,aag,AE,tM,uc,Fi] at h
  obtain⟨h1,h2,h3,h4,h5,h6,⟨h7,h8⟩,h9,h10,h11,h12,h13,h14,h15,h16,h17,h18,h19,h20⟩:=h
  have h16:=zt h16
  have h18:=zt h18
  have h20:=zt h20
  rw[bO oaa] at h18
  rw[DW h5,HY h4.d (by have:=h4.l;omega)] at h20
  refine⟨ok,h1,h2,h3,h4,h5,h6,λe=>?_,λe=>?_,h9,h10,h11,h12,h13,h14,h15,by omega,h17,h18,h19,h20⟩
  .rw[eqB_t.2 e] at h7;simpa using h7
  rw[ltB_t.2 e] at h8;simpa using h8
 rintro⟨_,h1,h2,h3,h4,h5,h6,h7,h8,h9,h10,h11,h12,h13,h14,h15,h16,h17,h18,h19,h20⟩
 simp only[jp,hV,bQ,D5,Fz,aag,AE,tM,uc,Fi]
 refine⟨h1,h2,h3,h4,h5,h6,⟨?_,?_⟩,h9,h10,h11,h12,h13,h14,h15,leB_t.2 oaa,h17,leB_t.2 (by rw[bO oaa];omega),h19,leB_t.2 (by rw[DW h5,HY h4.d (by have:=h4.l;omega)];omega)⟩
 .cases e:eqB s.bi 1
  .rfl
  exact h7 (pH e)
 cases e:ltB 0 s.bL
 .rfl
 exact h8 (mI e)
def ta (s:ah) (b:List Int):ah×Bool:=bif leB 24 (s.aG.length:Int)||ltB 60 (b.length:Int) then(s,false) else({s with aG:=s.aG++[⟨b⟩]},true)
theorem Zd (h:d9 s) {b:List Int}:na s b=some (ta s b):=by
 simp only[na,rf h,abX,ta,Gj,aa8]
 cases h1:leB 24 (s.aG.length:Int)<;>cases h2:ltB 60 (b.length:Int)<;>try rfl
 have h1:=xq h1
 have h2:=pP h2
 simp only[acf,cG (by_:=1) (n:=b.length) oaa oaa,cG (by_:=24) (n:=(s.aG++[(⟨b⟩:bV)]).length) oaa (by simp;omega),au]
theorem sub_i (h:d9 s) {b:List Int}:p8 s b=some (ta s b):=by
 simp only[p8,wK h,abX,ta]
 cases h1:leB 24 (s.aG.length:Int)<;>cases h2:ltB 60 (b.length:Int)<;>try rfl
 have h1:=xq h1
 have h2:=pP h2
 simp only[acf,vW (show b.length<=1048576 by omega),cG (by_:=24) (n:=(s.aG++[(⟨b⟩:bV)]).length) oaa (by simp;omega),au]
def G7 (s:ah) (m:aH):bI:=
 let q:=s.bE.c8+1
 let v:=vec s.bE.fo (Et s.bE.ID q) q
 bif eqB s.bE.c8 999999 then⟨s,[]⟩ else⟨{s with bE:={s.bE with c8:=q},aK:=v,bL:=q},[⟨2,m.bg,q,0,0,v,0⟩]⟩
def y6 (s:ah) (k:Int):aH:=wM s.aZ ⟨k,s.bg,s.ag,s.aX,0,cr,0⟩
def xr (s:ah) (c:Int):ah:=⟨s.bE,s.gG,1,cr,0,s.bL,s.aK.fo,s.aX+1,c,0,ed,s.aG,s.aw,s.dP,s.bU⟩
def zP (s:ah) (m:aH):bI:=
 bif leB s.bL 0||(!eqB m.ag s.bL||(!eqB m.bW s.aK.yI||leB 999999 s.aX)) then⟨s,[]⟩ else⟨xr s m.bg,[y6 (xr s m.bg) 4]⟩
def sW (s:ah) (m:aH):Bool:=eqB s.bi 1&&(eqB m.ag s.ag&&tw s.aZ m)
def wD (s:ah) (m:aH):ah:={s with aX:=m.aX,bg:=m.bg,dX:=0,gr:=ed,dP:=0}
def zN (s:ah) (m:aH):bI:=
 bif !sW s m||(ltB m.aX s.aX||(eqB m.aX s.aX&&!eqB m.bg s.bg)) then⟨s,[]⟩ else⟨wD s m,[y6 (wD s m) 6]⟩
def kZ (w:a9) (k:Int):a9:=bif ltB w.bB k then w else⟨w.bB,w.aA.filter λx=>leB k x.c8⟩
def tJ (q:cP) (n:Int):cP:=bif inR n 0 (q.cS-q.er) then {q with er:=q.er+n} else q
def lT (s:ah) (k:Int):ah:={s with dX:=0,aw:=kZ s.aw k,bU:=tJ s.bU (gh s.aw.aA-gh (kZ s.aw k).aA)}
def G6 (s:ah) (m:aH):bI:=bif !sW s m||ltB s.aw.bB m.bW then⟨s,[]⟩ else⟨lT s m.bW,[]⟩
def sUp (s:ah) (m:aH):bI:=
 bif !lS m then⟨s,[]⟩ else bif eqB m.bh 1 then G7 s m else bif eqB m.bh 3 then zP s m else bif eqB m.bh 5 then zN s m else bif eqB m.bh 8 then G6 s m else⟨s,[]⟩
def lV (s:ah):ah:={s with aK:=cr,bL:=0,dX:=0,gr:=ed,dP:=0}
theorem Bq (h:d9 s):pk s=some ⟨s,[]⟩:=by simp[pk,rf h]
theorem Vx (h:d9 s) {l:List aH} (hl:l.length<=1048576):dL s l=some ⟨s,l⟩:=by simp[dL,wK h,VR hl]
theorem y3 (h:d9 s):dL s []=some ⟨s,[]⟩:=Vx h (by simp)
theorem J0 (h:d9 s) (m:aH):dL s [m]=some ⟨s,[m]⟩:=Vx h (by simp)
theorem ZE (h:d9 s):y4 s=some (lV s):=by simp[y4,rf h,lV]
theorem ZD (h:d9 s):yT s=some (lV s):=by simp[yT,wK h,lV]
theorem JW {r:aO} (h:tF r=true):0<=r.c8/\r.c8<=999999:=by
 simp only[tF,hV,bQ] at h;omega
theorem att_s (h:SP s) (m:aH):o6 s m=some (G7 s m):=by
 have hr:=JW h.rcd
 simp only[o6,Tv,qY,Vo,h.rcd,Qy,Bq h.ok,rf h.ok,bO (n:=s.bE.c8+1) oaa,G7,au]
 cases he:eqB s.bE.c8 999999
 .simp only[bR,eqB_f.2 (show s.bE.c8+1≠s.bE.c8 by omega),ab6,ab5,au]
 simp only[bR,ab6,au]
theorem att_i (h:SP s) (m:aH):oB s m=some (G7 s m):=by
 have hr:=JW h.rcd
 simp only[oB,Zs,qT,Y3,h.rcd,Zh,y3 h.ok,bO (n:=s.bE.c8+1) oaa,G7,au]
 cases he:eqB s.bE.c8 999999
 .simp only[bR,eqB_f.2 (show s.bE.c8+1≠s.bE.c8 by omega),ab6,ab5,au]
  rw[J0 (s:={s with bE:={s.bE with c8:=s.bE.c8+1},aK:=vec s.bE.fo (Et s.bE.ID (s.bE.c8+1)) (s.bE.c8+1),bL:=s.bE.c8+1}) h.ok]
  rfl
 simp only[bR,ab6,au]
theorem resp_s (h:SP s) (m:aH):my s m=some (zP s m):=by
 have he:=h.ep
 simp only[my,pU,Bq h.ok,rf h.ok,tj,CG,abX,bO (n:=s.aX+1) oaa,zP]
 cases leB s.bL 0<;>cases eqB m.ag s.bL<;>cases eqB m.bW s.aK.yI<;>cases leB 999999 s.aX<;>rfl
theorem resp_i (h:SP s) (m:aH):mh s m=some (zP s m):=by
 have he:=h.ep
 have hh:d9 (xr s m.bg):=h.ok
 have a:∀x,dL ⟨s.bE,s.gG,1,cr,0,s.bL,s.aK.fo,s.aX+1,m.bg,0,ed,s.aG,s.aw,s.dP,s.bU⟩ [x]=some ⟨xr s m.bg,[x]⟩:=λx=>J0 hh x
 simp only[mh,pK,y3 h.ok,mW,Kh,abX,bO (n:=s.aX+1) oaa,a,zP]
 cases leB s.bL 0<;>cases eqB m.ag s.bL<;>cases eqB m.bW s.aK.yI<;>cases leB 999999 s.aX<;>rfl
theorem Pr (s:ah) (m:aH):vL s m=some (sW s m):=by
 simp only[vL,Ku,abX,sW];cases eqB s.bi 1<;>cases eqB m.ag s.ag<;>rfl
theorem XZ (h:SP s) (m:aH):kx s m=some (zN s m):=by
 simp only[kx,Pr,Bq h.ok,rf h.ok,tj,CG,abX,zN]
 cases sW s m<;>cases ltB m.aX s.aX<;>cases eqB m.aX s.aX<;>cases eqB m.bg s.bg<;>rfl
theorem XY (h:SP s) (m:aH):kr s m=some (zN s m):=by
 have hh:d9 (wD s m):=h.ok
 have a:∀x,dL {s with aX:=m.aX,bg:=m.bg,dX:=0,gr:=ed,dP:=0} [x]=some ⟨wD s m,[x]⟩:=λx=>J0 hh x
 simp only[kr,OA,y3 h.ok,mW,Kh,abX,a,zN,sW]
 cases eqB s.bi 1<;>cases eqB m.ag s.ag<;>cases tw s.aZ m<;>cases ltB m.aX s.aX<;>cases eqB m.aX s.aX<;>cases eqB m.bg s.bg<;>rfl
theorem Zo (h:WOK w) (k:Int):lv w k=some (kZ w k):=by
 have hl:=h.l
 simp only[lv,Ge h.ok,abX,kZ]
 cases ltB w.bB k
 .have:=eG (step:=gV w k) w.aA (λi s=>((i:Int),s)) (sM 32 (λx=>leB k x.c8) (λx=>x)) some oaa
   (λi x s hx hi=>by
    have hd:=h.d x (aab hx)
    simp only[gV,cI hi,bp,hx,aa8,cG (by_:=1) (n:=x.bb.length) oaa oaa,WRs (k:=i),sM,au]
    cases leB k x.c8<;>simp
    cases da 32 (s.length+1)<;>rfl) (λs=>by simp[gV]) ([]:List ae)
  rw[tK oaa _ _ _ _ (by simp;omega)] at this
  simp only[show iter (gV w k) FU (0,[])=_ from this,aa8,acL,au]
 rfl
theorem O5 (h:WOK w) (p:ae->Bool):okL ge (w.aA.filter p):=
 ⟨by have:=acq p w.aA;have:=h.l;omega,λx hx=>h.ok.2 x (abg.1 hx).1⟩
theorem Zn (h:WOK w) (k:Int):lg w k=some (kZ w k):=by
 have hl:=h.l
 simp only[lg,CD h.ok,abX,kZ]
 cases ltB w.bB k
 .have:=eG (step:=gP w k) w.aA (λi s=>((i:Int),s)) (sM 32 (λx=>leB k x.c8) (λx=>x)) some oaa
   (λi x s hx hi=>by
    simp only[gP,cI hi,bp,hx,WRs (k:=i),sM,au]
    cases leB k x.c8<;>simp
    cases da 32 (s.length+1)<;>rfl) (λs=>by simp[gP]) ([]:List ae)
  rw[tK oaa _ _ _ _ (by simp;omega)] at this
  simp only[show iter (gP w k) FU (0,[])=_ from this,aa8,acL,Ak (O5 h _),au]
 rfl
theorem QS (h:QOK q) (n:Int):∃b,qd q n=some (tJ q n,b):=by
 obtain⟨a,b,c,d⟩:=h
 simp only[qd,Bx,Fz.2 ⟨a,b,c,d⟩,fY,bO (n:=q.cS-q.er) oaa,tJ,au]
 cases hn:inR n 0 (q.cS-q.er)
 .exact⟨false,rfl⟩
 rw[bQ] at hn
 simp only[bO (n:=q.er+n) oaa,au];exact⟨true,rfl⟩
theorem QR (h:QOK q) (n:Int):∃b,p5 q n=some (tJ q n,b):=by
 obtain⟨a,b,c,d⟩:=h
 simp only[p5,DU,Fz.2 ⟨a,b,c,d⟩,gE,bO (n:=q.cS-q.er) oaa,tJ,au]
 cases hn:inR n 0 (q.cS-q.er)
 .exact⟨false,rfl⟩
 rw[bQ] at hn
 simp only[bO (n:=q.er+n) oaa,au];exact⟨true,rfl⟩
theorem Is (p:ae->Bool):∀xs:List ae,gh xs=gh (xs.filter p)+gh (xs.filter λx=>!p x)
 |[]=>rfl
 |x::xs=>by
  have ih:=Is p xs
  have e:∀ys,gh (x::ys)=x.bb.length+gh ys:=λys=>by simp[gh]
  rw[acm,acm,e]
  cases p x<;>simp[e]<;>omega
theorem Kq (n:Int):∀(xs:List ae) (s:Int),(∀x∈xs,x.bb.length<=60)->0<=s->s+60*xs.length<=9000000000->
 xs.foldl (λa x=>bif ltB x.c8 n then WR (a+(x.bb.length:Int)) else a) s=s+gh (xs.filter λx=>ltB x.c8 n)
 |[],s,_,_,_=>by simp[gh]
 |x::xs,s,h,h0,h1=>by
  have hx:=h x (by simp)
  simp only[aai] at h1
  rw[ack,acm]
  cases ltB x.c8 n
  .simp only[cond_false]
   exact Kq n xs s (λy hy=>h y (by simp[hy])) h0 oaa
  simp only[cond_true]
  rw[bO oaa,Kq n xs _ (λy hy=>h y (by simp[hy])) oaa oaa]
  simp[gh];omega
theorem IL (h:WOK w) {k:Int} (hk:ltB w.bB k=false):gh w.aA-gh (kZ w k).aA=gh (w.aA.filter λx=>ltB x.c8 k):=by
 rw[kZ,hk,Is (λx=>leB k x.c8) w.aA]
 simp only[cond_false]
 have:(λx:ae=>ltB x.c8 k)=λx=>!leB k x.c8:=by funext x;rw[sY]
 rw[this];omega
theorem ack_s (h:SP s) (m:aH):nB s m=some (G6 s m):=by
 obtain⟨b,hb⟩:=QS h.q (gh s.aw.aA-gh (kZ s.aw m.bW).aA)
 have hu:=h.win.d
 have hl:=h.win.l
 have hu2:∀x∈(kZ s.aw m.bW).aA,x.bb.length<=60:=λx hx=>by
  rw[kZ] at hx;revert hx
  cases ltB s.aw.bB m.bW
  .exact λhx=>hu x (abg.1 hx).1
  exact hu x
 have hl2:(kZ s.aw m.bW).aA.length<=8:=by
  rw[kZ];cases ltB s.aw.bB m.bW
  .have:=acq (λx:ae=>leB m.bW x.c8) s.aw.aA
   simp only[cond_false];omega
  exact hl
 have s1:=wY hu
 have s2:=wY hu2
 have e1:WR (ya s.aw.aA-ya (kZ s.aw m.bW).aA)=gh s.aw.aA-gh (kZ s.aw m.bW).aA:=by
  rw[HY hu oaa,HY hu2 oaa,bO oaa]
 simp only[nB,Pr,Bq h.ok,rf h.ok,Zo h.win,XM (show s.aw.aA.length<=1048576 by omega),XM (show(kZ s.aw m.bW).aA.length<=1048576 by omega),abX,e1,hb,G6]
 cases sW s m<;>cases ltB s.aw.bB m.bW<;>rfl
theorem WK (h:WOK w) (k:Int):jv (kZ w k):=by
 rw[kZ];cases ltB w.bB k
 .exact O5 h _
 exact h.ok
theorem ack_i (h:SP s) (m:aH):nu s m=some (G6 s m):=by
 have hu:=h.win.d
 have hl:=h.win.l
 have hrun:iter (kq s m) FU (0,0)=some (gh (s.aw.aA.filter λx=>ltB x.c8 m.bW)):=by
  rw[ve s.aw.aA (λa x=>bif ltB x.c8 m.bW then WR (a+(x.bb.length:Int)) else a) oaa (λk x a hx hk=>by
   simp only[kq,cI hk,bp,hx,WRs (k:=k),au]
   cases ltB x.c8 m.bW<;>rfl) (λa=>by simp[kq]),Kq m.bW s.aw.aA 0 hu oaa oaa]
  simp
 obtain⟨b,hb⟩:=QR h.q (gh (s.aw.aA.filter λx=>ltB x.c8 m.bW))
 simp only[nu,OA,y3 h.ok,hrun,hb,Zn h.win,abX,G6,sW]
 cases eqB s.bi 1<;>cases eqB m.ag s.ag<;>cases tw s.aZ m<;>try rfl
 cases hk:ltB s.aw.bB m.bW
 .have ho:d9 (lT s m.bW):=⟨h.ok.1,h.ok.2.1,WK h.win _⟩
  have:=y3 ho
  rw[lT,IL h.win hk] at this
  simp only[ab5,acC,lT,IL h.win hk,this,au]
 rfl
theorem up_s (h:SP s) (m:aH):o9 s m=some (sUp s m):=by
 simp only[o9,PQ,Bq h.ok,att_s h,resp_s h,XZ h,ack_s h,abX,sUp]
 cases lS m<;>cases eqB m.bh 1<;>cases eqB m.bh 3<;>cases eqB m.bh 5<;>cases eqB m.bh 8<;>rfl
theorem up_i (h:SP s) (m:aH):oE s m=some (sUp s m):=by
 simp only[oE,PP,y3 h.ok,att_i h,resp_i h,XY h,ack_i h,abX,sUp]
 cases lS m<;>cases eqB m.bh 1<;>cases eqB m.bh 3<;>cases eqB m.bh 5<;>cases eqB m.bh 8<;>rfl
theorem px (t d:List aD):tE (t++d)=tE t+tE d:=by simp[tE,List.sum_append]
@[simp] theorem sumR_cons (x:aD) (d:List aD):tE (x::d)=x.dW+tE d:=by simp[tE]
theorem Vj {d:List aD} {m m':Int} (h:(t++⟨i,m⟩::d).Pairwise λx y=>x.aC<y.aC):(t++⟨i,m'⟩::d).Pairwise λx y=>x.aC<y.aC:=by
 rw[ab3,ab2] at h ⊢
 obtain⟨h1,⟨h2,h3⟩,h4⟩:=h
 exact⟨h1,⟨λy hy=>h2 y hy,h3⟩,λx hx y hy=>by
  rcases aae.1 hy with e|hy
  .subst e;exact h4 x hx ⟨i,m⟩ (by simp)
  exact h4 x hx y (by simp[hy])⟩
theorem pw_ins {d:List aD} {m:Int} (h:(t++d).Pairwise λx y=>x.aC<y.aC) (h1:∀x∈t,x.aC<i) (h2:∀x∈d,i<x.aC):(t++(⟨i,m⟩:aD)::d).Pairwise λx y=>x.aC<y.aC:=by
 rw[ab3] at h ⊢
 obtain⟨a,b,c⟩:=h
 exact⟨a,ab2.2 ⟨λy hy=>h2 y hy,b⟩,λx hx y hy=>by
  rcases aae.1 hy with e|hy
  .subst e;exact h1 x hx
  exact c x hx y hy⟩
theorem yY {d:List aD} (h1:∀x∈t,x.aC<i) (h2:∀x∈d,i<x.aC):∀x∈t++d,x.aC≠i:=λx hx=>by
 rcases aac.1 hx with hx|hx
 .have:=h1 x hx;omega
 have:=h2 x hx;omega
theorem Ao (ok:nV a) (i n:Int):
 nV (iu a i n).1/\it (iu a i n).1 i=it a i+(iu a i n).2/\0<=(iu a i n).2/\(iu a i n).2<=a.bz/\(iu a i n).1.bz=a.bz-(iu a i n).2/\(iu a i n).1.eg=a.eg/\(iu a i n).1.eE=a.eE:=by
 have hv:=ok.v
 have ht:=ok.t
 have hs:=ok.s
 have hl:=ok.l
 have he:=ok.e
 rw[iu]
 cases h1:ltB i 0<;>cases h2:inR n 1 100000<;>cases h3:eqB a.bz 0<;>cases h4:full a i<;>simp only[acC,Bool.or_true,Bool.true_or,aaJ,au]<;>try exact⟨ok,by omega,by omega,by omega,by omega,by simp,by simp⟩
 rw[bQ] at h2
 have h1:=pP h1
 have h3:=Ji h3
 have hmin:1<=lB n a.bz/\lB n a.bz<=100000/\lB n a.bz<=a.bz:=by unfold lB;split<;>omega
 generalize lB n a.bz=g at*
 rcases Je ok.o i with⟨t,m,d,e,k1,k2⟩|⟨t,d,e,k1,k2⟩
 .have hm:=ok.r ⟨i,m⟩ (by rw[e];simp)
  have hsum:=(py ok.r).2.2 ⟨i,m⟩ (by rw[e];simp)
  simp only at hm hsum
  rw[e,px,sumR_cons] at he
  simp only at he
  have hs1:=py (h:=t) λx hx=>ok.r x (by rw[e];simp[hx])
  have hs2:=py (h:=d) λx hx=>ok.r x (by rw[e];simp[hx])
  have ho:=ok.o
  rw[e] at ho
  rw[nY e k1]
  simp only[e,IM k1]
  have hll:(t++(⟨i,m+g⟩:aD)::d).length=a.aj.length:=by rw[e];simp
  refine⟨⟨ht,by simp only;omega,hs,by simp only;omega,λx hx=>?_,Vj ho,by simp only[px,sumR_cons];omega⟩,nY (t:=t) (d:=d) rfl k1,by omega,by omega,trivial,trivial,trivial⟩
  rcases aac.1 hx with hx|hx
  .exact ok.r x (by rw[e];simp[hx])
  rcases aae.1 hx with e'|hx
  .subst e';simp only;omega
  exact ok.r x (by rw[e];simp[hx])
 rw[nZ (a:=a) (λx hx=>by rw[e] at hx;exact yY k1 k2 x hx)]
 have hb:a.aj.length<8:=by
  rw[full,e,Tk k1 k2] at h4
  simp only[Bool.not_false,ab5] at h4
  have:=xq h4
  rw[e];omega
 rw[e,px] at he
 have ho:=ok.o
 rw[e] at ho
 simp only[e,IN k1 k2]
 refine⟨⟨ht,by simp only;omega,hs,by simp only;rw[e] at hb;simp at hb ⊢;omega,λx hx=>?_,pw_ins ho k1 k2,by simp only[px,sumR_cons];omega⟩,Eq.trans (nY (t:=t) (d:=d) rfl k1) oaa,by omega,by omega,trivial,trivial,trivial⟩
 rcases aac.1 hx with hx|hx
 .exact ok.r x (by rw[e];simp[hx])
 rcases aae.1 hx with e'|hx
 .subst e';simp only;omega
 exact ok.r x (by rw[e];simp[hx])
theorem TM (ok:nV a) {n:Int} (hn:0<=n/\n<=it a i):
 nV (u9 a i n)/\it (u9 a i n) i=it a i-n/\(u9 a i n).eg=a.eg+n/\(u9 a i n).bz=a.bz/\(u9 a i n).eE=a.eE:=by
 have hv:=ok.v
 have ht:=ok.t
 have hs:=ok.s
 have hl:=ok.l
 have he:=ok.e
 rw[u9]
 cases h0:ltB 0 n
 .have h0:=pP h0
  have:n=0:=by omega
  subst this
  simp only[cond_false]
  exact⟨ok,by omega,by omega,by simp,by simp⟩
 have h0:=mI h0
 simp only[cond_true]
 rcases Je ok.o i with⟨t,m,d,e,k1,k2⟩|⟨t,d,e,k1,k2⟩
 .rw[nY e k1] at hn ⊢
  have hm:=ok.r ⟨i,m⟩ (by rw[e];simp)
  simp only at hm
  rw[e,px,sumR_cons] at he
  have hs1:=py (h:=t) λx hx=>ok.r x (by rw[e];simp[hx])
  have hs2:=py (h:=d) λx hx=>ok.r x (by rw[e];simp[hx])
  have ho:=ok.o
  rw[e] at ho
  have hll:t.length+1+d.length=a.aj.length:=by rw[e];simp;omega
  simp only at he
  simp only[e,IY k1]
  by_cases hb:n<m
  .simp only[if_pos hb]
   refine⟨⟨ht,by simp only;omega,by simp only;omega,by simp;omega,λx hx=>?_,Vj ho,by simp only[px,sumR_cons];omega⟩,nY (t:=t) (d:=d) rfl k1,trivial,trivial,trivial⟩
   rcases aac.1 hx with hx|hx
   .exact ok.r x (by rw[e];simp[hx])
   rcases aae.1 hx with e'|hx
   .subst e';simp only;omega
   exact ok.r x (by rw[e];simp[hx])
  simp only[if_neg hb]
  have ho2:(t++d).Pairwise λx y=>x.aC<y.aC:=ho.sublist (by simp)
  refine⟨⟨ht,by simp only;omega,by simp only;omega,by simp;omega,λx hx=>ok.r x (by rw[e];rcases aac.1 hx with hx|hx<;>simp[hx]),ho2,by simp only[px];omega⟩,?_,trivial,trivial,trivial⟩
  rw[nZ (a:={a with eg:=a.eg+n,aj:=t++d}) (yY k1 k2)];omega
 rw[nZ (λx hx=>by rw[e] at hx;exact yY k1 k2 x hx)] at hn
 omega
structure MOK (a:am) (q:cP):Prop where
 acc:nV a
 quo:QOK q
 res:it a q.aC=q.cS
theorem pQ:wZ a q=true↔MOK a q:=by
 simp only[wZ,hV,tG,Fz,eqB_t]
 exact⟨λ⟨x,y,z⟩=>⟨x,y,z⟩,λ⟨x,y,z⟩=>⟨x,y,z⟩⟩
def jk (a:am) (q:cP) (n:Int):am×cP:=
 let r:=iu a q.aC n
 (r.1,{q with cS:=q.cS+r.2})
theorem Am (h:MOK a q) (n:Int):MOK (jk a q n).1 (jk a q n).2/\q.cS<=(jk a q n).2.cS:=by
 obtain⟨h1,h2,h3,h4,h5,h6,h7⟩:=Ao h.acc q.aC n
 have:=Ct h1 q.aC
 have hr:=h.res
 obtain⟨a1,a2,a3,a4⟩:=h.quo
 exact⟨⟨h1,⟨a1,a2,by simp only[jk];omega,by simp only[jk];omega⟩,by simp only[jk];omega⟩,by simp only[jk];omega⟩
theorem RJ (h:MOK a q) (n:Int):qg a q n=some (jk a q n):=by
 have h0:=(Am h n).1.quo
 have hq:=h.quo
 simp only[jk] at h0
 have hg:=h0.m
 have hg2:=h0.g
 simp only at hg hg2
 simp only[qg,RO h.acc,JD h.acc.ok,pQ.2 h,Bx,bO (n:=q.cS+(iu a q.aC n).2) (by have:=hq.u;omega),Fz.2 h0,jk,au]
theorem RI (h:MOK a q) (n:Int):p7 a q n=some (jk a q n):=by
 have h0:=(Am h n).1.quo
 have hq:=h.quo
 simp only[jk] at h0
 have hg:=h0.m
 have hg2:=h0.g
 simp only at hg hg2
 simp only[p7,RL h.acc,DN h.acc.ok,pQ.2 h,bO (n:=q.cS+(iu a q.aC n).2) (by have:=hq.u;omega),ltB_f.2 hg,jk,au]
def lc (a:am) (q:cP):am×cP:=(u9 a q.aC q.er,⟨q.aC,q.cS-q.er,0⟩)
theorem Ih (h:MOK a q):MOK (lc a q).1 (lc a q).2/\(lc a q).1.eg=a.eg+q.er/\(lc a q).1.eE=a.eE/\(lc a q).1.bz=a.bz:=by
 obtain⟨a1,a2,a3,a4⟩:=h.quo
 have hr:=h.res
 obtain⟨h1,h2,h3,h4,h5⟩:=TM h.acc (i:=q.aC) (n:=q.er) oaa
 exact⟨⟨h1,⟨a1,by simp[lc],by simp only[lc];omega,by simp only[lc];omega⟩,by simp only[lc];omega⟩,h3,h5,h4⟩
theorem Vw (h:MOK a q):rQ a q=some (lc a q):=by
 obtain⟨a1,a2,a3,a4⟩:=h.quo
 have hr:=h.res
 simp only[rQ,JD h.acc.ok,pQ.2 h,W7 h.acc (i:=q.aC) (n:=q.er) oaa,bO (n:=q.cS-q.er) oaa,lc,au]
theorem Ma (h:MOK a q):mj a q=some (lc a q):=by
 obtain⟨a1,a2,a3,a4⟩:=h.quo
 have hr:=h.res
 simp only[mj,DN h.acc.ok,pQ.2 h,W6 h.acc (i:=q.aC) (n:=q.er) oaa,bO (n:=q.cS-q.er) oaa,lc,au]
def jC (s:ah) (n:Int):Int:=Dx 0 (gh s.aw.aA+n-(s.bU.cS-s.bU.er))
theorem UY (hw:WOK s.aw) (hq:QOK s.bU) {n:Int} (hn:0<=n/\n<=1000):o5 s n=some (jC s n):=by
 have hs:=wY hw.d
 have hl:=hw.l
 obtain⟨a1,a2,a3,a4⟩:=hq
 simp only[o5,o4,XM (show s.aw.aA.length<=1048576 by omega),HY hw.d (show s.aw.aA.length<=1000 by omega),Y5,DW ⟨a1,a2,a3,a4⟩,LO,abX,jC,bO (n:=gh s.aw.aA+n) oaa,bO (n:=gh s.aw.aA+n-(s.bU.cS-s.bU.er)) oaa]
theorem UX (hw:WOK s.aw) (hq:QOK s.bU) {n:Int} (hn:0<=n/\n<=1000):oA s n=some (jC s n):=by
 have hs:=wY hw.d
 have hl:=hw.l
 obtain⟨a1,a2,a3,a4⟩:=hq
 simp only[oA,jh,nb_i (show s.aw.aA.length<=1048576 by omega),HY hw.d (show s.aw.aA.length<=1000 by omega),Y4,DW ⟨a1,a2,a3,a4⟩,YZ,abX,jC,bO (n:=gh s.aw.aA+n) oaa,bO (n:=gh s.aw.aA+n-(s.bU.cS-s.bU.er)) oaa]
def cQ (s:ah) (a:am) (n:Int):ah×am:=
 bif leB (jC s n) 0 then(s,a) else
  let r:=jk a s.bU (Dx (jC s n) s.gG.et)
  ({s with bU:=r.2},r.1)
theorem T1 (h:SP s) (hm:MOK a s.bU) {n:Int} (hn:0<=n/\n<=1000):rO s a n=some (cQ s a n):=by
 simp only[rO,rf h.ok,UY h.win h.q hn,Ed hm.acc.ok,LO,RJ hm,abX,cQ]
 cases leB (jC s n) 0<;>rfl
theorem T0 (h:SP s) (hm:MOK a s.bU) {n:Int} (hn:0<=n/\n<=1000):rv s a n=some (cQ s a n):=by
 simp only[rv,wK h.ok,UX h.win h.q hn,xy hm.acc.ok,YZ,RI hm,abX,cQ]
 cases leB (jC s n) 0<;>rfl
def pC (w:a9) (b:List Int):a9:=⟨w.bB+1,w.aA++[⟨w.bB,b⟩]⟩
theorem DX (h:WOK w) {b:List Int} (hn:w.bB<100000) (hl:w.aA.length<8) (hb:b.length<=60):WOK (pC w b):=by
 have h1:=h.n
 have h3:=h.f
 refine⟨by simp only[pC];omega,by simp[pC];omega,by simp[pC];omega,λk x hx=>?_⟩
 simp only[pC] at hx ⊢
 rw[aav,acr]
 by_cases hk:k<w.aA.length
 .rw[aal hk] at hx
  have:=h.u k x hx
  omega
 have hk2:=(aaa.1 hx).1
 simp at hk2
 have:k=w.aA.length:=by omega
 subst this
 simp at hx
 subst hx
 simp only
 omega
theorem send_s (h:WOK w) {b:List Int} (hn:w.bB<100000) (hl:w.aA.length<8) (hb:b.length<=60):qH w b=some (pC w b,⟨w.bB,b⟩,true):=by
 have h1:=h.n
 have hs:=DX h hn hl hb
 have e:(⟨WR (w.bB+1),w.aA++[(⟨w.bB,b⟩:ae)]⟩:a9)=pC w b:=by rw[bO oaa];rfl
 simp only[qH,Ge h.ok,aa8,cG (by_:=1) (n:=b.length) oaa oaa,cG (by_:=32) (n:=(w.aA++[(⟨w.bB,b⟩:ae)]).length) oaa (by simp;omega),e,Mo hs.ok,D5.2 hs,au]
theorem send_i (h:WOK w) {b:List Int} (hn:w.bB<100000) (hl:w.aA.length<8) (hb:b.length<=60):qt w b=some (pC w b,⟨w.bB,b⟩,true):=by
 have h1:=h.n
 have hs:=DX h hn hl hb
 have e:(⟨WR (w.bB+1),w.aA++[(⟨w.bB,b⟩:ae)]⟩:a9)=pC w b:=by rw[bO oaa];rfl
 simp only[qt,CD h.ok,vW (show b.length<=1048576 by omega),cG (by_:=32) (n:=(w.aA++[(⟨w.bB,b⟩:ae)]).length) oaa (by simp;omega),e,Mn hs.ok,D5.2 hs,au]
structure SG (s:ah) (a:am):Prop where
 sp:SP s
 b1:∀p∈s.aG,okB p.bb
 b2:∀x∈s.aw.aA,okB x.bb
 mo:MOK a s.bU
def qC (s:ah):Option bV:=bif leB s.aw.bB (s.aG.length:Int)&&ltB (s.aw.aA.length:Int) 8 then s.aG[(s.aw.bB-1).toNat]? else none
def f7:Nat->ah->am->List ax->ah×am×List ax
 |0,s,a,r=>(s,a,r)
 |k+1,s,a,r=>match qC s with
  |none=>(s,a,r)
  |some x=>
   let e:=cQ s a (x.bb.length:Int)
   bif ltB 0 (jC e.1 (x.bb.length:Int)) then(e.1,e.2,r)
   else f7 k {e.1 with aw:=pC e.1.aw x.bb} e.2 (r++[iF e.1.aZ e.1.ag e.1.aX ⟨e.1.aw.bB,x.bb⟩])
theorem lR (h:SP s) {x:bV} (e:qC s=some x):x∈s.aG/\ix s.aG (WR (s.aw.bB-1))=some x/\s.aG[(s.aw.bB-1).toNat]?=some x/\s.aw.bB<=s.aG.length/\s.aw.aA.length<8/\x.bb.length<=60:=by
 have hn:=h.win.n
 rw[qC] at e
 cases h1:leB s.aw.bB (s.aG.length:Int)<;>cases h2:ltB (s.aw.aA.length:Int) 8<;>rw[h1,h2] at e<;>try cases e
 have h1:=zt h1
 have h2:=mI h2
 have e:s.aG[(s.aw.bB-1).toNat]?=some x:=e
 have hm:=aab e
 refine⟨hm,?_,e,h1,by omega,h.sd x hm⟩
 rw[bO oaa,ix,leB_t.2 (show 0<=s.aw.bB-1 by omega)]
 exact e
theorem Fu (h:SP s) (e:qC s=none):(leB s.aw.bB (s.aG.length:Int)&&ltB (s.aw.aA.length:Int) 8)=false:=by
 have hn:=h.win.n
 cases h1:leB s.aw.bB (s.aG.length:Int)&&ltB (s.aw.aA.length:Int) 8
 .rfl
 rw[qC,h1] at e
 rw[hV] at h1
 have h1:=zt h1.1
 have e:s.aG[(s.aw.bB-1).toNat]?=none:=e
 rw[List.getElem?_eq_none_iff] at e
 omega
theorem rY (h:SG s a) {n:Int} (hn:0<=n/\n<=60):SG (cQ s a n).1 (cQ s a n).2:=by
 rw[cQ]
 cases leB (jC s n) 0
 .obtain⟨h1,h2⟩:=Am h.mo (Dx (jC s n) s.gG.et)
  have hp:=h.sp.pd
  have hu:(jk a s.bU (Dx (jC s n) s.gG.et)).2.er=s.bU.er:=rfl
  exact⟨{h.sp with q:=h1.quo,pd:=by simp only[cond_false] at hp ⊢;rw[hu];omega},h.b1,h.b2,h1⟩
 exact h
theorem Sk (x:ByteArray):strB x x=true:=by simp[strB]
theorem y9 (h:SG s a) {x:bV} (e:qC s=some x) (hq:ltB 0 (jC s (x.bb.length:Int))=false):SG {s with aw:=pC s.aw x.bb} a:=by
 obtain⟨hm,_,hx,hn,hl,hb⟩:=lR h.sp e
 have hs:=h.sp.sl
 have hq:=pP hq
 have hnn:=h.sp.win.n
 have hpd:gh (s.aw.aA++[⟨s.aw.bB,x.bb⟩])<=s.bU.cS-s.bU.er:=by
  have e1:gh (s.aw.aA++[⟨s.aw.bB,x.bb⟩])=gh s.aw.aA+x.bb.length:=by simp[gh]
  rw[jC,Dx] at hq
  rw[e1]
  split at hq<;>omega
 refine⟨{h.sp with ok:=⟨h.sp.ok.1,h.sp.ok.2.1,(DX h.sp.win oaa hl hb).ok⟩,win:=DX h.sp.win oaa hl hb,nx:=by simp only[pC];omega,un:=λy hy=>?_,pd:=hpd},h.b1,λy hy=>?_,h.mo⟩
 .simp only[pC,aac,ab4] at hy
  rcases hy with hy|rfl
  .exact h.sp.un y hy
  simp only[AC,hx,Il];exact Sk _
 simp only[pC,aac,ab4] at hy
 rcases hy with hy|rfl
 .exact h.b2 y hy
 exact h.b1 x hm
theorem lF (s:ah) (a:am) (n:Int):∃q,(cQ s a n).1={s with bU:=q}:=by
 rw[cQ];cases leB (jC s n) 0
 .exact⟨_,rfl⟩
 exact⟨s.bU,rfl⟩
theorem Gc:∀(k fu:Nat) (s:ah) (a:am) (r:List ax),SG s a->k<=2->k<fu->r.length+k<=1000->
 iter tV fu ((2:Int)-(k:Nat),r,s,a)=some ((f7 k s a r).2.2,(f7 k s a r).1,(f7 k s a r).2.1)
 |0,fu,s,a,r,h,h1,h2,h3=>by
  cases fu with
  |zero=>omega
  |succ fu=>rw[iter];simp[tV,f7]
 |k+1,fu,s,a,r,h,h1,h2,h3=>by
  cases fu with
  |zero=>omega
  |succ fu=>
   have hlt:ltB ((2:Int)-((k+1:Nat):Int)) 2=true:=ltB_t.2 oaa
   have hc:(bif ltB (s.aG.length:Int) s.aw.bB then some true else some (leB 8 (s.aw.aA.length:Int)))=some (!(leB s.aw.bB (s.aG.length:Int)&&ltB (s.aw.aA.length:Int) 8)):=by
    rw[sY (s.aG.length:Int),sY (s.aw.aA.length:Int)]
    cases leB s.aw.bB (s.aG.length:Int)<;>cases leB 8 (s.aw.aA.length:Int)<;>rfl
   rw[iter]
   simp only[tV,hlt,hc,f7,au]
   cases e:qC s with
   |none=>rw[Fu h.sp e];rfl
   |some x=>
    obtain⟨hm,hx,_,hn,hl,hb⟩:=lR h.sp e
    have hcc:(leB s.aw.bB (s.aG.length:Int)&&ltB (s.aw.aA.length:Int) 8)=true:=by rw[leB_t.2 hn,ltB_t.2 oaa];rfl
    have he:=rY h (n:=(x.bb.length:Int)) oaa
    have hsl:=h.sp.sl
    have hnn:=h.sp.win.n
    simp only[hcc,hx,T0 h.sp h.mo (n:=(x.bb.length:Int)) oaa,UX he.sp.win he.sp.q (n:=(x.bb.length:Int)) oaa,au]
    cases hq:ltB 0 (jC (cQ s a (x.bb.length:Int)).1 (x.bb.length:Int))
    .obtain⟨q,hk⟩:=lF s a (x.bb.length:Int)
     have e2:qC (cQ s a (x.bb.length:Int)).1=some x:=by rw[hk];exact e
     have hg:=y9 he e2 hq
     have hw:(cQ s a (x.bb.length:Int)).1.aw=s.aw:=by rw[hk]
     have hww:=he.sp.win
     simp only[send_i hww (b:=x.bb) (by rw[hw];omega) (by rw[hw];omega) hb,VL (x:=⟨(cQ s a (x.bb.length:Int)).1.aw.bB,x.bb⟩) (by rw[hw];simp only;omega) (by rw[hw];simp only;omega) (h.b1 x hm) (by simp only;omega),cG (by_:=64) (n:=(r++[iF (cQ s a (x.bb.length:Int)).1.aZ (cQ s a (x.bb.length:Int)).1.ag (cQ s a (x.bb.length:Int)).1.aX ⟨(cQ s a (x.bb.length:Int)).1.aw.bB,x.bb⟩]).length) oaa (by simp;omega),bO (n:=(2:Int)-((k+1:Nat):Int)+1) oaa,au]
     rw[show(2:Int)-((k+1:Nat):Int)+1=2-(k:Nat) by omega]
     exact Gc k fu _ _ _ hg oaa oaa (by simp;omega)
    rfl
theorem Gd (s0:ah):∀(k fu:Nat) (s:ah) (a:am) (g:List aH) (r:List ax),SG s a->s.aG=s0.aG->s.aZ=s0.aZ->s.ag=s0.ag->s.aX=s0.aX->k<=2->k<fu->r.length+k<=1000->
 iter (uk s0) fu ((2:Int)-(k:Nat),⟨s,a,g,r⟩)=some ⟨(f7 k s a r).1,(f7 k s a r).2.1,g,(f7 k s a r).2.2⟩
 |0,fu,s,a,g,r,h,c1,c2,c3,c4,h1,h2,h3=>by
  cases fu with
  |zero=>omega
  |succ fu=>rw[iter];simp[uk,f7]
 |k+1,fu,s,a,g,r,h,c1,c2,c3,c4,h1,h2,h3=>by
  cases fu with
  |zero=>omega
  |succ fu=>
   have hlt:ltB ((2:Int)-((k+1:Nat):Int)) 2=true:=ltB_t.2 oaa
   have hc:(bif leB s.aw.bB (s0.aG.length:Int) then some (ltB (s.aw.aA.length:Int) 8) else some false)=some (leB s.aw.bB (s.aG.length:Int)&&ltB (s.aw.aA.length:Int) 8):=by
    rw[<-c1]
    cases leB s.aw.bB (s.aG.length:Int)<;>rfl
   rw[iter]
   simp only[uk,hlt,hc,f7,au]
   cases e:qC s with
   |none=>rw[Fu h.sp e];rfl
   |some x=>
    obtain⟨hm,hx,_,hn,hl,hb⟩:=lR h.sp e
    have hcc:(leB s.aw.bB (s.aG.length:Int)&&ltB (s.aw.aA.length:Int) 8)=true:=by rw[leB_t.2 hn,ltB_t.2 oaa];rfl
    have he:=rY h (n:=(x.bb.length:Int)) oaa
    have hsl:=h.sp.sl
    have hnn:=h.sp.win.n
    rw[c1] at hx
    simp only[hcc,hx,T1 h.sp h.mo (n:=(x.bb.length:Int)) oaa,UY he.sp.win he.sp.q (n:=(x.bb.length:Int)) oaa,au]
    cases hq:ltB 0 (jC (cQ s a (x.bb.length:Int)).1 (x.bb.length:Int))
    .obtain⟨q,hk⟩:=lF s a (x.bb.length:Int)
     have e2:qC (cQ s a (x.bb.length:Int)).1=some x:=by rw[hk];exact e
     have hg:=y9 he e2 hq
     have hw:(cQ s a (x.bb.length:Int)).1.aw=s.aw:=by rw[hk]
     have hww:=he.sp.win
     have d1:(cQ s a (x.bb.length:Int)).1.aZ=s0.aZ:=by rw[hk];exact c2
     have d2:(cQ s a (x.bb.length:Int)).1.ag=s0.ag:=by rw[hk];exact c3
     have d3:(cQ s a (x.bb.length:Int)).1.aX=s0.aX:=by rw[hk];exact c4
     simp only[send_s hww (b:=x.bb) (by rw[hw];omega) (by rw[hw];omega) hb,yA,N7 (x:=⟨(cQ s a (x.bb.length:Int)).1.aw.bB,x.bb⟩) (by rw[hw];simp only;omega) (by rw[hw];simp only;omega) (h.b1 x hm) (by simp only;omega),<-d1,<-d2,<-d3,cG (by_:=64) (n:=(r++[iF (cQ s a (x.bb.length:Int)).1.aZ (cQ s a (x.bb.length:Int)).1.ag (cQ s a (x.bb.length:Int)).1.aX ⟨(cQ s a (x.bb.length:Int)).1.aw.bB,x.bb⟩]).length) oaa (by simp;omega),bO (n:=(2:Int)-((k+1:Nat):Int)+1) oaa,au]
     rw[show(2:Int)-((k+1:Nat):Int)+1=2-(k:Nat) by omega]
     exact Gd s0 k fu _ _ _ _ hg (by simp only;rw[hk];exact c1) d1 d2 d3 oaa oaa (by simp;omega)
    rfl
theorem R6 (h:SG s a) (hs:s.bi=1):Bf s a=some ⟨(f7 2 s a []).1,(f7 2 s a []).2.1,[],(f7 2 s a []).2.2⟩:=by
 have:=Gc 2 FU s a [] h oaa (by have:=hO;omega) (by simp)
 rw[show(2:Int)-((2:Nat):Int)=0 by omega] at this
 simp only[Bf,wK h.sp.ok,xy h.mo.acc.ok,CE h.sp.ok,(vF h.sp.ok).2 h.sp,eqB_t.2 hs,this,au]
theorem R7 (h:SG s a) (hs:s.bi=1):yr s a=some ⟨(f7 2 s a []).1,(f7 2 s a []).2.1,[],(f7 2 s a []).2.2⟩:=by
 have:=Gd s 2 FU s a [] [] h rfl rfl rfl rfl oaa (by have:=hO;omega) (by simp)
 rw[show(2:Int)-((2:Nat):Int)=0 by omega] at this
 have hz:({cj with aU:=s,d8:=a}:bM)=⟨s,a,[],[]⟩:=rfl
 simp only[yr,tk,yy,rf h.sp.ok,Ed h.mo.acc.ok,CF h.sp.ok,(vF h.sp.ok).2 h.sp,eqB_t.2 hs,hz,this,au]
theorem Mm:∀(k:Nat) (s:ah) (a:am) (r:List ax),SG s a->SG (f7 k s a r).1 (f7 k s a r).2.1
 |0,s,a,r,h=>h
 |k+1,s,a,r,h=>by
  rw[f7]
  cases e:qC s with
  |none=>exact h
  |some x=>
   obtain⟨hm,hx,_,hn,hl,hb⟩:=lR h.sp e
   have he:=rY h (n:=(x.bb.length:Int)) oaa
   simp only
   cases hq:ltB 0 (jC (cQ s a (x.bb.length:Int)).1 (x.bb.length:Int))
   .obtain⟨q,hk⟩:=lF s a (x.bb.length:Int)
    exact Mm k _ _ _ (y9 he (by rw[hk];exact e) hq)
   exact he
theorem EJ (xs:List α):(xs.filter λ_=>true)=xs:=List.filter_eq_self.2 (by simp)
def xz (s:ah):List ax:=bif eqB s.bi 1 then(s.aw.aA.take 2).map λx=>iF s.aZ s.ag s.aX x else []
theorem Oy (h:WOK s.aw) (hx:x∈s.aw.aA):1<=x.c8/\x.c8<s.aw.bB/\x.c8<=100000/\x.bb.length<=60:=by
 obtain⟨k,hk⟩:=aap hx
 have hl:=(aaa.1 hk).1
 have:=h.u k x hk
 have h1:=h.f
 have h2:=h.n
 omega
theorem WM (h:SG s a):qs s=some (xz s):=by
 simp only[qs,xz]
 cases eqB s.bi 1
 .rfl
 have hm:lB 2 (s.aw.aA.length:Int)=(((min 2 s.aw.aA.length:Nat)):Int):=by unfold lB;split<;>omega
 have hs:eS s.aw.aA 0 (((min 2 s.aw.aA.length:Nat)):Int)=true:=by simp[eS];omega
 have ht:s.aw.aA.take (min 2 s.aw.aA.length)=s.aw.aA.take 2:=by
  rcases Nat.le_total 2 s.aw.aA.length with h|h
  .rw[Nat.min_eq_left h]
  rw[Nat.min_eq_right h,acA,ab7 h]
 have hrun:=eG (step:=lJ s (((min 2 s.aw.aA.length:Nat)):Int)) (s.aw.aA.take 2) (λi r=>((i:Int),r)) (sM 64 (λ_=>true) (λx=>iF s.aZ s.ag s.aX x)) some (by simp;omega)
  (λi x r hx hi=>by
   have hxm:x∈s.aw.aA:=aaA (aab hx)
   have hu:=Oy h.sp.win hxm
   simp only[lJ,abY,ht,cI hi,bp,hx,VL (x:=x) oaa oaa (h.b2 x hxm) oaa,oh (show i<9223372036854775807 by simp at hi;omega),sM,au]
   cases da 64 (r++[iF s.aZ s.ag s.aX x]).length<;>rfl) (λr=>by simp[lJ,ht]) ([]:List ax)
 rw[tK oaa _ _ _ _ (by simp;omega)] at hrun
 have hrun:iter (lJ s (((min 2 s.aw.aA.length:Nat)):Int)) FU (0,[])=_:=hrun
 simp only[UJ,hm,hs,hrun,aa8,EJ,au]
theorem WN (h:SG s a):n8 s=some (xz s):=by
 have key:∀(n:Nat) (fu k:Nat) (r:List ax),n=(s.aw.aA.take 2).length-k->k<=(s.aw.aA.take 2).length->n<fu->r.length+n<=100->eqB s.bi 1=true->
  iter (jZ s) fu ((k:Int),r)=some (r++((s.aw.aA.take 2).drop k).map λx=>iF s.aZ s.ag s.aX x):=by
  intro n
  have hle:(s.aw.aA.take 2).length=min 2 s.aw.aA.length:=by simp
  induction n with
  |zero=>
   intro fu k r hn hk hf hr hs
   cases fu with
   |zero=>omega
   |succ fu=>
    have hk':k=(s.aw.aA.take 2).length:=by omega
    have hc:(bif ltB (k:Int) (s.aw.aA.length:Int) then(bif ltB (k:Int) 2 then some (eqB s.bi 1) else some false) else some false)=some false:=by
     by_cases h2:k<s.aw.aA.length
     .rw[cI h2,ltB_f.2 (show(2:Int)<=k by omega)];rfl
     rw[ltB_f.2 (show(s.aw.aA.length:Int)<=k by omega)];rfl
    rw[iter]
    simp only[jZ,hc,au]
    rw[hk',acw];simp
  |succ n ih=>
   intro fu k r hn hk hf hr hs
   cases fu with
   |zero=>omega
   |succ fu=>
    have hlt:k<(s.aw.aA.take 2).length:=by omega
    have hc:(bif ltB (k:Int) (s.aw.aA.length:Int) then(bif ltB (k:Int) 2 then some (eqB s.bi 1) else some false) else some false)=some true:=by
     rw[cI (show k<s.aw.aA.length by omega),ltB_t.2 (show(k:Int)<2 by omega),hs];rfl
    obtain⟨x,hx⟩:∃x,s.aw.aA[k]?=some x:=⟨_,v0 (show k<s.aw.aA.length by omega)⟩
    have hxm:=aab hx
    have hu:=Oy h.sp.win hxm
    have hd:(s.aw.aA.take 2).drop k=x::(s.aw.aA.take 2).drop (k+1):=by
     rw[aaZ hlt];congr 1
     have:=(aaa.1 hx).2
     simpa using this
    rw[iter]
    simp only[jZ,hc,bp,hx,yA,N7 (x:=x) oaa oaa (h.b2 x hxm) oaa,cG (by_:=64) (n:=(r++[iF s.aZ s.ag s.aX x]).length) oaa (by simp;omega),WRs (k:=k),au]
    rw[ih fu (k+1) _ oaa oaa oaa (by simp;omega) hs,hd]
    simp
 rw[n8,xz]
 cases hs:eqB s.bi 1
 .have h0:iter (jZ s) FU (0,[])=some []:=by
   have:FU=(FU-1)+1:=by have:=hO;omega
   rw[this,iter]
   have hc:(bif ltB 0 (s.aw.aA.length:Int) then(bif ltB 0 2 then some (eqB s.bi 1) else some false) else some false)=some false:=by
    rw[hs];cases ltB 0 (s.aw.aA.length:Int)<;>cases ltB 0 2<;>rfl
   simp only[jZ,hc,au]
  rw[h0];rfl
 have:=key _ FU 0 [] rfl oaa (by have:=hO;simp;omega) (by simp;omega) hs
 rw[show((0:Nat):Int)=0 from rfl] at this
 rw[this];simp
def ol (m:aS) (a:Int):List Int:=(m.a8.zipIdx.filter λy=>eqB y.1.f6 a).map λy=>(y.2:Int)
def Th (m:aS):List Int:=(f4 m.a8.length).map λ(k:Nat)=>(k:Int)
def C5 (m:aS) (a t:Int):List Int:=bif eqB t 1&&ltB 0 (((ol m a).length:Nat):Int) then ol m a else bif inR t 1 4 then Th m else []
theorem QC {xs:List α} {y:α×Nat} (h:xs.zipIdx[k]?=some y):xs[k]?=some y.1/\y.2=k:=by
 rw[acy] at h
 cases hx:xs[k]? with
 |none=>rw[hx] at h;cases h
 |some x=>rw[hx] at h;simp at h;subst h;exact⟨rfl,rfl⟩
theorem Tn (h:m.a8.length<=1000) (a:Int):rL m a=some (ol m a):=by
 have hrun:=eG (step:=kN m a) m.a8.zipIdx (λi r=>((i:Int),r)) (sM 8 (λy=>eqB y.1.f6 a) (λy=>(y.2:Int))) some (by simp;omega)
  (λi y r hy hi=>by
   obtain⟨hx,e⟩:=QC hy
   have hi:i<m.a8.length:=by simpa using hi
   simp only[kN,cI hi,bp,hx,WRs (k:=i),sM,e,au]
   cases eqB y.1.f6 a
   .rfl
   cases da 8 (r++[(i:Int)]).length<;>rfl) (λr=>by simp[kN]) ([]:List Int)
 rw[tK oaa _ _ _ _ (by simp;omega)] at hrun
 rw[rL,show iter (kN m a) FU (0,[])=_ from hrun]
 rfl
theorem Zp (h:m.a8.length<=1000) (a:Int):wc m a=some (ol m a):=Tn h a
theorem Lv (n:Nat):∀(v:List Int),v.length=n->(∀k:Nat,k<n->v[k]?=some (k:Int))->v=(f4 n).map λ(k:Nat)=>(k:Int):=by
 intro v hv h
 apply ab9
 intro k
 by_cases hk:k<n
 .rw[h k hk];simp[hk]
 rw[acd oaa,acd (by simp;omega)]
theorem YJ {L:Int×List Int->Option (ct (Int×List Int) (List Int))} (n:Nat) (hn:n<=1000)
 (hL:∀(k:Nat) (v:List Int),L ((k:Int),v)=bif ltB (k:Int) (n:Int) then(abU (ix v (k:Int)) λ_=>some (.next (WR ((k:Int)+1),v.set ((k:Int)).toNat (k:Int)))) else some (.done v)):
 iter L FU (0,aaf n 0)=some ((f4 n).map λ(k:Nat)=>(k:Int)):=by
 have:Wp (iter L FU (0,aaf n 0)) (λr=>r=(f4 n).map λ(k:Nat)=>(k:Int)):=by
  refine Wp.iterF (λs=>∃i:Nat,i<=n/\s.1=(i:Int)/\s.2.length=n/\∀j:Nat,j<i->s.2[j]?=some (j:Int)) (λs=>((n:Int)-s.1).toNat) ⟨0,by omega,rfl,by simp,by omega⟩ (by simp;omega) ?_
  rintro⟨v2,v3⟩ ⟨i,hi,rfl,h3,h4⟩
  simp only at h3 h4
  rw[hL]
  refine Wp.cond (λhlt=>?_) (λhlt=>?_)
  .have hlt:=mI hlt
   refine Wp.ix oaa oaa λx hx hxi=>Wp.some ?_
   rw[bO oaa]
   refine⟨⟨i+1,by omega,by simp,by simpa using h3,λj hj=>?_⟩,by simp only;omega⟩
   simp only[abY]
   rw[abI]
   by_cases e:i=j
   .subst e;rw[if_pos rfl,if_pos oaa]
   rw[if_neg e];exact h4 j oaa
  have hlt:=pP hlt
  exact Wp.some (Lv n v3 h3 λk hk=>h4 k oaa)
 obtain⟨r,hr,rfl⟩:=this.ex
 exact hr
theorem XW (h:m.a8.length<=1000) (a t:Int):rx m a t=some (C5 m a t):=by
 have hmk:qB 8 (m.a8.length:Int) (m.a8.length:Int)=true:=ic oaa oaa
 have hr1:=YJ (L:=qU m) m.a8.length h (λk v=>by simp only[qU,acF,abY])
 have hr2:=YJ (L:=qV m) m.a8.length h (λk v=>by simp only[qV,acF,abY])
 simp only[rx,gE,Zp h,hmk,abY,hr1,hr2,C5,Th,au]
 cases h1:eqB t 1
 .cases inR t 1 4<;>rfl
 have h1:=pH h1
 subst h1
 rw[show inR 1 1 4=true from by simp[inR,leB]]
 cases ltB 0 (((ol m a).length:Nat):Int)<;>rfl
theorem XX (h:m.a8.length<=1000) (a t:Int):rP m a t=some (C5 m a t):=by
 simp only[rP,Tn h,abX,C5,Th]
 cases hb:inR t 1 4
 .have h0:iter (ij m t) FU (0,[])=some []:=by
   have:FU=(FU-1)+1:=by have:=hO;omega
   rw[this,iter]
   simp only[ij,fY,hb,abX]
   cases ltB 0 (m.a8.length:Int)<;>rfl
  rw[h0]
  have h1:eqB t 1=false:=eqB_f.2 λe=>by subst e;simp[inR,leB] at hb
  rw[h1];rfl
 have hrun:=eG (step:=ij m t) m.a8.zipIdx (λi r=>((i:Int),r)) (sM 8 (λ_=>true) (λy=>(y.2:Int))) some (by simp;omega)
  (λi y r hy hi=>by
   obtain⟨hx,e⟩:=QC hy
   have hi:i<m.a8.length:=by simpa using hi
   simp only[ij,cI hi,fY,hb,WRs (k:=i),sM,e,au]
   cases da 8 (r++[(i:Int)]).length<;>rfl) (λr=>by simp[ij]) ([]:List Int)
 rw[tK oaa _ _ _ _ (by simp;omega)] at hrun
 have hall:(m.a8.zipIdx.filter λ_=>true).map (λy:fy×Nat=>(y.2:Int))=(f4 m.a8.length).map λ(k:Nat)=>(k:Int):=by
  rw[EJ]
  refine Lv _ _ (by simp) λk hk=>?_
  simp[acy,v0 hk]
 rw[show iter (ij m t) FU (0,[])=_ from hrun,hall]
 cases eqB t 1
 .rfl
 cases ltB 0 (((ol m a).length:Nat):Int)<;>rfl
def xn (p:cN) (m:aS):cN×List Int:=
 bif ltB 0 p.fA then({p with fA:=p.fA-1},[]) else
  let t:=bif ltB p.eX 4 then p.eX+1 else 1
  (⟨p.f6,t,3⟩,C5 m p.f6 t)
structure POK (p:cN):Prop where
 a:0<=p.eX/\p.eX<=4
 w:0<=p.fA/\p.fA<=3
theorem Yv (hp:POK p) (h:m.a8.length<=1000):um p m=some (xn p m):=by
 have h1:=hp.a
 have h2:=hp.w
 simp only[um,XX h,abX,xn,bO (n:=p.fA-1) oaa,bO (n:=p.eX+1) oaa,yL]
theorem Yu (hp:POK p) (h:m.a8.length<=1000):tX p m=some (xn p m):=by
 have h1:=hp.a
 have h2:=hp.w
 simp only[tX,XW h,abX,xn,bO (n:=p.fA-1) oaa,bO (n:=p.eX+1) oaa,yL]
def mE (m:aS) (c:Int):Int:=bif eL m c then(match m.a8[c.toNat]? with|some x=>x.f6|none=>0) else 0
def LY (c:Int):aH:={dQ with bh:=7,bg:=c}
def FV (s:ah) (a:am) (m:aS):bM:=
 let r:=xn {s.gr with f6:=mE m s.bg} m
 ⟨{s with gr:=r.1},a,r.2.map LY,[]⟩
theorem H5 {L:Int×List aH->Option (ct (Int×List aH) (List aH))} (xs:List Int) (hl:xs.length<=10000)
 (hL:∀(v:Int) (r:List aH),L (v,r)=bif ltB v (xs.length:Int) then(abU (ix xs v) λx10=>bif da 88 (r++[{dQ with bh:=7,bg:=x10}]).length then(some (.next (WR (v+1),(r++[{dQ with bh:=7,bg:=x10}])))) else none) else(some (.done r))):
 iter L FU (0,[])=some (xs.map LY):=by
 have hrun:=eG (step:=L) xs (λi r=>((i:Int),r)) (sM 88 (λ_=>true) LY) some oaa
  (λi x r hx hi=>by
   simp only[hL,cI hi,bp,hx,WRs (k:=i),sM,LY,au]
   cases da 88 (r++[{dQ with bh:=7,bg:=x}]).length<;>rfl) (λr=>by simp[hL]) ([]:List aH)
 rw[tK oaa _ _ _ _ (by simp;omega)] at hrun
 refine Eq.trans (show iter L FU (0,[])=_ from hrun) (by rw[EJ,aa8])
theorem CK (h:m.a8.length<=1000):(xn p m).2.length<=1000:=by
 have hc:(ol m p.f6).length<=1000:=by
  simp only[ol,aay]
  have:=acq (λy:fy×Nat=>eqB y.1.f6 p.f6) m.a8.zipIdx
  simp at this;omega
 rw[xn];cases ltB 0 p.fA
 .simp only[cond_false,C5]
  cases eqB (bif ltB p.eX 4 then p.eX+1 else 1) 1&&ltB 0 (((ol m p.f6).length:Nat):Int)
  .cases inR (bif ltB p.eX 4 then p.eX+1 else 1) 1 4<;>simp[Th];omega
  exact hc
 simp
theorem page_s (h:SP s) (ha:nV a) (hp:POK s.gr) (hm:1<=m.a8.length/\m.a8.length<=1000):yz s a m=some (FV s a m):=by
 have hz:({cj with aU:=s,d8:=a}:bM)=⟨s,a,[],[]⟩:=rfl
 have hin:(bif eL m s.bg then(abU (ix m.a8 s.bg) λx4=>some x4.f6) else some 0)=some (mE m s.bg):=by
  rw[mE]
  cases hc:eL m s.bg
  .rfl
  obtain⟨d,_,h1,h2⟩:=AT hc
  rw[h1,h2];rfl
 have hpp:POK {s.gr with f6:=mE m s.bg}:=⟨hp.a,hp.w⟩
 have hr:=H5 (L:=Dh (xn {s.gr with f6:=mE m s.bg} m)) _ (by have:=CK (p:={s.gr with f6:=mE m s.bg}) hm.2;omega) (λv r=>rfl)
 simp only[yz,tk,rf h.ok,Ed ha.ok,fY,abX,bO (n:=(m.a8.length:Int)-1) oaa,hz]
 rw[show inR s.bg 0 ((m.a8.length:Int)-1)=eL m s.bg from rfl,hin]
 simp only[abX,Yv hpp hm.2,hr,FV]
theorem page_i (hp:POK s.gr) (hm:1<=m.a8.length/\m.a8.length<=1000):t0 s a m=some (FV s a m):=by
 have hin:(bif eL m s.bg then(abU (DM m s.bg) λr3=>some r3) else some 0)=some (mE m s.bg):=by
  rw[mE]
  cases hc:eL m s.bg
  .rfl
  obtain⟨d,_,h1,h2⟩:=AT hc
  simp only[DM,vY (show m.a8.length<=1048576 by omega),hc,h1,h2,au]
 have hpp:POK {s.gr with f6:=mE m s.bg}:=⟨hp.a,hp.w⟩
 have hr:=H5 (L:=xV (xn {s.gr with f6:=mE m s.bg} m)) _ (by have:=CK (p:={s.gr with f6:=mE m s.bg}) hm.2;omega) (λv r=>rfl)
 simp only[t0,vY (show m.a8.length<=1048576 by omega),hin,abX,Yu hpp hm.2,hr,FV]
def fr (s:ah) (a:am):am×cP:=bif leB s.gG.et s.bU.er then lc a s.bU else(a,s.bU)
def Dm (s:ah):Bool:=ltB 0 (s.aw.aA.length:Int)
def iX (s:ah):Int:=bif Dm s then lB 5 (s.dX+1) else 0
def mD (s:ah):List ax×Int:=bif Dm s&&ltB 0 s.dP then([],s.dP-1) else bif Dm s then(xz s,3) else([],s.dP)
def Ik (s:ah) (a:am) (m:aS):bM:=
 let g:=fr s a
 let t:=f7 2 {s with dX:=iX s,dP:=(mD s).2,bU:=g.2} g.1 []
 ⟨t.1,t.2.1,[],(mD s).1++t.2.2⟩
def ip (s:ah) (a:am) (m:aS):bM:=
 bif !eqB s.bi 1 then⟨s,a,[],[]⟩ else bif ltB 4 (iX s) then FV {s with dX:=iX s,bU:=(fr s a).2} (fr s a).1 m else Ik s a m
theorem A6 (h:SG s a):MOK (fr s a).1 (fr s a).2/\(fr s a).2.cS-(fr s a).2.er=s.bU.cS-s.bU.er/\(fr s a).2.aC=s.bU.aC/\(fr s a).1.eg+(fr s a).2.er=a.eg+s.bU.er/\(fr s a).1.eE=a.eE/\(fr s a).1.bz=a.bz:=by
 rw[fr]
 cases leB s.gG.et s.bU.er
 .exact⟨h.mo,rfl,rfl,rfl,rfl,rfl⟩
 obtain⟨h1,h2,h3,h4⟩:=Ih h.mo
 simp only[cond_true]
 exact⟨h1,by simp[lc],rfl,by rw[h2];simp[lc],h3,h4⟩
theorem vu (h:SP s):0<=iX s/\iX s<=5:=by
 have:=h.qu
 rw[iX];cases Dm s
 .simp
 simp only[cond_true,lB];split<;>omega
theorem vx (h:SP s):0<=(mD s).2/\(mD s).2<=3:=by
 have:=h.rt
 rw[mD];cases Dm s
 .exact this
 cases hb:ltB 0 s.dP
 .simp
 have:=mI hb
 simp;omega
theorem SG.upd (h:SG s a) {q r:Int} (hq:0<=q/\q<=5) (hr:0<=r/\r<=3):SG {s with dX:=q,dP:=r,bU:=(fr s a).2} (fr s a).1:=by
 obtain⟨h1,h2,_⟩:=A6 h
 have hp:=h.sp.pd
 exact⟨{h.sp with q:=h1.quo,qu:=hq,rt:=hr,pd:=by simp only;omega},h.b1,h.b2,h1⟩
theorem QF (s:ah):(xz s).length<=2:=by
 rw[xz];cases eqB s.bi 1<;>simp;omega
theorem Cu (s:ah):(mD s).1.length<=2:=by
 have:=QF s
 rw[mD];cases Dm s<;>cases ltB 0 s.dP<;>simp<;>omega
theorem y8:∀(k:Nat) (s:ah) (a:am) (r:List ax),(f7 k s a r).2.2.length<=r.length+k
 |0,s,a,r=>by simp[f7]
 |k+1,s,a,r=>by
  rw[f7]
  cases qC s with
  |none=>simp
  |some x=>
   simp only
   cases ltB 0 (jC (cQ s a (x.bb.length:Int)).1 (x.bb.length:Int))
   .have:=y8 k {(cQ s a (x.bb.length:Int)).1 with aw:=pC (cQ s a (x.bb.length:Int)).1.aw x.bb} (cQ s a (x.bb.length:Int)).2 (r++[iF (cQ s a (x.bb.length:Int)).1.aZ (cQ s a (x.bb.length:Int)).1.ag (cQ s a (x.bb.length:Int)).1.aX ⟨(cQ s a (x.bb.length:Int)).1.aw.bB,x.bb⟩])
    simp only[aav,acr] at this
    simp only[cond_false];omega
   simp only[cond_true];omega
theorem Yx (h:SG s a) (hm:1<=m.a8.length/\m.a8.length<=1000) (hp:POK s.gr):rT s a m=some (ip s a m):=by
 have hz:({cj with aU:=s,d8:=a}:bM)=⟨s,a,[],[]⟩:=rfl
 have hqu:=h.sp.qu
 have hrt:=h.sp.rt
 simp only[rT,yy,tk,rf h.sp.ok,Ed h.mo.acc.ok,CF h.sp.ok,(vF h.sp.ok).2 h.sp,abX,hz,ip]
 cases hs:eqB s.bi 1
 .rfl
 have hst:=pH hs
 have hq:=vu h.sp
 have hr:=vx h.sp
 have hqq:∀(k:Int->Option bM),(abU (bif ltB 0 (s.aw.aA.length:Int) then(abU (FT 5 (WR (s.dX+1))) λr9=>some r9) else some 0) k)=k (iX s):=λk=>by
  rw[iX,Dm,bO (n:=s.dX+1) oaa,LP]
  cases ltB 0 (s.aw.aA.length:Int)<;>rfl
 have hrr:∀(u:cP) (k:List ax×Int->Option bM),SG {s with dX:=iX s,dP:=3,bU:=u} (fr s a).1->
  (abU (bif ltB 0 (s.aw.aA.length:Int) then some (ltB 0 s.dP) else some false) λ(v11:Bool)=>abU (bif v11 then(some (([]:List ax),WR (s.dP-1))) else(abU (bif ltB 0 (s.aw.aA.length:Int) then(abU (n8 {s with dX:=iX s,dP:=3,bU:=u}) λr16=>some (r16,3)) else(some (([]:List ax),s.dP))) λx=>some (x.1,x.2))) k)=k ((mD s).1,(mD s).2):=λu k hu=>by
  rw[mD,Dm,bO (n:=s.dP-1) oaa,WN hu]
  cases ltB 0 (s.aw.aA.length:Int)<;>cases ltB 0 s.dP<;>rfl
 have hl:da 64 ((mD s).1++(f7 2 {s with dX:=iX s,dP:=(mD s).2,bU:=(fr s a).2} (fr s a).1 []).2.2).length=true:=by
  have h1:=Cu s
  have h2:=y8 2 {s with dX:=iX s,dP:=(mD s).2,bU:=(fr s a).2} (fr s a).1 []
  simp only[ab0] at h2
  exact cG oaa (by simp;omega)
 have hu:=h.upd hq (show(0:Int)<=3/\(3:Int)<=3 by omega)
 have hv:=h.upd hq hr
 have hw:=h.upd hq h.sp.rt
 have hpp:POK ({s with dX:=iX s,bU:=(fr s a).2}:ah).gr:=hp
 have e1:=page_s (s:={s with dX:=iX s,bU:=(fr s a).2}) hw.sp hw.mo.acc hpp hm
 have e2:=R7 hv hst
 rw[fr] at hu e1 e2 hl
 simp only[au]
 rw[Ik,fr]
 cases hg:leB s.gG.et s.bU.er
 .rw[hg] at hu e1 e2 hl
  simp only[cond_false] at hu e1 e2 hl ⊢
  have hu':=hrr s.bU
  rw[fr,hg] at hu'
  rw[hqq]
  cases ltB 4 (iX s)
  .simp only[cond_false]
   rw[hu' _ hu]
   simp only[e2,hl,au]
  simp only[e1,au]
 rw[hg] at hu e1 e2 hl
 simp only[cond_true] at hu e1 e2 hl ⊢
 have hu':=hrr (lc a s.bU).2
 rw[fr,hg] at hu'
 simp only[Vw h.mo,abX]
 rw[hqq]
 cases ltB 4 (iX s)
 .simp only[cond_false]
  rw[hu' _ hu]
  simp only[e2,hl,au]
 simp only[e1,au]
theorem Rh (x y:Int):lB x y=lB y x:=by unfold lB;split<;>split<;>omega
theorem Yw (h:SG s a) (hm:1<=m.a8.length/\m.a8.length<=1000) (hp:POK s.gr):rA s a m=some (ip s a m):=by
 have hz:({cj with aU:=s,d8:=a}:bM)=⟨s,a,[],[]⟩:=rfl
 have hqu:=h.sp.qu
 have hrt:=h.sp.rt
 simp only[rA,wK h.sp.ok,xy h.mo.acc.ok,CE h.sp.ok,(vF h.sp.ok).2 h.sp,hz,ip,au]
 cases hs:eqB s.bi 1
 .rfl
 have hst:=pH hs
 have hq:=vu h.sp
 have hr:=vx h.sp
 have hu:=h.upd hq (show(0:Int)<=3/\(3:Int)<=3 by omega)
 have hv:=h.upd hq hr
 have hgr:(bif leB s.gG.et s.bU.er then(abU (mj a s.bU) λr14=>some ({s with bU:=r14.2},r14.1)) else some (s,a))=some ({s with bU:=(fr s a).2},(fr s a).1):=by
  rw[fr,Ma h.mo];cases leB s.gG.et s.bU.er<;>rfl
 have hqq:(bif ltB 0 (s.aw.aA.length:Int) then(abU (Q4 (WR (s.dX+1)) 5) λr9=>some r9) else some 0)=some (iX s):=by
  rw[iX,Dm,bO (n:=s.dX+1) oaa,UJ,Rh]
  cases ltB 0 (s.aw.aA.length:Int)<;>rfl
 have hl:da 64 ((mD s).1++(f7 2 {s with dX:=iX s,dP:=(mD s).2,bU:=(fr s a).2} (fr s a).1 []).2.2).length=true:=by
  have h1:=Cu s
  have h2:=y8 2 {s with dX:=iX s,dP:=(mD s).2,bU:=(fr s a).2} (fr s a).1 []
  simp only[ab0] at h2
  exact cG oaa (by simp;omega)
 have hpp:POK ({s with dX:=iX s,bU:=(fr s a).2}:ah).gr:=hp
 have e1:=page_i (s:={s with dX:=iX s,bU:=(fr s a).2}) (a:=(fr s a).1) hpp hm
 have e2:=R6 hv hst
 simp only[hgr,hqq,au]
 cases ltB 4 (iX s)
 .simp only[cond_false,Ik]
  have hrr2:∀(k:List ax×Int->Option bM),(abU (bif ltB 0 (s.aw.aA.length:Int) then some (ltB 0 s.dP) else some false) λ(v11:Bool)=>abU (bif v11 then(some (([]:List ax),WR (s.dP-1))) else(abU (bif ltB 0 (s.aw.aA.length:Int) then(abU (qs {s with dX:=iX s,dP:=3,bU:=(fr s a).2}) λr16=>some (r16,3)) else(some (([]:List ax),s.dP))) λx=>some (x.1,x.2))) k)=k (mD s):=λk=>by
   rw[mD,Dm,bO (n:=s.dP-1) oaa,WM hu]
   cases ltB 0 (s.aw.aA.length:Int)<;>cases ltB 0 s.dP<;>rfl
  rw[hrr2]
  simp only[e2,hl,au]
 simp only[e1,au]
 rfl
structure RP (r:aP):Prop where
 ok:fw r
 v:pz r=true
 b1:∀x∈r.aK,okB x.bb
 b2:∀p∈r.be,okB p.bb
structure DP (d:aJ):Prop where
 card:tx d.dq=true
 st:0<=d.bi/\d.bi<=3
 ce:0<=d.bg/\d.bg<=5
 gn:0<=d.ag/\d.ag<=999999
 ep:0<=d.aX/\d.aX<=999999
 rk:0<=d.aZ/\d.aZ<=2147483646
 k:2<=d.bi->nU d.aZ=true
 wt:0<=d.fA/\d.fA<=3
 rc:RP d.bY
theorem DP.ok {d:aJ} (h:DP d):eu d:=h.rc.ok
theorem DP.v {d:aJ} (h:DP d):lA d=true:=by
 have:=h.st
 simp only[lA,hV,bQ]
 refine⟨h.card,h.st,h.ce,h.gn,h.ep,h.rk,?_,h.wt,h.rc.v⟩
 cases e:inR d.bi 2 3
 .rfl
 rw[bQ] at e;rw[h.k e.1];rfl
theorem DP.of {d:aJ} (h:lA d=true) (ok:eu d) (b1:∀x∈d.bY.aK,okB x.bb) (b2:∀p∈d.bY.be,okB p.bb):DP d:=by
 simp only[lA,hV,bQ] at h
 obtain⟨h1,h2,h3,h4,h5,h6,h7,h8,h9⟩:=h
 refine⟨h1,h2,h3,h4,h5,h6,λe=>?_,h8,⟨ok,h9,b1,b2⟩⟩
 rw[bQ.2 ⟨e,h2.2⟩] at h7;simpa using h7
theorem AW {d:aJ} (h:DP d):DP (qo d).bm:=by
 have hw:=h.wt
 rw[qo]
 cases hb:ltB 0 d.fA
 .cases eqB d.bi 1
  .cases eqB d.bi 2&&!d.cy
   .exact h
   exact {h with wt:=⟨by simp,by simp⟩}
  exact {h with wt:=⟨by simp,by simp⟩}
 have:=mI hb
 exact {h with wt:=⟨by simp only[cond_true];omega,by simp only[cond_true];omega⟩}
theorem Zx {d:aJ} (h:DP d):DP (dOn d).bm:=by
 rw[dOn]
 cases eqB d.bi 0
 .exact h
 exact {h with st:=⟨by simp,by simp⟩,wt:=⟨by simp,by simp⟩,k:=λe=>by simp at e}
theorem Jb {d:aJ} (h:DP d):DP (xp d).bm:={h with wt:=⟨by simp[xp],by simp[xp]⟩}
theorem K7 {d:aJ} (h:DP d) (c:Int):DP (sH d c).bm:=by
 have he:=h.ep
 rw[sH]
 cases h1:eqB c d.bg||!inR c 0 5
 .simp only[aaq,ab8] at h1
  have hc:=bQ.1 h1.2
  cases h2:eqB d.bi 2&&ltB d.aX 999999
  .exact {h with ce:=hc}
  rw[hV] at h2
  have:=mI h2.2
  exact Jb {h with ce:=hc,ep:=⟨by simp only;omega,by simp only;omega⟩}
 exact h
theorem TH {d:aJ} (h:DP d):DP (u6 d):=by
 rw[u6]
 cases e:eqB d.bi 2
 .exact h
 have e:=pH e
 exact {h with st:=⟨by simp,by simp⟩,k:=λ_=>h.k (by omega)}
theorem Qx {k r q:Int} (h0:0<=q) (h1:q<=999999):1<=(vec k r q).fo/\(vec k r q).fo<=2147483646:=by
 rw[vec,bQ.2 ⟨h0,h1⟩];exact XD _ _
theorem yZ {m:aH} (h:lS m=true):(1<=m.bh/\m.bh<=8)/\(0<=m.bg/\m.bg<=5)/\(0<=m.ag/\m.ag<=999999)/\(0<=m.aX/\m.aX<=999999)/\0<=m.bW/\m.bW<=1000000000000:=by
 simp only[lS,hV,bQ] at h;exact h
theorem W1 {d:aJ} (h:DP d) {m:aH} (hm:lS m=true) (h1:d.bi=1):DP (GJ d m).bm:=by
 obtain⟨_,_,hg,_⟩:=yZ hm
 have hu:=Oz d.dq.fo m.cm.eC m.cm.gm
 have hk:=Qx (k:=d.dq.fo) (r:=m.cm.eC) hu.1 hu.2
 rw[GJ]
 cases eqB (ka d.dq.fo d.dq.dv m.cm) 0
 .exact h
 refine {h with card:=?_,gn:=hg,rk:=⟨by simp only[cond_true];omega,by simp only[cond_true];omega⟩,k:=λe=>by simp only[cond_true] at e;omega}
 have hc:=h.card
 simp only[tx,hV] at hc ⊢
 exact⟨hc.1,hc.2.1,bQ.2 hu⟩
theorem W5 {d:aJ} (h:DP d) (m:aH):DP (z2 d m).bm:=by
 have he:=h.ep
 rw[z2]
 cases h1:!lS m||(!eqB m.bg d.bg||eqB d.bi 0)
 .have hm:lS m=true:=by revert h1;cases lS m<;>simp
  obtain⟨_,_,hg,hep,_⟩:=yZ hm
  simp only[cond_false]
  cases h2:eqB m.bh 2&&eqB d.bi 1
  .simp only[cond_false]
   cases h4:eqB m.bh 4&&(eqB d.bi 1&&(nU d.aZ&&(eqB m.ag d.ag&&tw d.aZ m)))
   .simp only[cond_false]
    cases h6:eqB m.bh 6&&(eqB d.bi 2&&(eqB m.ag d.ag&&(eqB m.aX d.aX&&tw d.aZ m)))
    .simp only[cond_false]
     cases h7:eqB m.bh 7&&(eqB d.bi 3&&ltB d.aX 999999)
     .simp only[cond_false]
      cases h8:eqB m.bh 7&&eqB d.bi 2
      .exact h
      exact Jb h
     simp only[hV] at h7
     have h3:=pH h7.2.1
     have:=mI h7.2.2
     exact Jb {h with st:=⟨by simp,by simp⟩,ep:=⟨by simp only;omega,by simp only;omega⟩,k:=λ_=>h.k (by omega)}
    exact {h with}
   simp only[hV] at h4
   exact {h with st:=⟨by simp,by simp⟩,ep:=hep,k:=λ_=>h4.2.2.1}
  rw[hV] at h2
  exact W1 h hm (pH h2.2)
 exact h
theorem EB:∀(xs:List ae) (n:Int) (dl:List bV),∃t d,xs=t++d/\sI xs n dl=⟨n+t.length,d,dl++t.map λx=>⟨x.bb⟩⟩/\(∀(k:Nat) (x:ae),t[k]?=some x->x.c8=n+k)/\((∃y ys,d=y::ys/\(y.c8≠n+t.length\/24<=dl.length+t.length))\/d=[])/\(t≠[]->dl.length+t.length<=24)
 |[],n,dl=>⟨[],[],rfl,by simp[sI],by simp,.inr rfl,by simp⟩
 |x::xs,n,dl=>by
  rw[sI]
  by_cases h:x.c8=n/\dl.length<24
  .rw[if_pos h]
   obtain⟨t,d,e1,e2,e3,e4,e5⟩:=EB xs (n+1) (dl++[⟨x.bb⟩])
   refine⟨x::t,d,by rw[e1];rfl,?_,λk y hy=>?_,?_,λ_=>?_⟩
   .rw[e2];simp;omega
   .cases k with
    |zero=>simp at hy;subst hy;simp;exact h.1
    |succ k=>have:=e3 k y (by simpa using hy);rw[this];omega
   .rcases e4 with⟨y,ys,e,h4⟩|e
    .left;refine⟨y,ys,e,?_⟩
     simp only[aav,acr,aai,ab0] at h4 ⊢
     rcases h4 with h4|h4
     .left;omega
     right;omega
    exact .inr e
   simp only[aai]
   by_cases ht:t=[]
   .subst ht;simp;omega
   have:=e5 ht;simp at this;omega
  rw[if_neg h]
  refine⟨[],x::xs,rfl,by simp,by simp,.inl ⟨x,xs,rfl,?_⟩,by simp⟩
  simp only[ab0]
  by_cases hx:x.c8=n
  .right;have:¬dl.length<24:=λhl=>h ⟨hx,hl⟩;omega
  left;omega
structure RcV (r:aP):Prop where
 n:r.bB=(r.be.length:Int)+1
 l:r.be.length<=24
 d:∀p∈r.be,p.bb.length<=60
 pl:r.aK.length<=8
 pr:∀x∈r.aK,r.bB+1<=x.c8/\x.c8<=r.bB+7/\x.bb.length<=60
 po:r.aK.Pairwise λx y=>x.c8<y.c8
theorem N1:pz r=true↔RcV r:=by
 constructor
 .intro h
  have hl:=sm h
  simp only[pz,hV,AE,aag,tM,eM] at h
  obtain⟨h1,h2,h3,h4,h5⟩:=h
  have hp:∀(k:Nat) (x:ae),r.aK[k]?=some x->(r.bB+1<=x.c8/\x.c8<=r.bB+7)/\jX ae.c8 r.aK k x=true/\x.bb.length<=60:=λk x hx=>by
   have:=h5 k x hx
   simp only[yf,hV,bQ,tM] at this
   rw[bO (n:=r.bB+1) oaa,bO (n:=r.bB+8) oaa,bO (n:=r.bB+8-1) oaa] at this
   exact⟨by omega,this.2⟩
  refine⟨hl.1,hl.2.1,h3,hl.2.2,λx hx=>?_,Hr λk x hx=>(hp k x hx).2.1⟩
  obtain⟨k,hk⟩:=aap hx
  have:=hp k x hk
  exact⟨this.1.1,this.1.2,this.2.2⟩
 rintro⟨h1,h2,h3,h4,h5,h6⟩
 simp only[pz,hV,AE,aag,tM,eM]
 refine⟨eqB_t.2 (by rw[bO oaa];exact h1),leB_t.2 oaa,h3,leB_t.2 oaa,λk x hx=>?_⟩
 have:=h5 x (aab hx)
 simp only[yf,hV,bQ,tM]
 rw[bO (n:=r.bB+1) oaa,bO (n:=r.bB+8) oaa,bO (n:=r.bB+8-1) oaa]
 exact⟨by omega,DT h6 hx,this.2.2⟩
theorem OO {α:Type} {key:α->Int}:∀{xs:List α} {a b:Int},(xs.Pairwise λx y=>key x<key y)->(∀x∈xs,a<=key x/\key x<=b)->(xs.length:Int)<=max 0 (b-a+1)
 |[],a,b,_,_=>by simp;omega
 |x::xs,a,b,h,hr=>by
  have hx:=hr x (by simp)
  have ih:=OO (xs:=xs) (a:=key x+1) (b:=b) (ab2.1 h).2 λy hy=>⟨by have:=(ab2.1 h).1 y hy;omega,(hr y (by simp[hy])).2⟩
  simp only[aai];omega
theorem YN {x:ae}:∀{xs:List ae},(xs.Pairwise λa b=>a.c8<b.c8)->∀y∈xs.dropWhile (before x.c8),x.c8<=y.c8
 |[],_,y,hy=>by simp at hy
 |z::xs,h,y,hy=>by
  rw[acG] at hy
  cases hb:before x.c8 z<;>rw[hb] at hy
  .have hz:=pP hb
   rcases aae.1 hy with e|hy
   .subst e;exact hz
   have:=(ab2.1 h).1 y hy;omega
  exact YN (ab2.1 h).2 y hy
theorem Wa {α:Type} (p:α->Bool):∀(xs:List α) (y:α),y∈xs.takeWhile p->p y=true
 |[],y,h=>by simp at h
 |x::xs,y,h=>by
  rw[ach] at h
  cases hp:p x<;>rw[hp] at h
  .simp at h
  rcases aae.1 h with e|h
  .subst e;exact hp
  exact Wa p xs y h
theorem tw_lt {q:Int} {xs:List ae}:∀y∈xs.takeWhile (before q),y.c8<q:=λy hy=>mI (show ltB y.c8 q=true from Wa (before q) xs y hy)
theorem Us {xs:List ae} (h:xs.Pairwise λa b=>a.c8<b.c8) (hn:∀y∈xs,y.c8≠x.c8):(qw x xs).Pairwise λa b=>a.c8<b.c8:=by
 have e:=acl (p:=before x.c8) (l:=xs)
 rw[<-e,ab3] at h
 obtain⟨h1,h2,h3⟩:=h
 rw[qw,aaR,ab3]
 refine⟨h1,ab2.2 ⟨λy hy=>?_,h2⟩,λa ha b hb=>?_⟩
 .have hm:y∈xs:=acp _ hy
  have:=hn y hm
  have hge:x.c8<=y.c8:=by
   have hs:xs.Pairwise λa b=>a.c8<b.c8:=by rw[<-e,ab3];exact⟨h1,h2,h3⟩
   exact YN hs y hy
  omega
 rcases aac.1 hb with hb|hb
 .simp at hb;subst hb;exact tw_lt a ha
 exact h3 a ha b hb
theorem Bi {y:ae} {xs:List ae}:y∈qw x xs↔y=x\/y∈xs:=by
 rw[qw]
 constructor
 .intro h
  simp only[aac,ab4] at h
  rcases h with(h|h)|h
  .exact .inr (acE _ h)
  .exact .inl h
  exact .inr (acp _ h)
 rintro(h|h)
 .simp[h]
 rw[<-acl (p:=before x.c8) (l:=xs)] at h
 simp only[aac,ab4] at h ⊢
 rcases h with h|h
 .exact .inl (.inl h)
 exact .inr h
theorem Gw (h:RcV r) (hl:xY r x=false):
 ∃t d,qw x r.aK=t++d/\(∀(k:Nat) (y:ae),t[k]?=some y->y.c8=r.bB+k)/\(oc r x).bB=r.bB+t.length/\(oc r x).be=r.be++t.map (λy=>⟨y.bb⟩)/\RcV (oc r x)/\
  ((oc r x).aK=d\/(oc r x).aK=[])/\r.be.length+t.length<=24/\(x.c8=r.bB->t≠[]):=by
 obtain⟨t,d,e1,e2,e3,e4,e5⟩:=EB (qw x r.aK) r.bB r.be
 have hl2:=hl
 simp only[xY,aaq,ab8] at hl
 obtain⟨l1,l2,l3,l4,l5⟩:=hl
 have l2:=pP l2
 rw[bQ] at l3
 have l5:=xq l5
 have hn:∀y∈r.aK,y.c8≠x.c8:=λy hy=>by
  rw[abk] at l4
  have:=l4 y hy
  simpa [eqB] using this
 have hasc:=Us h.po hn
 have hrng:∀y∈qw x r.aK,r.bB<=y.c8/\y.c8<=r.bB+7/\y.bb.length<=60:=λy hy=>by
  rcases Bi.1 hy with rfl|hy
  .exact⟨l3.1,l3.2,by omega⟩
  have:=h.pr y hy;exact⟨by omega,by omega,this.2.2⟩
 have hlen:=OO (key:=ae.c8) hasc (a:=r.bB) (b:=r.bB+7) λy hy=>⟨(hrng y hy).1,(hrng y hy).2.1⟩
 have htl:r.be.length+t.length<=24:=by
  by_cases ht:t=[]
  .subst ht;have:=h.l;simp;omega
  exact e5 ht
 have hd:∀y∈d,r.bB+t.length<=y.c8:=λy hy=>by
  by_cases ht:t=[]
  .subst ht
   have:=(hrng y (by rw[e1];simp[hy])).1
   simp;omega
  obtain⟨k,hk⟩:∃k,t.length=k+1:=⟨t.length-1,by have:=List.length_pos_iff.2 ht;omega⟩
  obtain⟨z,hz⟩:∃z,t[k]?=some z:=⟨_,v0 (show k<t.length by omega)⟩
  have:=e3 k z hz
  rw[e1,ab3] at hasc
  have:=hasc.2.2 z (aab hz) y hy
  omega
 have hdl:(r.be++t.map λy=>(⟨y.bb⟩:bV)).length=r.be.length+t.length:=by simp
 have hdata:∀p∈r.be++t.map λy=>(⟨y.bb⟩:bV),p.bb.length<=60:=λp hp=>by
  rcases aac.1 hp with hp|hp
  .exact h.d p hp
  obtain⟨y,hy,rfl⟩:=aa7.1 hp
  exact(hrng y (by rw[e1];simp[hy])).2.2
 have hnx:=h.n
 have hsome:x.c8=r.bB->t≠[]:=λe ht=>by
  subst ht
  simp only[aa8] at e1
  rcases e4 with⟨y,ys,e,h4⟩|e
  .simp only[ab0] at h4
   have hy:y.c8<=x.c8:=by
    have hx:x∈d:=by rw[<-e1];exact Bi.2 (.inl rfl)
    rw[e] at hx
    rcases aae.1 hx with e'|hx
    .rw[e'];omega
    rw[e1,e] at hasc
    have:=(ab2.1 hasc).1 x hx
    omega
   have:=(hrng y (by rw[e1,e];simp)).1
   rcases h4 with h4|h4<;>omega
  have:(qw x r.aK).length=0:=by rw[e1,e];rfl
  rw[oK] at this;omega
 refine⟨t,d,e1,e3,?_⟩
 rw[oc,hl2]
 simp only[cond_false,e2,hdl]
 cases h24:leB 24 ((r.be.length+t.length:Nat):Int)
 .have h24:=xq h24
  simp only[cond_false]
  refine⟨trivial,trivial,⟨by simp only[hdl];omega,by simp only[hdl];omega,hdata,?_,λy hy=>?_,?_⟩,.inl trivial,htl,hsome⟩
  .have:t.length+d.length=(qw x r.aK).length:=by rw[e1];simp
   simp only;omega
  .have h1:=hrng y (by rw[e1];simp[hy])
   have h2:=hd y hy
   refine⟨?_,by simp only;omega,h1.2.2⟩
   simp only
   rcases e4 with⟨z,zs,e,h4⟩|e
   .have hz:=hd z (by rw[e];simp)
    have hzn:z.c8≠r.bB+t.length:=by rcases h4 with h4|h4;exact h4;omega
    rw[e] at hy
    rcases aae.1 hy with e'|hy'
    .rw[e'];omega
    rw[e1,e,ab3] at hasc
    have:=(ab2.1 hasc.2.1).1 y hy'
    omega
   rw[e] at hy;simp at hy
  rw[e1,ab3] at hasc
  exact hasc.2.1
 have h24:=zt h24
 simp only[cond_true]
 exact⟨trivial,trivial,⟨by simp only[hdl];omega,by simp only[hdl];omega,hdata,by simp,by simp,.nil⟩,.inr trivial,htl,hsome⟩
theorem V3 (h:RP r) (hx:okB x.bb):RP (oc r x):=by
 cases hl:xY r x
 .have hv:=N1.1 h.v
  obtain⟨t,d,e1,e3,e4,e5,e6,e7,e8,e9⟩:=Gw hv hl
  have hb:∀y∈t++d,okB y.bb:=λy hy=>by
   rw[<-e1] at hy
   rcases Bi.1 hy with rfl|hy
   .exact hx
   exact h.b1 y hy
  refine⟨MD h.ok x,N1.2 e6,λy hy=>?_,λp hp=>?_⟩
  .rcases e7 with e|e<;>rw[e] at hy
   .exact hb y (by simp[hy])
   simp at hy
  rw[e5] at hp
  rcases aac.1 hp with hp|hp
  .exact h.b2 p hp
  obtain⟨y,hy,rfl⟩:=aa7.1 hp
  exact hb y (by simp[hy])
 rw[oc,hl];exact h
theorem U8 (root g e:Int) (x:ax):okB (rm root g e x).1.bb:=by
 rw[rm];split
 .exact W8 _ _
 intro y hy;simp[bT] at hy
theorem W3 {d:aJ} (h:DP d) (x:ax):DP (z1 d x).bm:=by
 simp only[z1]
 cases eqB d.bi 2&&(rm d.aZ d.ag d.aX x).2
 .exact h
 exact {h with rc:=V3 h.rc (U8 _ _ _ _)}
theorem Wt:kz ed=true:=by decide+kernel
theorem HM {k:Int}:∀{xs:List ae} {f:Int},(∀(i:Nat) (x:ae),xs[i]?=some x->x.c8=f+i)->(xs.filter λx=>leB k x.c8)=xs.drop (k-f).toNat
 |[],f,_=>by simp
 |x::xs,f,h=>by
  have hx:x.c8=f:=by have:=h 0 x rfl;simpa using this
  have ih:=HM (k:=k) (xs:=xs) (f:=f+1) λi y hy=>by have:=h (i+1) y (by simpa using hy);rw[this];omega
  rw[acm,hx]
  by_cases hk:k<=f
  .rw[leB_t.2 hk,if_pos rfl,ih,show(k-f).toNat=0 by omega,show(k-(f+1)).toNat=0 by omega];rfl
  rw[leB_f.2 oaa,if_neg (by simp),ih,show(k-f).toNat=(k-(f+1)).toNat+1 by omega];rfl
theorem Hq (h:WOK w) {k:Int} (hk:ltB w.bB k=false):kZ w k=⟨w.bB,w.aA.drop (k-(w.bB-w.aA.length)).toNat⟩:=by
 rw[kZ,hk,HM (f:=w.bB-w.aA.length) λi x hx=>(h.u i x hx).1];rfl
theorem KL (h:WOK w) (k:Int):WOK (kZ w k):=by
 cases hk:ltB w.bB k
 .have hl:=h.l
  have hf:=h.f
  have hn:=h.n
  rw[Hq h hk]
  generalize (k-(w.bB-w.aA.length)).toNat=m
  refine⟨hn,by simp;omega,by simp;omega,λi x hx=>?_⟩
  simp only at hx ⊢
  rw[List.getElem?_drop] at hx
  have hi:=(aaa.1 hx).1
  have:=h.u _ x hx
  rw[List.length_drop]
  omega
 rw[kZ,hk];exact h
theorem AI (w:a9) (k:Int):∀x∈(kZ w k).aA,x∈w.aA:=λx hx=>by
 rw[kZ] at hx;revert hx
 cases ltB w.bB k
 .exact λhx=>(abg.1 hx).1
 exact id
theorem Tf (h:WOK w) (k:Int):0<=gh (kZ w k).aA/\gh (kZ w k).aA<=gh w.aA:=by
 have h1:=wY λx hx=>h.d x (AI w k x hx)
 refine⟨h1.1,?_⟩
 cases hk:ltB w.bB k
 .have:=IL h hk
  have h2:=wY (xs:=w.aA.filter λx=>ltB x.c8 k) λx hx=>h.d x (abg.1 hx).1
  omega
 rw[kZ,hk];exact Int.le_refl _
theorem Ng {n:Int} (h:0<=n/\n<=q.cS-q.er):tJ q n={q with er:=q.er+n}:=by rw[tJ,bQ.2 h];rfl
theorem Ii (h:SG s a) (k:Int):SG (lT s k) a/\(lT s k).bU={s.bU with er:=s.bU.er+(gh s.aw.aA-gh (kZ s.aw k).aA)}:=by
 have hs:=Tf h.sp.win k
 have hp:=h.sp.pd
 have hq:=h.sp.q
 have e:(lT s k).bU={s.bU with er:=s.bU.er+(gh s.aw.aA-gh (kZ s.aw k).aA)}:=Ng ⟨by omega,by omega⟩
 have hu:=hq.u
 have hg:=hq.g
 have hq':QOK (lT s k).bU:=by rw[e];exact⟨hq.i,by simp only;omega,by simp only;omega,hq.m⟩
 refine⟨⟨{h.sp with ok:=⟨h.sp.ok.1,h.sp.ok.2.1,(KL h.sp.win k).ok⟩,win:=KL h.sp.win k,q:=hq',qu:=⟨by simp[lT],by simp[lT]⟩,nx:=?_,un:=λx hx=>h.sp.un x (AI _ _ x hx),pd:=?_},h.b1,λx hx=>h.b2 x (AI _ _ x hx),⟨h.mo.acc,hq',?_⟩⟩,e⟩
 .have:(lT s k).aw.bB=s.aw.bB:=by simp only[lT,kZ];cases ltB s.aw.bB k<;>rfl
  rw[this];exact h.sp.nx
 .rw[e];simp only[lT];omega
 rw[e];exact h.mo.res
theorem Yb (h:SG s a) (m:aH):SG (G7 s m).aU a:=by
 have hr:=JW h.sp.rcd
 simp only[G7]
 cases he:eqB s.bE.c8 999999
 .have he:=Ji he
  have hk:=Qx (k:=s.bE.fo) (r:=Et s.bE.ID (s.bE.c8+1)) (q:=s.bE.c8+1) oaa oaa
  refine⟨{h.sp with rcd:=?_,k2:=λ_=>?_,ps:=⟨by simp only[cond_false];omega,by simp only[cond_false];omega⟩},h.b1,h.b2,h.mo⟩
  .have hc:=h.sp.rcd
   simp only[tF,hV] at hc
   simp only[cond_false,tF,hV]
   exact⟨hc.1,hc.2.1,bQ.2 oaa⟩
  exact bQ.2 hk
 exact h
theorem Ya (h:SG s a) {c:Int} (hc:0<=c/\c<=5) (hp:0<s.bL) (he:s.aX<999999):SG (xr s c) a:=by
 have hk:=h.sp.k2 hp
 have hkr:=bQ.1 hk
 have hep:=h.sp.ep
 exact⟨{h.sp with page:=Wt,st:=⟨by simp[xr],by simp[xr]⟩,k1:=λ_=>hk,k2:=λe=>by simp[xr] at e,ps:=⟨by simp[xr],by simp[xr]⟩,gn:=h.sp.ps,ep:=⟨by simp only[xr];omega,by simp only[xr];omega⟩,rk:=⟨by simp only[xr];omega,by simp only[xr];omega⟩,ce:=hc,qu:=⟨by simp[xr],by simp[xr]⟩},h.b1,h.b2,h.mo⟩
theorem VH (h:SG s a) {m:aH} (hm:lS m=true):SG (zP s m).aU a:=by
 obtain⟨_,hc,_⟩:=yZ hm
 rw[zP]
 cases hb:leB s.bL 0||(!eqB m.ag s.bL||(!eqB m.bW s.aK.yI||leB 999999 s.aX))
 .simp only[aaq] at hb
  exact Ya h hc (xq hb.1) (xq hb.2.2.2)
 exact h
theorem VG (h:SG s a) {m:aH} (hm:lS m=true):SG (zN s m).aU a:=by
 obtain⟨_,hc,_,he,_⟩:=yZ hm
 rw[zN]
 cases !sW s m||(ltB m.aX s.aX||(eqB m.aX s.aX&&!eqB m.bg s.bg))
 .exact⟨{h.sp with page:=Wt,ep:=he,ce:=hc,qu:=⟨by simp[wD],by simp[wD]⟩,rt:=⟨by simp[wD],by simp[wD]⟩},h.b1,h.b2,h.mo⟩
 exact h
theorem X9 (h:SG s a) (m:aH):SG (G6 s m).aU a:=by
 rw[G6]
 cases !sW s m||ltB s.aw.bB m.bW
 .exact(Ii h m.bW).1
 exact h
theorem sUp_SG (h:SG s a) (m:aH):SG (sUp s m).aU a:=by
 rw[sUp]
 cases hm:lS m
 .exact h
 cases eqB m.bh 1
 .cases eqB m.bh 3
  .cases eqB m.bh 5
   .cases eqB m.bh 8
    .exact h
    exact X9 h m
   exact VG h hm
  exact VH h hm
 exact Yb h m
theorem VC (h:SG s a):SG (lV s) a:=
 ⟨{h.sp with page:=Wt,k2:=λe=>by simp[lV] at e,ps:=⟨by simp[lV],by simp[lV]⟩,qu:=⟨by simp[lV],by simp[lV]⟩,rt:=⟨by simp[lV],by simp[lV]⟩},h.b1,h.b2,h.mo⟩
theorem Yf (h:SG s a) {b:List Int} (hb:okB b):SG (ta s b).1 a:=by
 rw[ta]
 cases h1:leB 24 (s.aG.length:Int)||ltB 60 (b.length:Int)
 .simp only[aaq] at h1
  have h2:=xq h1.1
  have h3:=pP h1.2
  have hnx:=h.sp.nx
  refine⟨{h.sp with ok:=⟨h.sp.ok.1,⟨by simp;omega,λp hp=>?_⟩,h.sp.ok.2.2⟩,sl:=by simp;omega,sd:=λp hp=>?_,nx:=by simp;omega,un:=λx hx=>?_},λp hp=>?_,h.b2,h.mo⟩
  .rcases aac.1 hp with hp|hp
   .exact h.sp.ok.2.1.2 p hp
   simp at hp;subst hp;exact⟨by simp only;omega,λ_ _=>trivial⟩
  .rcases aac.1 hp with hp|hp
   .exact h.sp.sd p hp
   simp at hp;subst hp;simp only;omega
  .have hu:=h.sp.un x hx
   have hs:=Oy h.sp.win hx
   simp only[AC,cond_false] at hu ⊢
   rw[aal oaa]
   exact hu
  rcases aac.1 hp with hp|hp
  .exact h.b1 p hp
  simp at hp;subst hp;exact hb
 exact h
theorem V6 (ha:0<=p.f6/\p.f6<=2) (hp:POK p) (m:aS):kz (xn p m).1=true:=by
 have h1:=hp.a
 have h2:=hp.w
 rw[xn]
 simp only[kz,hV,bQ]
 cases hb:ltB 0 p.fA
 .simp only[cond_false]
  refine⟨ha,?_,by omega⟩
  cases hc:ltB p.eX 4
  .simp
  have:=mI hc
  simp only[cond_true];omega
 have:=mI hb
 simp only[cond_true];omega
theorem Fw (h:kz p=true):POK p:=by
 simp only[kz,hV,bQ] at h;exact⟨h.2.1,h.2.2⟩
theorem QG (h:pW m=true) (c:Int):0<=mE m c/\mE m c<=2:=by
 rw[mE]
 cases hc:eL m c
 .simp
 obtain⟨d,_,_,h2⟩:=AT hc
 simp only[pW,hV,eM] at h
 have:=h.2 _ d h2
 simp only[yE,hV,bQ] at this
 rw[h2];exact this.1
theorem F8 (h:SG s a) (hm:pW m=true):SG (ip s a m).aU (ip s a m).d8:=by
 rw[ip]
 cases eqB s.bi 1
 .exact h
 simp only[au]
 have hq:=vu h.sp
 cases ltB 4 (iX s)
 .exact Mm 2 _ _ _ (h.upd hq (vx h.sp))
 have h1:=h.upd hq h.sp.rt
 have hp:=Fw h.sp.page
 exact⟨{h1.sp with page:=V6 (p:={s.gr with f6:=mE m s.bg}) (QG hm _) ⟨hp.a,hp.w⟩ m},h1.b1,h1.b2,h1.mo⟩
structure FP (nd nc:Nat) (f:bS):Prop where
 d:0<=f.bm/\f.bm<nd
 c:0<=f.bg/\f.bg<nc
 b:okB f.cA.bC.bb
 ok:kX f
structure MP (nc:Nat) (i:Nat) (d:aJ) (s:ah) (a:am):Prop where
 dp:DP d
 dc:d.bg<nc
 sg:SG s a
 sc:s.bg<nc
 si:s.bU.aC=i
 ids:Fa d s=true
structure NP (B:Int) (n:ab):Prop where
 map:pW n.ei=true
 mok:gz n.ei
 core:kh n.ev=true
 up:n.ev.fB≠0
 ld:n.av.length<=4
 ls:n.aF.length=n.av.length
 la:n.bk.length=n.av.length
 m:∀(i:Nat) d s a,n.av[i]?=some d->n.aF[i]?=some s->n.bk[i]?=some a->MP n.ei.a8.length i d s a
 fl:n.aT.length<=200
 fs:∀f∈n.aT,FP n.av.length n.ei.a8.length f
 dn:inR n.dy 0 (WR ((md .i64 1 (n.ei.a8.length:Int))-1))=true
 nw:0<=n.qO/\n.qO<=100000
 lo:0<=n.ki/\n.ki<=B
theorem mr (h:pW m=true):1<=m.a8.length/\m.a8.length<=6:=by
 simp only[pW,hV,bQ] at h;omega
theorem NP.at_ (h:NP B n) {i:Nat} (hi:i<n.av.length):∃d s a,n.av[i]?=some d/\n.aF[i]?=some s/\n.bk[i]?=some a/\MP n.ei.a8.length i d s a:=by
 have h1:=h.ls
 have h2:=h.la
 obtain⟨d,hd⟩:∃d,n.av[i]?=some d:=⟨_,v0 hi⟩
 obtain⟨s,hs⟩:∃s,n.aF[i]?=some s:=⟨_,v0 (show i<n.aF.length by omega)⟩
 obtain⟨a,ha⟩:∃a,n.bk[i]?=some a:=⟨_,v0 (show i<n.bk.length by omega)⟩
 exact⟨d,s,a,hd,hs,ha,h.m i d s a hd hs ha⟩
theorem NP.mono {B':Int} (h:NP B n) (hb:B<=B'):NP B' n:={h with lo:=⟨h.lo.1,by have:=h.lo.2;omega⟩}
def gb (n:ab) (f:bS):ab:=bif leB 200 (n.aT.length:Int) then {n with ki:=WR (n.ki+1)} else {n with aT:=n.aT++[f]}
theorem Bs (hf:kX f):gq n f=some (gb n f):=by
 simp only[gq,Le hf,abX,gb]
 cases hb:leB 200 (n.aT.length:Int)
 .have:=xq hb
  rw[cG oaa (by simp;omega)];rfl
 rfl
theorem Br (hf:kX f):qy n f=some (gb n f):=by
 simp only[qy,HN hf,abX,gb]
 cases hb:leB 200 (n.aT.length:Int)
 .have:=xq hb
  rw[cG oaa (by simp;omega)];rfl
 rfl
theorem Aj (h:NP B n) (hf:FP n.av.length n.ei.a8.length f) (hB:B<4611686018427387904):NP (B+1) (gb n f):=by
 have hl:=h.lo
 rw[gb]
 cases hb:leB 200 (n.aT.length:Int)
 .have hb:=xq hb
  refine {h.mono (show B<=B+1 by omega) with fl:=by simp;omega,fs:=λg hg=>?_}
  rcases aac.1 hg with hg|hg
  .exact h.fs g hg
  simp at hg;subst hg;exact hf
 exact {h.mono (show B<=B+1 by omega) with lo:=by simp only[cond_true];rw[bO oaa];omega}
theorem mt (n:ab) (f:bS):(gb n f).av=n.av/\(gb n f).aF=n.aF/\(gb n f).bk=n.bk/\(gb n f).ei=n.ei/\(gb n f).dy=n.dy/\(gb n f).ev=n.ev/\(gb n f).qO=n.qO:=by
 rw[gb];cases leB 200 (n.aT.length:Int)<;>exact⟨rfl,rfl,rfl,rfl,rfl,rfl,rfl⟩
def sends (n:ab) (l:List bS):ab:=l.foldl gb n
theorem iU:∀(l:List bS) (n:ab),(sends n l).av=n.av/\(sends n l).aF=n.aF/\(sends n l).bk=n.bk/\(sends n l).ei=n.ei/\(sends n l).dy=n.dy/\(sends n l).ev=n.ev/\(sends n l).qO=n.qO
 |[],n=>⟨rfl,rfl,rfl,rfl,rfl,rfl,rfl⟩
 |f::l,n=>by
  have h1:=mt n f
  have h2:=iU l (gb n f)
  have e:sends n (f::l)=sends (gb n f) l:=rfl
  rw[e,h2.1,h2.2.1,h2.2.2.1,h2.2.2.2.1,h2.2.2.2.2.1,h2.2.2.2.2.2.1,h2.2.2.2.2.2.2];exact h1
theorem yu:∀(l:List bS) {B:Int} {n:ab},NP B n->(∀f∈l,FP n.av.length n.ei.a8.length f)->B+l.length<4611686018427387904->NP (B+l.length) (sends n l)
 |[],B,n,h,_,_=>by simpa [sends] using h
 |f::l,B,n,h,hf,hB=>by
  simp only[aai] at hB ⊢
  have h1:=Aj h (hf f (by simp)) oaa
  have hk:=mt n f
  have:=yu l h1 (λg hg=>by rw[hk.1,hk.2.2.2.1];exact hf g (by simp[hg])) oaa
  rw[show B+((l.length+1:Nat):Int)=B+1+(l.length:Int) by omega]
  exact this
theorem vf (g:ab->bS->Option ab) {α:Type} (mk:α->bS) (hg:∀n x,g n (mk x)=some (gb n (mk x))):∀(l:List α) (n:ab),kj (λ(n:ab) x=>abU (g n (mk x)) λr=>some (ct.next (ρ:=ab) r)) some l n=some (sends n (l.map mk))
 |[],n=>rfl
 |x::l,n=>by rw[kj,hg];exact vf g mk hg l _
def i6 (i:Int) (up:Bool) (m:aH):bS:=⟨i,up,false,m.bg,m,eF⟩
def rH (i c:Int) (x:ax):bS:=⟨i,false,true,c,dQ,x⟩
theorem KC:oS eF:=⟨by decide,λ_ _=>trivial⟩
theorem BH (i:Int) (up:Bool) (m:aH):kX (i6 i up m):=KC
theorem Oa (n:ab) (i:Int) (up:Bool) {l:List aH} (hl:l.length<=1048576):ma n i up l=some (sends n (l.map (i6 i up))):=by
 have:=eG (step:=mb i up l) l (λk n=>((k:Int),n)) (λn x=>abU (gq n (i6 i up x)) λr=>some (.next r)) some oaa
  (λk x n hx hk=>by
   simp only[mb,cI hk,bp,hx,WRs (k:=k),i6,au]
   cases gq n ⟨i,up,false,x.bg,x,eF⟩<;>rfl) (λn=>by simp[mb]) n
 rw[vf gq (i6 i up) (λn x=>Bs (BH i up x))] at this
 rw[ma,show iter (mb i up l) FU (0,n)=_ from this];rfl
theorem TQ (n:ab) (i:Int) {l:List aH} (hl:l.length<=1048576):kV n i l=some (sends n (l.map (i6 i false))):=by
 have:=eG (step:=jV i l) l (λk n=>((k:Int),n)) (λn x=>abU (qy n (i6 i false x)) λr=>some (.next r)) some oaa
  (λk x n hx hk=>by
   simp only[jV,cI hk,bp,hx,WRs (k:=k),au]
   rw[show({fL with bm:=i,bg:=x.bg,bA:=x}:bS)=i6 i false x from rfl]
   cases qy n (i6 i false x)<;>rfl) (λn=>by simp[jV]) n
 rw[vf qy (i6 i false) (λn x=>Br (BH i false x))] at this
 rw[kV,show iter (jV i l) FU (0,n)=_ from this];rfl
def gT (n:ab) (i:Nat) (r:aY):ab:=sends {n with av:=n.av.set i r.bm} (r.dE.map (i6 i true))
theorem yh {i:Nat} (hi:i<n.av.length) {r:aY} (hr:r.dE.length<=1048576):jx n (i:Int) r=some (gT n i r):=by
 simp only[jx,bp,v0 hi,abX,abY,Oa _ _ _ hr,gT]
theorem yg {i:Nat} (hi:i<n.av.length) {r:aY} (hr:r.dE.length<=1048576):gM n (i:Int) r=some (gT n i r):=by
 have:=eG (step:=kJ (i:Int) r) r.dE (λk n=>((k:Int),n)) (λn x=>abU (qy n (i6 i true x)) λr=>some (.next r)) some oaa
  (λk x n hx hk=>by
   simp only[kJ,cI hk,bp,hx,WRs (k:=k),i6,au]
   cases qy n ⟨i,true,false,x.bg,x,eF⟩<;>rfl) (λn=>by simp[kJ]) {n with av:=n.av.set i r.bm}
 rw[vf qy (i6 (i:Int) true) (λn x=>Br (BH _ true x))] at this
 simp only[gM,bp,v0 hi,abX,abY,gT]
 rw[show iter (kJ (i:Int) r) FU (0,{n with av:=n.av.set i r.bm})=_ from this];rfl
theorem Kg {nd nc:Nat} {i:Nat} (hi:i<nd) {up:Bool} {m:aH} (hm:0<=m.bg/\m.bg<nc):FP nd nc (i6 i up m):=
 ⟨by simp only[i6];omega,hm,λx hx=>by simp[i6,eF,mB] at hx,BH _ _ _⟩
theorem oo {xs:List α} {i j:Nat} {x y:α} (h:(xs.set i x)[j]?=some y):(i=j/\x=y)\/(i≠j/\xs[j]?=some y):=by
 rw[abI] at h
 by_cases e:i=j
 .rw[if_pos e] at h
  split at h
  .cases h;exact .inl ⟨e,rfl⟩
  cases h
 rw[if_neg e] at h;exact .inr ⟨e,h⟩
theorem NP.setM (h:NP B n) {i:Nat} {d:aJ} (hm:MP n.ei.a8.length i d s a):
 NP B {n with av:=n.av.set i d,aF:=n.aF.set i s,bk:=n.bk.set i a}:=by
 have h1:=h.ls
 have h2:=h.la
 refine {h with ld:=by simpa using h.ld,ls:=by simpa using h1,la:=by simpa using h2,m:=λj d' s' a' hd hs ha=>?_,fs:=λf hf=>by rw[List.length_set];exact h.fs f hf}
 rcases oo hd with⟨e1,e2⟩|⟨e1,e2⟩<;>rcases oo hs with⟨e3,e4⟩|⟨e3,e4⟩<;>rcases oo ha with⟨e5,e6⟩|⟨e5,e6⟩<;>first|omega|skip
 .subst e1;subst e2;subst e4;subst e6;exact hm
 exact h.m j d' s' a' e2 e4 e6
theorem gY {xs:List α} {i:Nat} {x:α} (h:xs[i]?=some x):xs.set i x=xs:=by
 apply ab9
 intro j
 rw[abI]
 by_cases e:i=j
 .subst e;rw[if_pos rfl,if_pos (aaa.1 h).1,h]
 rw[if_neg e]
theorem NP.setD (h:NP B n) {i:Nat} {d:aJ} (hs:n.aF[i]?=some s) (ha:n.bk[i]?=some a) (hm:MP n.ei.a8.length i d s a):NP B {n with av:=n.av.set i d}:=by
 have:=h.setM hm
 rwa [gY hs,gY ha] at this
theorem NP.setS (h:NP B n) {i:Nat} {d:aJ} (hd:n.av[i]?=some d) (ha:n.bk[i]?=some a) (hm:MP n.ei.a8.length i d s a):NP B {n with aF:=n.aF.set i s}:=by
 have:=h.setM hm
 rwa [gY hd,gY ha] at this
structure DK (c:Int) (d:aJ) (r:aY):Prop where
 id:r.bm.dq.ID=d.dq.ID
 key:r.bm.dq.fo=d.dq.fo
 cell:r.bm.bg=c
 sg:∀m∈r.dE,m.bg=c
 len:r.dE.length<=1
theorem DK.none (d:aJ):DK d.bg d ⟨d,[]⟩:=⟨rfl,rfl,rfl,by simp,by simp⟩
theorem WZ (d:aJ):DK d.bg d (xp d):=⟨rfl,rfl,rfl,by simp[xp,xD,wM],by simp[xp]⟩
theorem K5 {d d':aJ} (h:d'.dq=d.dq):DK d'.bg d (xp d'):=⟨by rw[<-h];rfl,by rw[<-h];rfl,rfl,by simp[xp,xD,wM],by simp[xp]⟩
theorem u7 (d:aJ):DK d.bg d (qo d):=by
 rw[qo]
 cases ltB 0 d.fA<;>cases eqB d.bi 1<;>cases eqB d.bi 2&&!d.cy<;>exact⟨rfl,rfl,rfl,by simp[yN,xD,wM],by simp⟩
theorem Nj (d:aJ):DK d.bg d (dOn d):=by
 rw[dOn];cases eqB d.bi 0<;>exact⟨rfl,rfl,rfl,by simp[yN],by simp⟩
theorem Jd (d:aJ) (m:aH):DK d.bg d (z2 d m):=by
 rw[z2]
 cases !lS m||(!eqB m.bg d.bg||eqB d.bi 0)
 .simp only[cond_false]
  cases eqB m.bh 2&&eqB d.bi 1
  .simp only[cond_false]
   cases eqB m.bh 4&&(eqB d.bi 1&&(nU d.aZ&&(eqB m.ag d.ag&&tw d.aZ m)))
   .simp only[cond_false]
    cases eqB m.bh 6&&(eqB d.bi 2&&(eqB m.ag d.ag&&(eqB m.aX d.aX&&tw d.aZ m)))
    .simp only[cond_false]
     cases eqB m.bh 7&&(eqB d.bi 3&&ltB d.aX 999999)
     .simp only[cond_false]
      cases eqB m.bh 7&&eqB d.bi 2
      .exact .none d
      exact WZ d
     exact K5 (d:=d) (d':={d with bi:=2,aX:=d.aX+1}) rfl
    exact⟨rfl,rfl,rfl,by simp,by simp⟩
   exact⟨rfl,rfl,rfl,by simp,by simp⟩
  simp only[cond_true,GJ]
  cases eqB (ka d.dq.fo d.dq.dv m.cm) 0<;>exact⟨rfl,rfl,rfl,by simp,by simp⟩
 exact .none d
theorem Jc (d:aJ) (x:ax):DK d.bg d (z1 d x):=by
 simp only[z1]
 cases eqB d.bi 2&&(rm d.aZ d.ag d.aX x).2
 .exact .none d
 exact⟨rfl,rfl,rfl,by simp[dAck,wM],by simp⟩
theorem K6 (d:aJ) (c:Int):DK d.bg d (sH d c)\/(0<=c/\c<=5)/\DK c d (sH d c):=by
 rw[sH]
 cases h:eqB c d.bg||!inR c 0 5
 .simp only[aaq,ab8] at h
  right;refine⟨bQ.1 h.2,?_⟩
  simp only[cond_false]
  cases eqB d.bi 2&&ltB d.aX 999999
  .exact⟨rfl,rfl,rfl,by simp,by simp⟩
  exact K5 (d:=d) (d':={d with bg:=c,aX:=d.aX+1}) rfl
 exact .inl (.none d)
structure SK (c:Int) (s:ah) (r:bI):Prop where
 id:r.aU.bE.ID=s.bE.ID
 key:r.aU.bE.fo=s.bE.fo
 si:r.aU.bU.aC=s.bU.aC
 cell:r.aU.bg=s.bg\/r.aU.bg=c
 sg:∀m∈r.dE,m.bg=c
 len:r.dE.length<=1
 sub:r.aU.aG=s.aG
theorem SK.none (c:Int) (s:ah):SK c s ⟨s,[]⟩:=⟨rfl,rfl,rfl,.inl rfl,by simp,by simp,rfl⟩
theorem N6 (s:ah) (m:aH):SK m.bg s (sUp s m):=by
 rw[sUp]
 cases lS m
 .exact .none _ s
 simp only[au]
 cases eqB m.bh 1
 .simp only[cond_false]
  cases eqB m.bh 3
  .simp only[cond_false]
   cases eqB m.bh 5
   .simp only[cond_false]
    cases eqB m.bh 8
    .exact .none _ s
    simp only[cond_true,G6]
    cases !sW s m||ltB s.aw.bB m.bW
    .refine⟨rfl,rfl,?_,.inl rfl,by simp,by simp,rfl⟩
     simp only[cond_false,lT,tJ]
     cases inR (gh s.aw.aA-gh (kZ s.aw m.bW).aA) 0 (s.bU.cS-s.bU.er)<;>rfl
    exact .none _ s
   simp only[cond_true,zN]
   cases !sW s m||(ltB m.aX s.aX||(eqB m.aX s.aX&&!eqB m.bg s.bg))
   .exact⟨rfl,rfl,rfl,.inr rfl,by simp[y6,wM,wD],by simp,rfl⟩
   exact .none _ s
  simp only[cond_true,zP]
  cases leB s.bL 0||(!eqB m.ag s.bL||(!eqB m.bW s.aK.yI||leB 999999 s.aX))
  .exact⟨rfl,rfl,rfl,.inr rfl,by simp[y6,wM,xr],by simp,rfl⟩
  exact .none _ s
 simp only[cond_true,G7]
 cases eqB s.bE.c8 999999
 .exact⟨rfl,rfl,rfl,.inl rfl,by simp,by simp,rfl⟩
 exact .none _ s
theorem MP.dev {nc i:Nat} {d:aJ} (h:MP nc i d s a) {c:Int} {r:aY} (hk:DK c d r) (hd:DP r.bm) (hc:c<nc):MP nc i r.bm s a:=by
 refine⟨hd,by rw[hk.cell];exact hc,h.sg,h.sc,h.si,?_⟩
 have:=h.ids
 simp only[Fa,hk.id,hk.key] at this ⊢;exact this
theorem MP.ses {nc i:Nat} {d:aJ} (h:MP nc i d s a) {c:Int} {r:bI} (hk:SK c s r) (hs:SG r.aU a) (hc:c<nc):MP nc i d r.aU a:=by
 refine⟨h.dp,h.dc,hs,?_,by rw[hk.si];exact h.si,?_⟩
 .rcases hk.cell with e|e<;>rw[e]
  .exact h.sc
  exact hc
 have:=h.ids
 simp only[Fa,hk.id,hk.key] at this ⊢;exact this
theorem mu (h:NP B n) {i:Nat} {d:aJ} (hd:n.av[i]?=some d) {c:Int} {r:aY} (hk:DK c d r) (hr:DP r.bm) (hc:c<n.ei.a8.length) (hB:B+1<4611686018427387904):NP (B+1) (gT n i r):=by
 have hi:=(aaa.1 hd).1
 obtain⟨d',s,a,h1,h2,h3,hm⟩:=h.at_ hi
 rw[hd] at h1;cases h1
 have hn:=h.setD h2 h3 (hm.dev hk hr hc)
 have hl:=hk.len
 have:=yu (r.dE.map (i6 i true)) hn (λf hf=>by
  obtain⟨m,hm',rfl⟩:=aa7.1 hf
  rw[show({n with av:=n.av.set i r.bm}:ab).av.length=n.av.length by simp]
  refine Kg hi ?_
  rw[hk.sg m hm',<-hk.cell];exact⟨hr.ce.1,by rw[hk.cell];exact hc⟩) (by simp;omega)
 exact this.mono (by simp;omega)
def Co (n:ab) (i:Nat) (r:bI):ab:=sends {n with aF:=n.aF.set i r.aU} (r.dE.map (i6 i false))
theorem RE (h:NP B n) {i:Nat} (hs:n.aF[i]?=some s) {c:Int} {r:bI} (hk:SK c s r) (hr:∀a,SG s a->SG r.aU a) (hc:0<=c/\c<n.ei.a8.length) (hB:B+1<4611686018427387904):NP (B+1) (Co n i r):=by
 have hi:=(aaa.1 hs).1
 have hls:=h.ls
 obtain⟨d,s',a,h1,h2,h3,hm⟩:=h.at_ (show i<n.av.length by omega)
 rw[hs] at h2;cases h2
 have hn:=h.setS h1 h3 (hm.ses hk (hr a hm.sg) hc.2)
 have hl:=hk.len
 have:=yu (r.dE.map (i6 i false)) hn (λf hf=>by
  obtain⟨m,hm',rfl⟩:=aa7.1 hf
  refine Kg (show i<n.av.length by omega) ?_
  rw[hk.sg m hm'];exact hc) (by simp;omega)
 exact this.mono (by simp;omega)
def jq (n:ab) (k:Nat):ab:={n with aT:=n.aT.take k++n.aT.drop (k+1)}
theorem DH (h:NP B n) (k:Nat):NP B (jq n k):=by
 have:=h.fl
 refine {h with fl:=by simp[jq];omega,fs:=λf hf=>?_}
 have:f∈n.aT:=by
  simp only[jq,aac] at hf
  rcases hf with hf|hf
  .exact aaA hf
  exact List.mem_of_mem_drop hf
 exact h.fs f this
theorem Qq (hl:n.aT.length<=200) (hf:n.aT[k]?=some f):yD n (k:Int)=some (f,jq n k):=by
 have hk:=(aaa.1 hf).1
 have a1:eS n.aT 0 (k:Int)=true:=by simp[eS];omega
 have a2:eS n.aT ((k+1:Nat):Int) (n.aT.length:Int)=true:=by simp[eS];omega
 have a3:da 176 (n.aT.take k).length=true:=cG oaa (by simp;omega)
 have a4:da 176 (n.aT.take k++n.aT.drop (k+1)).length=true:=cG oaa (by simp;omega)
 simp only[yD,bp,hf,a1,WRs (k:=k),a2,aa8,abY,a3,a4,jq,au]
theorem Qp (hl:n.aT.length<=200) (hf:n.aT[k]?=some f):qz n (k:Int)=some (f,jq n k):=by
 have hk:=(aaa.1 hf).1
 have a0:qB 176 0 (n.aT.length:Int)=true:=by simp only[qB,decide_eq_true_eq];omega
 have a1:eS n.aT 0 (k:Int)=true:=by simp[eS];omega
 have a2:eS n.aT ((k+1:Nat):Int) (n.aT.length:Int)=true:=by simp[eS];omega
 have a3:da 176 (n.aT.take k).length=true:=cG oaa (by simp;omega)
 have a4:da 176 (n.aT.take k++n.aT.drop (k+1)).length=true:=cG oaa (by simp;omega)
 have a5:(aaf (0:Int).toNat fL)=[]:=rfl
 simp only[qz,bp,hf,a0,a1,WRs (k:=k),a2,a5,aa8,abY,a3,a4,jq,au]
def zr (n:ab) (c:Int):Bool:=eL n.ei c&&eqB (zY .i64 (En .i64 n.dy c) 1) 0
theorem Ux (hm:1<=n.ei.a8.length/\n.ei.a8.length<=6) (c:Int):vz n c=some (zr n c):=by
 have hmin:lB (n.ei.a8.length:Int) 6=(n.ei.a8.length:Int):=by unfold lB;split<;>omega
 simp only[vz,LP,hmin,fY,abX,bO (n:=(n.ei.a8.length:Int)-1) oaa,zr]
 rw[show inR c 0 ((n.ei.a8.length:Int)-1)=eL n.ei c from rfl]
 cases hc:eL n.ei c
 .rfl
 have:=bQ.1 (show inR c 0 ((n.ei.a8.length:Int)-1)=true from hc)
 rw[leB_t.2 this.1];rfl
theorem Uw (hm:1<=n.ei.a8.length/\n.ei.a8.length<=6) (c:Int):vg n c=some (zr n c):=by
 simp only[vg,vY (show n.ei.a8.length<=1048576 by omega),abX,zr]
 cases hc:eL n.ei c
 .rfl
 have:=bQ.1 (show inR c 0 ((n.ei.a8.length:Int)-1)=true from hc)
 rw[leB_t.2 this.1,ltB_t.2 (show c<6 by omega)];rfl
def NF (n:ab):ab:={n with ki:=WR (n.ki+1)}
theorem JB (h:NP B n) (hB:B<4611686018427387904):NP (B+1) (NF n):=by
 have hl:=h.lo
 exact {h.mono (show B<=B+1 by omega) with lo:=by simp only[NF];rw[bO oaa];omega}
def jj (n:ab) (k:Nat):ab:=match n.aT[k]? with
 |none=>n
 |some f=>
  let n1:=jq n k
  let i:=f.bm.toNat
  bif !zr n1 f.bg then NF n1 else
  bif f.eW then(bif f.ef||!eqB f.bA.bg f.bg then n1 else match n1.aF[i]? with
   |none=>n1
   |some s=>Co n1 i (sUp s f.bA))
  else match n1.av[i]? with
   |none=>n1
   |some d=>bif !eqB d.bg f.bg then NF n1 else gT n1 i (bif f.ef then z1 d f.cA else z2 d f.bA)
theorem wa (h:NP B n) (k:Nat) (hB:B+1<4611686018427387904):NP (B+1) (jj n k):=by
 rw[jj]
 cases hf:n.aT[k]? with
 |none=>exact h.mono oaa
 |some f=>
  have hp:=h.fs f (aab hf)
  have h1:=DH h k
  simp only
  cases zr (jq n k) f.bg
  .exact JB h1 oaa
  simp only[au]
  cases f.eW
  .simp only[cond_false]
   cases hd:(jq n k).av[f.bm.toNat]? with
   |none=>exact h1.mono oaa
   |some d=>
    have hdi:=(aaa.1 hd).1
    obtain⟨d',s,a,e1,e2,e3,hm⟩:=h1.at_ hdi
    rw[hd] at e1;cases e1
    simp only
    cases eqB d.bg f.bg
    .exact JB h1 oaa
    simp only[au]
    cases f.ef
    .exact mu h1 hd (Jd d f.bA) (W5 hm.dp _) hm.dc hB
    exact mu h1 hd (Jc d f.cA) (W3 hm.dp _) hm.dc hB
  simp only[cond_true]
  cases he:f.ef||!eqB f.bA.bg f.bg
  .simp only[cond_false]
   simp only[aaq,ab8] at he
   have he:=pH he.2
   cases hs:(jq n k).aF[f.bm.toNat]? with
   |none=>exact h1.mono oaa
   |some s=>exact RE h1 hs (N6 s f.bA) (λa ha=>sUp_SG ha _) (by rw[he];exact hp.c) hB
  exact h1.mono oaa
theorem Nm (i:Int) (h:0<=i):i=(i.toNat:Int):=by omega
theorem QT (h:NP B n) (hk:k<n.aT.length):uA n (k:Int)=some (jj n k):=by
 obtain⟨f,hf⟩:∃f,n.aT[k]?=some f:=⟨_,v0 hk⟩
 have hp:=h.fs f (aab hf)
 have h1:=DH h k
 have hls:=h1.ls
 have hdd:=hp.d
 obtain⟨d,s,a,e1,e2,e3,hm⟩:=h1.at_ (show f.bm.toNat<(jq n k).av.length by simp only[jq];omega)
 have hdev:=Nm f.bm hdd.1
 have hix:ix (jq n k).aF f.bm=some s:=by rw[hdev,bp];exact e2
 have hixd:ix (jq n k).av f.bm=some d:=by rw[hdev,bp];exact e1
 have hdl:=(aaa.1 e1).1
 have hp1:jx (jq n k) f.bm (z1 d f.cA)=some (gT (jq n k) f.bm.toNat (z1 d f.cA)):=by
  rw[hdev];exact yh (by simpa using hdl) (by have:=(Jc d f.cA).len;omega)
 have hp2:jx (jq n k) f.bm (z2 d f.bA)=some (gT (jq n k) f.bm.toNat (z2 d f.bA)):=by
  rw[hdev];exact yh (by simpa using hdl) (by have:=(Jd d f.bA).len;omega)
 have hp3:∀n',ma n' f.bm false (sUp s f.bA).dE=some (sends n' ((sUp s f.bA).dE.map (i6 (f.bm.toNat:Int) false))):=λn'=>by
  rw[<-hdev];exact Oa _ _ _ (by have:=(N6 s f.bA).len;omega)
 simp only[uA,Qq h.fl hf,Ux (mr h1.map),hix,hixd,up_s hm.sg.sp,rad_s hm.dp.ok (show PO f.cA from hp.b),sig_s hm.dp.ok hm.dp.card hm.dp.ep,hp1,hp2,hp3,abX,jj,hf,e1,e2,Co,NF]
 cases zr (jq n k) f.bg<;>cases f.eW<;>cases f.ef<;>cases eqB f.bA.bg f.bg<;>cases eqB d.bg f.bg<;>rfl
theorem HA (h:NP B n) (hk:k<n.aT.length):xR n (k:Int)=some (jj n k):=by
 obtain⟨f,hf⟩:∃f,n.aT[k]?=some f:=⟨_,v0 hk⟩
 have hp:=h.fs f (aab hf)
 have h1:=DH h k
 have hls:=h1.ls
 have hdd:=hp.d
 obtain⟨d,s,a,e1,e2,e3,hm⟩:=h1.at_ (show f.bm.toNat<(jq n k).av.length by simp only[jq];omega)
 have hdev:=Nm f.bm hdd.1
 have hix:ix (jq n k).aF f.bm=some s:=by rw[hdev,bp];exact e2
 have hixd:ix (jq n k).av f.bm=some d:=by rw[hdev,bp];exact e1
 have hdl:=(aaa.1 e1).1
 have hp1:gM (jq n k) f.bm (z1 d f.cA)=some (gT (jq n k) f.bm.toNat (z1 d f.cA)):=by
  rw[hdev];exact yg (by simpa using hdl) (by have:=(Jc d f.cA).len;omega)
 have hp2:gM (jq n k) f.bm (z2 d f.bA)=some (gT (jq n k) f.bm.toNat (z2 d f.bA)):=by
  rw[hdev];exact yg (by simpa using hdl) (by have:=(Jd d f.bA).len;omega)
 have hp3:∀n',kV n' f.bm (sUp s f.bA).dE=some (sends n' ((sUp s f.bA).dE.map (i6 (f.bm.toNat:Int) false))):=λn'=>by
  rw[<-hdev];exact TQ _ _ (by have:=(N6 s f.bA).len;omega)
 simp only[xR,Qp h.fl hf,Uw (mr h1.map),hix,hixd,up_i hm.sg.sp,rad_i hm.dp.ok (show PO f.cA from hp.b),sig_i hm.dp.ok hm.dp.card hm.dp.ep,hp1,hp2,hp3,abX,jj,hf,e1,e2,Co,NF]
 cases zr (jq n k) f.bg<;>cases f.eW<;>cases f.ef<;>cases eqB f.bA.bg f.bg<;>cases eqB d.bg f.bg<;>rfl
theorem jw (n:ab) (i:Nat) (r:aY):(gT n i r).av.length=n.av.length/\(gT n i r).ei=n.ei/\(gT n i r).aF=n.aF/\(gT n i r).bk=n.bk/\(gT n i r).qO=n.qO:=by
 have:=iU (r.dE.map (i6 i true)) {n with av:=n.av.set i r.bm}
 rw[gT,this.1,this.2.1,this.2.2.1,this.2.2.2.1,this.2.2.2.2.2.2];simp
def nk:Nat->Nat->ab->ab
 |0,_,n=>n
 |c+1,i,n=>match n.av[i]? with
  |none=>n
  |some d=>nk c (i+1) (gT n i (qo d))
theorem CJ {L:Int×ab->Option (ct (Int×ab) ab)} (N:Nat) (hN:N<=4)
 (hL:∀(i:Nat) (n:ab),n.av.length=N->(i<N->∀d,n.av[i]?=some d->DP d->L ((i:Int),n)=some (.next (((i+1:Nat):Int),gT n i (qo d))))/\(N<=i->L ((i:Int),n)=some (.done n))):
 ∀(c i:Nat) {B:Int} (n:ab) (fu:Nat),NP B n->i+c=N->n.av.length=N->c<fu->B+c<4611686018427387904->iter L fu ((i:Int),n)=some (nk c i n)/\NP (B+c) (nk c i n)/\(nk c i n).av.length=N/\(nk c i n).ei=n.ei
 |0,i,B,n,fu,h,h1,h2,h3,hB=>by
  cases fu with
  |zero=>omega
  |succ fu=>
   rw[iter,(hL i n h2).2 oaa]
   exact⟨rfl,by simpa [nk] using h,h2,rfl⟩
 |c+1,i,B,n,fu,h,h1,h2,h3,hB=>by
  cases fu with
  |zero=>omega
  |succ fu=>
   obtain⟨d,s,a,e1,e2,e3,hm⟩:=h.at_ (show i<n.av.length by omega)
   have hp:=mu h e1 (u7 d) (AW hm.dp) hm.dc oaa
   have hk:=jw n i (qo d)
   rw[iter,(hL i n h2).1 oaa d e1 hm.dp,nk,e1]
   simp only
   have ih:=CJ N hN hL c (i+1) (gT n i (qo d)) fu hp oaa (by rw[hk.1];exact h2) oaa oaa
   refine⟨ih.1,ih.2.1.mono oaa,ih.2.2.1,ih.2.2.2.trans hk.2.1⟩
def w9 (x:ax):Prop:=okB x.bC.bb/\x.bC.bb.length<=60
theorem At (k g e:Int) (h:x.bb.length<=60):w9 (iF k g e x):=⟨Jh _ _,by simp[iF,Ga];exact h⟩
theorem KM (h:WOK s.aw):∀x∈xz s,w9 x:=by
 rw[xz];cases eqB s.bi 1
 .simp
 intro x hx
 obtain⟨y,hy,rfl⟩:=aa7.1 hx
 exact At _ _ _ (h.d y (aaA hy))
theorem HF (s:ah) (a:am) (n:Int):(cQ s a n).1.bU.aC=s.bU.aC:=by rw[cQ];cases leB (jC s n) 0<;>rfl
theorem Gb:∀(k:Nat) (s:ah) (a:am) (r:List ax),SG s a->(∀x∈r,w9 x)->
 (f7 k s a r).1.bE=s.bE/\(f7 k s a r).1.bg=s.bg/\(f7 k s a r).1.bU.aC=s.bU.aC/\(f7 k s a r).1.aG=s.aG/\∀x∈(f7 k s a r).2.2,w9 x
 |0,s,a,r,h,hr=>⟨rfl,rfl,rfl,rfl,hr⟩
 |k+1,s,a,r,h,hr=>by
  rw[f7]
  cases e:qC s with
  |none=>exact⟨rfl,rfl,rfl,rfl,hr⟩
  |some x=>
   obtain⟨hm,hx,_,hn,hl,hb⟩:=lR h.sp e
   have he:=rY h (n:=(x.bb.length:Int)) oaa
   obtain⟨q,hk⟩:=lF s a (x.bb.length:Int)
   have hid:=HF s a (x.bb.length:Int)
   simp only
   cases hq:ltB 0 (jC (cQ s a (x.bb.length:Int)).1 (x.bb.length:Int))
   .simp only[cond_false]
    have ih:=Gb k {(cQ s a (x.bb.length:Int)).1 with aw:=pC (cQ s a (x.bb.length:Int)).1.aw x.bb} (cQ s a (x.bb.length:Int)).2
     (r++[iF (cQ s a (x.bb.length:Int)).1.aZ (cQ s a (x.bb.length:Int)).1.ag (cQ s a (x.bb.length:Int)).1.aX ⟨(cQ s a (x.bb.length:Int)).1.aw.bB,x.bb⟩])
     (y9 he (by rw[hk];exact e) hq) (λy hy=>by
      rcases aac.1 hy with hy|hy
      .exact hr y hy
      simp at hy;subst hy;exact At _ _ _ hb)
    rw[ih.1,ih.2.1,ih.2.2.1,ih.2.2.2.1]
    exact⟨by rw[hk],by rw[hk],hid,by rw[hk],ih.2.2.2.2⟩
   exact⟨by simp only[cond_true];rw[hk],by simp only[cond_true];rw[hk],hid,by simp only[cond_true];rw[hk],hr⟩
theorem Vb {a t:Int}:∀c∈C5 m a t,0<=c/\c<m.a8.length:=by
 intro c hc
 have h1:∀c∈ol m a,0<=c/\c<m.a8.length:=λc hc=>by
  obtain⟨y,hy,rfl⟩:=aa7.1 hc
  have:=(abg.1 hy).1
  have:=List.mem_zipIdx this
  simp at this
  omega
 have h2:∀c∈Th m,0<=c/\c<m.a8.length:=λc hc=>by
  obtain⟨k,hk,rfl⟩:=aa7.1 hc
  have:=List.mem_range.1 hk
  omega
 rw[C5] at hc;revert hc
 cases eqB t 1&&ltB 0 (((ol m a).length:Nat):Int)
 .cases inR t 1 4
  .simp
  exact h2 c
 exact h1 c
structure TK (nc:Nat) (s:ah) (a:am) (t:bM):Prop where
 rcd:t.aU.bE=s.bE
 cell:t.aU.bg=s.bg
 si:t.aU.bU.aC=s.bU.aC
 sub:t.aU.aG=s.aG
 pg:∀m∈t.ja,0<=m.bg/\m.bg<nc
 pl:t.ja.length<=1000
 rd:∀x∈t.cA,w9 x
 rl:t.cA.length<=4
theorem yt (h:SG s a) (hm:m.a8.length<=1000):TK m.a8.length s a (ip s a m):=by
 rw[ip]
 cases eqB s.bi 1
 .exact⟨rfl,rfl,rfl,rfl,by simp,by simp,by simp,by simp⟩
 simp only[au]
 have hg:=A6 h
 have hq:=vu h.sp
 cases ltB 4 (iX s)
 .simp only[cond_false,Ik]
  have hk:=Gb 2 _ _ [] (h.upd hq (vx h.sp)) (by simp)
  have hl:=y8 2 {s with dX:=iX s,dP:=(mD s).2,bU:=(fr s a).2} (fr s a).1 []
  have hr:=Cu s
  refine⟨hk.1,hk.2.1,hk.2.2.1.trans hg.2.2.1,hk.2.2.2.1,by simp,by simp,λx hx=>?_,by simp at hl ⊢;omega⟩
  rcases aac.1 hx with hx|hx
  .rw[mD] at hx;revert hx
   cases Dm s
   .simp
   cases ltB 0 s.dP
   .exact KM h.sp.win x
   simp
  exact hk.2.2.2.2 x hx
 simp only[cond_true,FV]
 refine⟨rfl,rfl,hg.2.2.1,rfl,λx hx=>?_,by have:=CK (p:={s.gr with f6:=mE m s.bg}) hm;simp only[aay];exact this,by simp,by simp⟩
 obtain⟨c,hc,rfl⟩:=aa7.1 hx
 simp only[LY]
 rw[xn] at hc;revert hc
 cases ltB 0 s.gr.fA
 .exact Vb c
 simp
def vq (n:ab) (i:Nat) (t:bM):ab:=
 sends (sends {n with aF:=n.aF.set i t.aU,bk:=n.bk.set i t.d8} (t.ja.map (i6 i false))) (t.cA.map (rH i t.aU.bg))
theorem X2 {nd nc i:Nat} (hi:i<nd) {c:Int} (hc:0<=c/\c<nc) {x:ax} (hx:w9 x):FP nd nc (rH i c x):=
 ⟨by simp only[rH];omega,hc,hx.1,⟨by have:=hx.2;simp only[rH];omega,λ_ _=>trivial⟩⟩
theorem H8 (n:ab) (i:Nat) (t:bM):(vq n i t).av=n.av/\(vq n i t).ei=n.ei/\(vq n i t).aF.length=n.aF.length/\(vq n i t).qO=n.qO:=by
 have h1:=iU (t.ja.map (i6 i false)) {n with aF:=n.aF.set i t.aU,bk:=n.bk.set i t.d8}
 have h2:=iU (t.cA.map (rH i t.aU.bg)) (sends {n with aF:=n.aF.set i t.aU,bk:=n.bk.set i t.d8} (t.ja.map (i6 i false)))
 rw[vq,h2.1,h2.2.1,h2.2.2.2.1,h2.2.2.2.2.2.2,h1.1,h1.2.1,h1.2.2.2.1,h1.2.2.2.2.2.2];simp
theorem Fy (h:NP B n) {i:Nat} (hs:n.aF[i]?=some s) (ha:n.bk[i]?=some a) {t:bM} (hk:TK n.ei.a8.length s a t) (hg:SG t.aU t.d8) (hB:B+2000<4611686018427387904):NP (B+2000) (vq n i t):=by
 have hi:=(aaa.1 hs).1
 have hls:=h.ls
 obtain⟨d,s',a',h1,h2,h3,hm⟩:=h.at_ (show i<n.av.length by omega)
 rw[hs] at h2;cases h2
 rw[ha] at h3;cases h3
 have hmp:MP n.ei.a8.length i d t.aU t.d8:=by
  refine⟨hm.dp,hm.dc,hg,by rw[hk.cell];exact hm.sc,by rw[hk.si];exact hm.si,?_⟩
  have:=hm.ids
  simp only[Fa,hk.rcd] at this ⊢;exact this
 have hn:=h.setM hmp
 rw[gY h1] at hn
 have hpl:=hk.pl
 have hrl:=hk.rl
 have k1:=iU (t.ja.map (i6 i false)) {n with aF:=n.aF.set i t.aU,bk:=n.bk.set i t.d8}
 have p1:=yu (t.ja.map (i6 i false)) hn (λf hf=>by
  obtain⟨m,hm',rfl⟩:=aa7.1 hf
  exact Kg (show i<n.av.length by omega) (hk.pg m hm')) (by simp;omega)
 have p2:=yu (t.cA.map (rH i t.aU.bg)) p1 (λf hf=>by
  obtain⟨x,hx,rfl⟩:=aa7.1 hf
  rw[k1.1,k1.2.2.2.1]
  exact X2 (show i<n.av.length by omega) (by rw[hk.cell];exact⟨hm.sg.sp.ce.1,hm.sc⟩) (hk.rd x hx)) (by simp;omega)
 exact p2.mono (by simp;omega)
def uG:Nat->Nat->ab->ab
 |0,_,n=>n
 |c+1,i,n=>match n.aF[i]?,n.bk[i]? with
  |some s,some a=>uG c (i+1) (vq n i (ip s a n.ei))
  |_,_=>n
theorem CL {L:Int×ab->Option (ct (Int×ab) ab)} (N:Nat) (hN:N<=4)
 (hL:∀(i:Nat) (n:ab),n.aF.length=N->(i<N->∀s a,n.aF[i]?=some s->n.bk[i]?=some a->SG s a->pW n.ei=true->L ((i:Int),n)=some (.next (((i+1:Nat):Int),vq n i (ip s a n.ei))))/\(N<=i->L ((i:Int),n)=some (.done n))):
 ∀(c i:Nat) {B:Int} (n:ab) (fu:Nat),NP B n->i+c=N->n.aF.length=N->c<fu->B+2000*c<4611686018427387904->iter L fu ((i:Int),n)=some (uG c i n)/\NP (B+2000*c) (uG c i n)/\(uG c i n).av=n.av/\(uG c i n).ei=n.ei
 |0,i,B,n,fu,h,h1,h2,h3,hB=>by
  cases fu with
  |zero=>omega
  |succ fu=>
   rw[iter,(hL i n h2).2 oaa]
   exact⟨rfl,by simpa [uG] using h,rfl,rfl⟩
 |c+1,i,B,n,fu,h,h1,h2,h3,hB=>by
  cases fu with
  |zero=>omega
  |succ fu=>
   have hls:=h.ls
   obtain⟨d,s,a,e1,e2,e3,hm⟩:=h.at_ (show i<n.av.length by omega)
   have hml:=mr h.map
   have hp:=Fy h e2 e3 (yt hm.sg oaa) (F8 hm.sg h.map) oaa
   have hk:=H8 n i (ip s a n.ei)
   rw[iter,(hL i n h2).1 oaa s a e2 e3 hm.sg h.map,uG,e2,e3]
   simp only
   have ih:=CL N hN hL c (i+1) (vq n i (ip s a n.ei)) fu hp oaa (by rw[hk.2.2.1];exact h2) oaa oaa
   exact⟨ih.1,ih.2.1.mono oaa,ih.2.2.1.trans hk.1,ih.2.2.2.trans hk.2.1⟩
def xh (n:ab):Bool×ab:=
 bif leB 100000 n.qO then(false,n) else
  let n1:=nk n.av.length 0 {n with qO:=n.qO+1}
  (true,uG n1.aF.length 0 n1)
theorem zn {B:Int} {n:ab} (h:NP B n) (hB:B+10000<4611686018427387904):BV n=some (xh n)/\LB n=some (xh n)/\NP (B+10000) (xh n).2:=by
 have hnw:=h.nw
 have hld:=h.ld
 rw[xh,BV,LB]
 cases hb:leB 100000 n.qO
 .have hb:=xq hb
  simp only[cond_false]
  have h1:NP B {n with qO:=n.qO+1}:={h with nw:=by simp only;omega}
  rw[bO (n:=n.qO+1) oaa]
  have rs:=CJ (L:=uB) n.av.length hld (λi n' hn'=>⟨λhi d hd hp=>by
   simp only[uB,hn',cI hi,bp,hd,tick_s hp.ok hp.wt.2,yh (show i<n'.av.length by omega) (show(qo d).dE.length<=1048576 by have:=(u7 d).len;omega),WRs (k:=i),au],λhi=>by
   simp only[uB,hn',ltB_f.2 (show(n.av.length:Int)<=(i:Int) by omega),cond_false]⟩) n.av.length 0 _ FU h1 oaa rfl (by have:=hO;omega) oaa
  have ri:=CJ (L:=Bj n) n.av.length hld (λi n' hn'=>⟨λhi d hd hp=>by
   simp only[Bj,cI hi,bp,hd,tick_i hp.ok hp.wt.2,yg (show i<n'.av.length by omega) (show(qo d).dE.length<=1048576 by have:=(u7 d).len;omega),WRs (k:=i),au],λhi=>by
   simp only[Bj,ltB_f.2 (show(n.av.length:Int)<=(i:Int) by omega),cond_false]⟩) n.av.length 0 _ FU h1 oaa rfl (by have:=hO;omega) oaa
  rw[show((0:Nat):Int)=0 from rfl] at rs ri
  have h2:=(rs).2.1
  have hls:=h2.ls
  have hl2:=h2.ld
  generalize nk n.av.length 0 {n with qO:=n.qO+1}=n1 at*
  have radS:∀(n':ab) (i:Nat) (t:bM),(∀x∈t.cA,w9 x)->t.cA.length<=4->iter (n9 (i:Int) t) FU (0,n')=some (sends n' (t.cA.map (rH i t.aU.bg))):=λn' i t ht hl=>by
   have:=eG (step:=n9 (i:Int) t) t.cA (λk n=>((k:Int),n)) (λn x=>abU (gq n (rH i t.aU.bg x)) λr=>some (.next r)) some oaa
    (λk x n hx hk=>by
     simp only[n9,cI hk,bp,hx,WRs (k:=k),rH,au]
     cases gq n ⟨(i:Int),false,true,t.aU.bg,dQ,x⟩<;>rfl) (λn=>by simp[n9]) n'
   refine Eq.trans (show iter (n9 (i:Int) t) FU (0,n')=_ from this) ?_
   clear this
   have key:∀(l:List ax) (n':ab),(∀x∈l,w9 x)->kj (λ(n:ab) x=>abU (gq n (rH i t.aU.bg x)) λr=>some (ct.next (ρ:=ab) r)) some l n'=some (sends n' (l.map (rH i t.aU.bg))):=by
    intro l
    induction l with
    |nil=>intro n' _;rfl
    |cons x l ih=>intro n' hx;rw[kj,Bs (f:=rH i t.aU.bg x) ⟨by have:=(hx x (by simp)).2;simp only[rH];omega,λ_ _=>trivial⟩];exact ih _ λy hy=>hx y (by simp[hy])
   exact key t.cA n' ht
  have radI:∀(n':ab) (i:Nat) (t:bM),(∀x∈t.cA,w9 x)->t.cA.length<=4->iter (vi (i:Int) t) FU (0,n')=some (sends n' (t.cA.map (rH i t.aU.bg))):=λn' i t ht hl=>by
   have:=eG (step:=vi (i:Int) t) t.cA (λk n=>((k:Int),n)) (λn x=>abU (qy n (rH i t.aU.bg x)) λr=>some (.next r)) some oaa
    (λk x n hx hk=>by
     simp only[vi,cI hk,bp,hx,WRs (k:=k),rH,au]
     cases qy n ⟨(i:Int),false,true,t.aU.bg,dQ,x⟩<;>rfl) (λn=>by simp[vi]) n'
   refine Eq.trans (show iter (vi (i:Int) t) FU (0,n')=_ from this) ?_
   clear this
   have key:∀(l:List ax) (n':ab),(∀x∈l,w9 x)->kj (λ(n:ab) x=>abU (qy n (rH i t.aU.bg x)) λr=>some (ct.next (ρ:=ab) r)) some l n'=some (sends n' (l.map (rH i t.aU.bg))):=by
    intro l
    induction l with
    |nil=>intro n' _;rfl
    |cons x l ih=>intro n' hx;rw[kj,Br (f:=rH i t.aU.bg x) ⟨by have:=(hx x (by simp)).2;simp only[rH];omega,λ_ _=>trivial⟩];exact ih _ λy hy=>hx y (by simp[hy])
   exact key t.cA n' ht
  have ss:=CL (L:=uC) n1.aF.length oaa (λi n' hn'=>⟨λhi s a hs ha hg hm=>by
   have hml:=mr hm
   have hk:=yt hg (m:=n'.ei) oaa
   simp only[uC,hn',cI hi,bp,hs,ha,Yx hg (m:=n'.ei) oaa (Fw hg.sp.page),abY,Oa _ _ _ (show(ip s a n'.ei).ja.length<=1048576 by have:=hk.pl;omega),radS _ i _ hk.rd hk.rl,vq,WRs (k:=i),au],λhi=>by
   simp only[uC,hn',ltB_f.2 (show(n1.aF.length:Int)<=(i:Int) by omega),cond_false]⟩) n1.aF.length 0 n1 FU h2 oaa rfl (by have:=hO;omega) oaa
  have si:=CL (L:=Bk n1) n1.aF.length oaa (λi n' hn'=>⟨λhi s a hs ha hg hm=>by
   have hml:=mr hm
   have hk:=yt hg (m:=n'.ei) oaa
   simp only[Bk,cI hi,bp,hs,ha,Yw hg (m:=n'.ei) oaa (Fw hg.sp.page),abY,TQ _ _ (show(ip s a n'.ei).ja.length<=1048576 by have:=hk.pl;omega),radI _ i _ hk.rd hk.rl,vq,WRs (k:=i),au],λhi=>by
   simp only[Bk,ltB_f.2 (show(n1.aF.length:Int)<=(i:Int) by omega),cond_false]⟩) n1.aF.length 0 n1 FU h2 oaa rfl (by have:=hO;omega) oaa
  rw[show((0:Nat):Int)=0 from rfl] at ss si
  rw[rs.1]
  rw[ri.1]
  simp only[abX]
  rw[ss.1]
  rw[si.1]
  exact⟨rt,rt,(ss).2.1.mono oaa⟩
 exact⟨rt,rt,h.mono oaa⟩
end Go.AM
