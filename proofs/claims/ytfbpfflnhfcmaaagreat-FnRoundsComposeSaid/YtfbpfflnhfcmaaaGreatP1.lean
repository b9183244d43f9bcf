/- A part. -/
import Derived.Test.YtfbpfflnhfcmaaaGreatL
set_option linter.unusedVariables false
set_option linter.unusedSimpArgs false
set_option maxHeartbeats 4000000
open Option renaming some->ς,none->ξ
open Bool renaming true->ζ,false->η
open True renaming intro->θ
open Option renaming bind_some->acH,bind->acE,map_some->acV
open List renaming getElem?_eq_getElem->zz330,getElem?_eq_some_iff->zz334,mem_of_getElem?->zz326,mem_append->aaH,nil_append->abO,getElem?_of_mem->aaP,length_cons->aaS,pairwise_cons->acM,replicate->aaI,takeWhile_append_dropWhile->ac2,getElem?_mapIdx->acR,pairwise_append->acS,mem_cons->aaK,mem_map->abN,all_eq_true->aaM,takeWhile_cons->acY,range->v0,ext_getElem?->acT,getElem_mem->acU,mem_singleton->abQ,getElem?_set->acf,take_of_length_le->ac3,cons_append->zz328,dropWhile_subset->ac4,foldl_cons->acZ,mem_range->acQ,length->acW,take_add_one->ac0,append_assoc->acl,drop_eq_getElem_cons->aby,rel_of_pairwise_cons->adb,getElem?_append_left->zz327,length_nil->ac1,getElem?_eq_none->adc,drop_left->ac6,drop_drop->zz335,takeWhile_subset->ade,length_filter_le->adf,length_replicate->adg,mem_of_mem_take->abe,dropWhile_cons->adh,length_append->abk,drop_length->adk,length_take->abW,filter_cons->adl,mem_filter->acX,take_left->ac9
open Bool renaming and_eq_true->hV,or_eq_false_iff->aaQ,eq_iff_iff->acJ,not_eq_false'->acN,and_true->ace,or_self->acP,not_eq_true'->aa8,true_and->acL,and_false->acq,false_and->adm,false_or->abx,or_false->acp,true_or->ada
open Int renaming toNat_natCast->acI,tmod_eq_emod_of_nonneg->acK,tmod->acF,add_emod_right->adi,emod_lt_of_pos->ac7,emod_eq_of_lt->adj,emod_nonneg->ac8
open Nat renaming add_sub_cancel->acO,le_refl->aaL,mul_le_mul->ac5,zero_le->aaT,le_trans->abR
namespace Go.AM
variable{σ τ ρ α β:Type}{n:Go.AM.ae}{k:Nat}{p:Go.AM.cV}{a:Go.AM.aj}{b i B:Int}{r:Go.AM.aM}{w:Go.AM.aV}{s:Go.AM.ag}{x:Go.AM.ab}{m:Go.AM.aZ}{f:Go.AM.bA}{t:List Go.AM.aH}{q:Go.AM.cY}
theorem ie:9223372036854775808<=FU:=by unfold FU;omega
def lU{α σ ρ:Type}(body:σ->α->Option (ci σ ρ))(fin:σ->Option ρ):List α->σ->Option ρ
 |[],s=>fin s
 |x::xs,s=>match body s x with
  |some (.next s')=>lU body fin xs s'
  |some (.done r)=>ς r
  |none=>ξ
def CZ(f:σ->τ):Option (ci σ ρ)->Option (ci τ ρ)
 |some (.next s)=>ς (.next (f s))
 |some (.done r)=>ς (.done r)
 |none=>ξ
@[simp] theorem stepM_next (f:σ->τ) (s:σ):CZ (ρ:=ρ) f (ς (.next s))=ς (.next (f s)):=rfl
@[simp] theorem stepM_done (f:σ->τ) (r:ρ):CZ f (ς (.done r))=ς (.done r):=rfl
@[simp] theorem stepM_none (f:σ->τ):CZ (ρ:=ρ) f ξ=none:=rfl
@[simp] theorem stepM_cond (f:σ->τ) (b:Bool) (x y:Option (ci σ ρ)):CZ f (bif b then x else y)=bif b then CZ f x else CZ f y:=by cases b<;>rfl
@[simp] theorem stepM_bind (f:σ->τ) (o:Option α) (k:α->Option (ci σ ρ)):CZ f (acE o k)=acE o (λa=>CZ f (k a)):=by cases o<;>rfl
@[simp] theorem dn_some (r:ρ):dn (σ:=σ) (ς r)=ς (.done r):=rfl
@[simp] theorem dn_none {ρ:Type}:dn (σ:=σ) (ρ:=ρ) ξ=none:=rfl
theorem eG{step:τ->Option (ci τ ρ)}(xs:List α)(mk:Nat->σ->τ)(body:σ->α->Option (ci σ ρ))(fin:σ->Option ρ)(hl:xs.length<=9223372036854775806)(hs:∀(k:Nat) (x:α) (s:σ),xs[k]?=ς x->k<xs.length->step (mk k s)=CZ (mk (k+1)) (body s x))(he:∀s,step (mk xs.length s)=dn (fin s))(s0:σ):iter step FU (mk 0 s0)=lU body fin xs s0:=by
 have key:∀(m n:Nat) (s:σ) (k:Nat),m=xs.length-k->k<=xs.length->m<n->iter step n (mk k s)=lU body fin (xs.drop k) s:=by
  intro m
  induction m with
  |zero=>
   intro n s k hm hk hn
   cases n with
   |zero=>omega
   |succ n=>
    have:k=xs.length:=by omega
    subst this
    rw[adk,lU,iter,he]
    cases fin s<;>rfl
  |succ m ih=>
   intro n s k hm hk hn
   cases n with
   |zero=>omega
   |succ n=>
    have hlt:k<xs.length:=by omega
    rw[aby hlt,lU,iter,hs k xs[k] s (zz330 hlt) hlt]
    cases hb:body s xs[k] with
    |none=>rfl
    |some o=>
     cases o with
     |done r=>rfl
     |next s'=>exact ih n s' (k+1) oaa oaa oaa
 have:=key (xs.length-0) FU s0 0 rfl (aaT _) (by have:=ie;omega)
 simp_all
theorem bm(xs:List α)(k:Nat):ix xs (k:Int)=xs[k]?:=by simp[ix,leB]
theorem bJ{n:Int}(h: -9223372036854775808<=n/\n<=9223372036854775807):WR n=n:=K3 h
theorem zz396(h:k<9223372036854775807):WR ((k:Int)+1)=((k+1:Nat):Int):=by rw[bJ oaa];omega
theorem WRs(h:k<9223372036854775807:=by omega):WR ((k:Int)+1)=((k+1:Nat):Int):=zz396 h
theorem rt{p:Prop}(h:p:=by first|rfl|trivial):p:=h
theorem ct{a b:Nat}(h:a<b):ltB (a:Int) (b:Int)=true:=by simp[ltB,h]
theorem zz337(a:Int):ltB a a=false:=by simp[ltB]
theorem bv(a:Int):eqB a a=true:=by simp[eqB]
theorem Sj{step:Int×List β->Option (ci (Int×List β) (List β))}(f:α->β)(z:β)(xs:List α)(hl:xs.length<=9223372036854775806)(hs:∀(k:Nat) (x:α) (v:List β),xs[k]?=ς x->v.length=xs.length->step ((k:Int),v)=ς (.next (((k+1:Nat):Int),v.set k (f x))))(he:∀v,step ((xs.length:Nat),v)=ς (.done v)):iter step FU (0,aaI xs.length z)=ς (xs.map f):=by
 have key:∀(m n:Nat) (k:Nat),m=xs.length-k->k<=xs.length->m<n->iter step n ((k:Int),(xs.take k).map f++aaI (xs.length-k) z)=ς (xs.map f):=by
  intro m
  induction m with
  |zero=>
   intro n k hm hk hn
   cases n with
   |zero=>omega
   |succ n=>
    have:k=xs.length:=by omega
    subst this
    rw[iter,he]
    simp
  |succ m ih=>
   intro n k hm hk hn
   cases n with
   |zero=>omega
   |succ n=>
    have hlt:k<xs.length:=by omega
    rw[iter,hs k xs[k] _ (zz330 hlt) (by simp;omega)]
    have e:((xs.take k).map f++aaI (xs.length-k) z).set k (f xs[k])=(xs.take (k+1)).map f++aaI (xs.length-(k+1)) z:=by
     apply acT
     intro j
     rw[acf]
     by_cases hj:k=j
     .grind
     grind
    grind
 have:=key (xs.length-0) FU 0 rfl (aaT _) (by have:=ie;omega)
 simp_all
attribute [local simp] zz337 bv bm
def okL(ok:α->Prop)(xs:List α):Prop:=xs.length<=1048576/\∀x∈xs,ok x
def preL(pre:α->Prop)(xs:List α):Prop:=xs.length<=9223372036854775807/\∀x∈xs,pre x
theorem zz72{α ρ:Type}{body:Unit->α->Option (ci Unit ρ)}{fin:Unit->Option ρ}:∀(xs:List α),(∀x∈xs,body () x=ς (.next ()))->lU body fin xs ()=fin ()
 |[],_=>rfl
 |x::xs,h=>by rw[lU,h x (by simp)];exact zz72 xs (λy hy=>h y (by simp[hy]))
theorem lt0_t{r:Int}(h:r<0):ltB r 0=true:=by simp[ltB,h]
theorem lt0_f{r:Int}(h:0<=r):ltB r 0=false:=by simp_all
def zz425(by_:Nat)(p:α->Bool)(f:α->β)(acc:List β)(x:α):Option (ci (List β) (List β)):=
 bif p x then(bif cW by_ (acc++[f x]).length then ς (.next (acc++[f x])) else ξ) else ς (.next acc)
theorem zz433{α β:Type}{by_:Nat}(hb:by_<=100000)(p:α->Bool)(f:α->β):∀(xs:List α) (acc:List β),acc.length+xs.length<=1048576->lU (zz425 by_ p f) ς xs acc=ς (acc++(xs.filter p).map f)
 |[],acc,h=>by simp[lU]
 |x::xs,acc,h=>by
  simp only[aaS] at h
  rw[lU]
  cases hp:p x with
  |false=>
   rw[List.filter_cons_of_neg (by simp[hp])]
   simpa [zz425,hp] using zz433 hb p f xs acc oaa
  |true=>
   have ha:cW by_ (acc++[f x]).length=true:=by
    have h1:(acc++[f x]).length*by_<=1048577*100000:=ac5 (by simp;omega) hb
    simp only[cW,decide_eq_true_eq]
    refine⟨by omega,by simp;omega⟩
   rw[List.filter_cons_of_pos (by simp[hp])]
   simp only[zz425,hp,ha,cond_true]
   rw[zz433 hb p f xs (acc++[f x]) (by simp;omega)]
   simp
theorem zz343{by_ n:Nat}(hb:by_<=100000)(hn:n<=1048577):cW by_ n=true:=by
 have h1:n*by_<=1048577*100000:=ac5 hn hb
 simp only[cW,decide_eq_true_eq]
 omega
def yx(n:Int):Prop:=0<=n/\n<=255
theorem wf_u8{n:Int}(h:(Lit.int .u8 n).wf=ζ):yx n:=by
 simp[Lit.wf,IntKind.min,IntKind.max,IntKind.signed,IntKind.bits] at h
 exact⟨by omega,by omega⟩
theorem zz441{L:Int->Option (ci Int Int)}(xs:List α)(p:α->Bool)(hl:xs.length<=9223372036854775806)(hs:∀(k:Nat) (x:α),xs[k]?=ς x->k<xs.length->L (k:Int)=bif p x then ς (.done (k:Int)) else ς (.next ((k+1:Nat):Int)))(he:L (xs.length:Int)=ς (.done (-1))):
 iter L FU 0=ς (ni p 0 xs):=by
 have key:∀(m n:Nat) (k:Nat),m=xs.length-k->k<=xs.length->m<n->iter L n (k:Int)=ς (ni p k (xs.drop k)):=by
  intro m
  induction m with
  |zero=>
   intro n k hm hk hn
   cases n with
   |zero=>omega
   |succ n=>
    have:k=xs.length:=by omega
    subst this
    rw[iter,he,adk,ni]
  |succ m ih=>
   intro n k hm hk hn
   cases n with
   |zero=>omega
   |succ n=>
    have hlt:k<xs.length:=by omega
    rw[iter,hs k xs[k] (zz330 hlt) hlt,VC hlt]
    cases p xs[k] with
    |true=>rfl
    |false=>grind
 have:=key (xs.length-0) FU 0 rfl (aaT _) (by have:=ie;omega)
 simp_all
theorem Do{α:Type}(p:α->Bool):∀(xs:List α) (i:Nat),ni p (i:Int) xs= -1/\(∀x∈xs,p x=η)\/∃j:Nat,ni p (i:Int) xs=((i+j:Nat):Int)/\∃x,xs[j]?=ς x/\p x=ζ/\∀y∈xs.take j,p y=η
 |[],i=>.inl ⟨rfl,by simp⟩
 |x::xs,i=>by
  rw[ni]
  cases hp:p x with
  |true=>exact .inr ⟨0,by simp,x,rfl,hp,by simp⟩
  |false=>
   rcases Do p xs (i+1) with⟨h1,h2⟩|⟨j,h1,y,h2,h3,h4⟩
   .simp_all
   refine .inr ⟨j+1,?_,y,by simp_all,h3,by simp_all⟩
   grind
theorem zz160{L:Int->Option (ci Int Bool)}(xs:List α)(p:α->Bool)(hl:xs.length<=9223372036854775806)(hs:∀(k:Nat) (x:α),xs[k]?=ς x->k<xs.length->L (k:Int)=bif p x then ς (.done ζ) else ς (.next ((k+1:Nat):Int)))(he:L (xs.length:Int)=ς (.done η)):
 iter L FU 0=ς (xs.any p):=by
 have:=eG (step:=L) xs (λk (_:Unit)=>(k:Int)) (λ_ x=>bif p x then ς (.done ζ) else ς (.next ())) (λ_=>ς η) hl
  (λk x s hx hk=>by simp_all) (λs=>by rw[he];rfl) ()
 refine Eq.trans (show iter L FU 0=_ from this) ?_
 have key:∀xs:List α,lU (λ(_:Unit) x=>bif p x then ς (ci.done ζ) else ς (.next ())) (λ_=>ς η) xs ()=ς (xs.any p):=by
  intro xs
  induction xs with
  |nil=>rfl
  |cons x xs ih=>rw[lU];grind
 exact key xs
theorem zz263{L:Int->Option (ci Int Bool)}(xs:List α)(p:α->Bool)(hl:xs.length<=9223372036854775806)(hs:∀(k:Nat) (x:α),xs[k]?=ς x->k<xs.length->L (k:Int)=bif p x then ς (.next ((k+1:Nat):Int)) else ς (.done η))(he:L (xs.length:Int)=ς (.done ζ)):
 iter L FU 0=ς (xs.all p):=by
 have:=eG (step:=L) xs (λk (_:Unit)=>(k:Int)) (λ_ x=>bif p x then ς (.next ()) else ς (.done η)) (λ_=>ς ζ) hl
  (λk x s hx hk=>by simp_all) (λs=>by rw[he];rfl) ()
 refine Eq.trans (show iter L FU 0=_ from this) ?_
 have key:∀xs:List α,lU (λ(_:Unit) x=>bif p x then ς (.next ()) else ς (ci.done η)) (λ_=>ς ζ) xs ()=ς (xs.all p):=by
  intro xs
  induction xs with
  |nil=>rfl
  |cons x xs ih=>rw[lU];grind
 exact key xs
theorem allK{L:Int->Option (ci Int Bool)}(xs:List α)(p:Nat->α->Bool)(c:Option Bool)(hl:xs.length<=9223372036854775806)(hs:∀(k:Nat) (x:α),xs[k]?=ς x->k<xs.length->L (k:Int)=bif p k x then ς (.next ((k+1:Nat):Int)) else ς (.done η))(he:L (xs.length:Int)=dn c):
 iter L FU 0=bif xs.zipIdx.all (λy=>p y.2 y.1) then c else ς false:=by
 have:=eG (step:=L) xs.zipIdx (λk (_:Unit)=>(k:Int)) (λ_ y=>bif p y.2 y.1 then ς (.next ()) else ς (.done η)) (λ_=>c) (by simp_all)
  (λk y s hy hk=>by
   have hk':k<xs.length:=by simpa using hk
   have:y=(xs[k],k):=by rw[zz330 hk] at hy;simpa using hy.symm
   simp_all) (λs=>by simp_all) ()
 refine Eq.trans (show iter L FU 0=_ from this) ?_
 have key:∀ys:List (α×Nat),lU (λ(_:Unit) y=>bif p y.2 y.1 then ς (.next ()) else ς (ci.done η)) (λ_=>c) ys ()=bif ys.all (λy=>p y.2 y.1) then c else ς false:=by
  intro ys
  induction ys with
  |nil=>rfl
  |cons x xs ih=>rw[lU];grind
 exact key _
def inR(n a b:Int):Bool:=leB a n&&leB n b
theorem bU{n a:Int}:inR n a b=ζ↔a<=n/\n<=b:=by simp[inR,leB]
theorem BK{n:Nat}(h:n<=1048576):WR ((n:Int)-1)=(n:Int)-1:=bJ oaa
theorem zz271{xs:List α}(h0:0<=i)(h1:i<xs.length):∃x,x∈xs/\ix xs i=ς x:=by
 obtain⟨k,rfl⟩:=Int.eq_ofNat_of_zero_le h0
 have hk:k<xs.length:=by omega
 exact⟨xs[k],acU hk,by rw[bm,zz330 hk]⟩
theorem Il(b:Bool):booB b b=true:=by simp
def rgI(k:IntKind)(n:Int):Prop:=(Lit.int k n).wf=ζ
theorem WT.rg{k:IntKind}{n:Int}(h:WT (.i k) (.i k n)):rgI k n:=by
 cases h with|i h=>exact h
theorem zz211{α:Type}{e:List Sh}{f:α->List D}:∀{xs:List α},WTL e (xs.map f)->∀x∈xs,WTs e (f x)
 |[],_,x,hx=>by cases hx
 |y::ys,h,x,hx=>by
  cases h with
  |cons h1 h2=>
   rcases aaK.1 hx with rfl|hx
   .exact h1
   exact zz211 h2 x hx
theorem WT.rl{e:List Sh}{f:α->List D}{xs:List α}(h:WT (.l e) (.l (xs.map f))):∀x∈xs,WTs e (f x):=by
 cases h with|l hl h=>exact zz211 h
def Wp(m:Option α)(Q:α->Prop):Prop:=match m with
 |some a=>Q a
 |none=>False
theorem Wp.ex{m:Option α}{Q:α->Prop}(h:Wp m Q):∃a,m=ς a/\Q a:=by
 cases m with
 |none=>exact h.elim
 |some a=>exact⟨a,rfl,h⟩
theorem Wp.of{m:Option α}{Q:α->Prop}{a:α}(h:m=ς a)(q:Q a):Wp m Q:=by subst h;exact q
theorem Wp.some{α:Type}{a:α}{Q:α->Prop}(h:Q a):Wp (ς a) Q:=h
theorem Wp.bind{m:Option α}{k:α->Option β}{Q:β->Prop}(h:Wp m (λa=>Wp (k a) Q)):Wp (acE m k) Q:=by
 cases m with
 |none=>exact h.elim
 |some a=>exact h
theorem Wp.mono{m:Option α}{P Q:α->Prop}(h:Wp m P)(k:∀a,P a->Q a):Wp m Q:=by
 cases m with
 |none=>exact h.elim
 |some a=>exact k a h
theorem Wp.call{m:Option α}{k:α->Option β}{P:α->Prop}{Q:β->Prop}(h:Wp m P)(hk:∀a,P a->Wp (k a) Q):Wp (acE m k) Q:=Wp.bind (h.mono hk)
theorem Wp.eq{m:Option α}{k:α->Option β}{a:α}{Q:β->Prop}(h:m= .some a)(hk:Wp (k a) Q):Wp (acE m k) Q:=by subst h;exact hk
theorem Wp.cond{b:Bool}{x y:Option α}{Q:α->Prop}(h1:b=ζ->Wp x Q)(h0:b=η->Wp y Q):Wp (bif b then x else y) Q:=by
 cases b
 .exact h0 rfl
 exact h1 rfl
theorem Wp.ok{b:Bool}{x:Option α}{Q:α->Prop}(hb:b=ζ)(h:Wp x Q):Wp (bif b then x else ξ) Q:=by subst hb;exact h
theorem Wp.iter{step:σ->Option (ci σ ρ)}{Q:ρ->Prop}(I:σ->Prop)(μ:σ->Nat)(h:∀x,I x->Wp (step x) (λs=>match s with| .next x'=>I x'/\μ x'<μ x| .done r=>Q r)):
 ∀(n:Nat) (x:σ),I x->μ x<n->Wp (AM.iter step n x) Q
 |0,_,_,h=>by omega
 |n+1,x,hI,hn=>by
  obtain⟨s,e,hs⟩:=(h x hI).ex
  rw[AM.iter,e]
  cases s with
  |next x'=>exact Wp.iter I μ h n x' hs.1 (by have:=hs.2;omega)
  |done r=>exact hs
theorem Wp.iterF{step:σ->Option (ci σ ρ)}{Q:ρ->Prop}(I:σ->Prop)(μ:σ->Nat){x:σ}(hI:I x)(hn:μ x<=1000000000000)(h:∀x,I x->Wp (step x) (λs=>match s with| .next x'=>I x'/\μ x'<μ x| .done r=>Q r)):Wp (AM.iter step FU x) Q:=
 Wp.iter I μ h FU x hI (by have:=ie;omega)
theorem Wp.dn{m:Option ρ}{Q:ci σ ρ->Prop}(h:Wp m (λr=>Q (.done r))):Wp (AM.dn m) Q:=by
 cases m with
 |none=>exact h.elim
 |some r=>exact h
theorem Wp.ix{xs:List α}{k:α->Option β}{Q:β->Prop}(h0:0<=i)(h1:i<xs.length)(hk:∀x,x∈xs->xs[i.toNat]?= .some x->Wp (k x) Q):Wp (acE (AM.ix xs i) k) Q:=by
 have hl:i.toNat<xs.length:=by omega
 have hx:xs[i.toNat]?= .some xs[i.toNat]:=zz330 hl
 refine Wp.eq (a:=xs[i.toNat]) ?_ (hk _ (acU hl) hx)
 unfold AM.ix
 rw[show leB 0 i=ζ from by simp[leB,h0]]
 exact hx
theorem zz369{a:Int}(h:ltB a b=ζ):a<b:=ltB_t.1 h
theorem zz412{a:Int}(h:ltB a b=η):b<=a:=ltB_f.1 h
theorem y3{a:Int}(h:leB a b=ζ):a<=b:=leB_t.1 h
theorem zz472{a:Int}(h:leB a b=η):b<a:=leB_f.1 h
theorem zz424{a:Int}(h:eqB a b=ζ):a=b:=eqB_t.1 h
theorem zz186{a:Int}(h:eqB a b=η):a≠b:=eqB_f.1 h
theorem ew{b n:Nat}(h:n*b<=140737488355328)(h':n<=9223372036854775807):cW b n=true:=by simp[cW,h,h']
def Ko(a:dY):Prop:=okL (λ_=>True) a.cM
def eZ(a:aZ):Prop:=okL Ko a.bp
def eQ(a:ab):Prop:=okL (λ_=>True) a.bk
def zz408(a:bI):Prop:=okL (λ_=>True) a.bk
def zz351(a:aM):Prop:=okL eQ a.aA/\okL zz408 a.bi
def zz349(a:aC):Prop:=zz351 a.bW
def eA(a:bO):Prop:=okL (λ_=>True) a.bQ
def zz353(a:aV):Prop:=okL eQ a.aF
def dS(a:ag):Prop:=eA a.gB/\okL zz408 a.aS/\zz353 a.aK
def zz357(a:aj):Prop:=okL (λ_=>True) a.an
def zz428(a:bw):Prop:=okL (λ_=>True) a.bk
def zz402(a:aD):Prop:=zz428 a.bL
def ke(a:bA):Prop:=zz402 a.ct
def zz364(a:ae):Prop:=eZ a.d7/\okL zz349 a.ax/\okL dS a.aJ/\okL zz357 a.bD/\okL ke a.aT
open Go.Proofs
def ig(p:Nat->α->Bool)(xs:List α):Bool:=xs.zipIdx.all (λy=>p y.2 y.1)
theorem eO{p:Nat->α->Bool}{xs:List α}:ig p xs=ζ↔∀(k:Nat) (x:α),xs[k]?=ς x->p k x=true:=by
 unfold ig
 rw[aaM]
 constructor
 .intro h k x hx
  exact h (x,k) (by grind)
 grind
theorem NB{p q:Nat->α->Bool}{xs:List α}(h:∀(k:Nat) (x:α),xs[k]?=ς x->p k x=q k x):ig p xs=ig q xs:=by
 rw[acJ,eO,eO]
 simp_all
theorem zz159{p q:Nat->α->Bool}{xs:List α}:(ig p xs&&ig q xs)=ig (λk x=>p k x&&q k x) xs:=by
 rw[acJ,hV,eO,eO,eO]
 grind
theorem zz423{p:α->Bool}{xs:List α}:ig (λ_ x=>p x) xs=xs.all p:=by
 rw[acJ,eO,aaM]
 constructor
 .intro h x hx
  obtain⟨k,hk,rfl⟩:=List.getElem_of_mem hx
  exact h k _ (zz330 hk)
 grind
theorem gj{L:Int->Option (ci Int Bool)}(xs:List α)(p:Nat->α->Bool)(c:Option Bool)(hl:xs.length<=9223372036854775806)(hs:∀(k:Nat) (x:α),xs[k]?=ς x->k<xs.length->L (k:Int)=bif p k x then ς (.next ((k+1:Nat):Int)) else ς (.done η))(he:L (xs.length:Int)=dn c):
 iter L FU 0=bif ig p xs then c else ς false:=allK xs p c hl hs he
theorem zz459{xs:List α}(hk:k<xs.length)(h0:0<k)(hl:xs.length<=9223372036854775806):∃y,xs[k-1]?=ς y/\ix xs (WR ((k:Int)-1))=ς y:=by
 have h1:k-1<xs.length:=by omega
 refine⟨xs[k-1],zz330 h1,?_⟩
 rw[bJ oaa,show((k:Int)-1)=((k-1:Nat):Int) from by omega,bm,zz330 h1]
def ku(key:α->Int)(xs:List α)(k:Nat)(x:α):Bool:=match k with
 |0=>ζ
 |j+1=>match xs[j]? with
  |some y=>!leB (key x) (key y)
  |none=>η
def asc(xs:List Int):Bool:=ig (ku id xs) xs
theorem zz360(a b c:Int):cd a b c=ς (inR a b c):=by
 unfold cd inR
 grind
theorem zz355(a b c:Int):dD a b c=ς (inR a b c):=by
 unfold dD inR
 grind
theorem zz209{xs:List Int}(h:xs.length<=1048576):pb xs=ς (asc xs):=by
 have key:∀(n m:Nat) (j:Nat),j+n=xs.length->1<=j->n<m->∃b,iter (lb xs) m (j:Int)=ς b/\(b=ζ↔∀k x,j<=k->xs[k]?=ς x->ku id xs k x=ζ):=by
  intro n
  induction n with
  |zero=>
   intro m j hj h1 hm
   cases m with
   |zero=>omega
   |succ m=>
    simp only[iter,lb]
    simp_all
  |succ n ih=>
   intro m j hj h1 hm
   cases m with
   |zero=>omega
   |succ m=>
    have hjl:j<xs.length:=by omega
    obtain⟨y,hy,hi⟩:=zz459 hjl oaa oaa
    simp only[iter,lb]
    rw[ct hjl,hi,bm,zz330 hjl]
    simp only[au]
    obtain⟨i,rfl⟩:∃i,j=i+1:=⟨j-1,by omega⟩
    simp only[acO] at hy
    cases hle:leB xs[i+1] y with
    |true=>
     refine⟨η,rfl,(λh=>by cases h),λhh=>?_⟩
     have:=hh (i+1) _ (aaL _) (zz330 hjl)
     simp[ku,hy,hle] at this
    |false=>
     simp only[cond_false]
     rw[WRs (k:=i+1)]
     obtain⟨b,hb,hi⟩:=ih m (i+1+1) oaa oaa oaa
     refine⟨b,hb,hi.trans ⟨λhh k x hk hx=>?_,λhh k x hk hx=>hh k x oaa hx⟩⟩
     by_cases e:k=i+1
     .subst e
      rw[zz330 hjl] at hx;cases hx
      simp[ku,hy,hle]
     grind
 unfold pb
 cases hx:xs with
 |nil=>
  have:FU=(FU-1)+1:=by have:=ie;omega
  rw[this,iter]
  simp[lb,dn,ltB,asc,ig]
 |cons a l=>
  rw[<-hx]
  obtain⟨b,hb,hi⟩:=key (xs.length-1) FU 1 (by grind) (aaL _) (by have:=ie;omega)
  rw[show(1:Int)=((1:Nat):Int) from rfl,hb]
  congr 1
  rw[acJ,hi,asc,eO]
  constructor
  .intro hh k x hk
   cases k with
   |zero=>rfl
   |succ k=>simp_all
  simp_all
def p6(k:Int):Bool:=inR k 1 2147483646
theorem zz151(k:Int):gN k=ς (p6 k):=by simp only[gN,zz360,acH,p6]
theorem zz175(k:Int):iA k=ς (p6 k):=by simp only[iA,zz355,acH,p6]
def zz101(x:dq):Bool:=inR x.d4 0 3&&inR x.bZ 0 99
theorem sid_i(x:dq):gO x=ς (zz101 x):=by
 simp only[gO,zz360,acH,zz101];grind
theorem sid_s(x:dq):gU x=ς (zz101 x):=by
 simp only[gU,zz355,acH,zz101];grind
def ui(x:jG):Bool:=zz101 x.ID&&(p6 x.fA&&inR x.c8 0 999999)
theorem zz299(x:jG):oU x=ς (ui x):=by
 simp only[oU,sid_i,zz151,zz360,acH,ui];grind
theorem zz300(x:jG):pC x=ς (ui x):=by
 simp only[pC,sid_s,zz175,zz355,acH,ui];grind
def zz429(x:aU):Bool:=zz101 x.ID&&(p6 x.fA&&inR x.cX 0 999999)
theorem rec_i(x:aU):fC x=ς (zz429 x):=by
 simp only[fC,sid_i,zz151,zz360,acH,zz429];grind
theorem zz283(x:aU):eK x=ς (zz429 x):=by
 simp only[eK,sid_s,zz175,zz355,acH,zz429];grind
def jO(x:cV):Bool:=inR x.fF 0 2&&(inR x.eT 0 4&&inR x.eU 0 3)
theorem WH(x:cV):oT x=ς (jO x):=by
 simp only[oT,zz360,acH,jO];grind
theorem zz279(x:cV):pB x=ς (jO x):=by
 simp only[pB,zz355,acH,jO];grind
def kw(x:bE):Bool:=inR x.fy 1 6&&inR x.fj 0 (WR ((mD .i64 1 x.fy)-1))
theorem zz147(x:bE):kD x=ς (kw x):=by
 simp only[kD,zz360,acH,kw]
 cases h:inR x.fy 1 6 with
 |false=>rfl
 |true=>rw[show leB 0 x.fy=ζ from by rw[bU] at h;simp[leB];omega];rfl
theorem zz199(x:bE):mJ x=ς (kw x):=by
 simp only[mJ,zz355,acH,kw]
 cases h:inR x.fy 1 6 with
 |false=>rfl
 |true=>rw[show leB 0 x.fy=ζ from by rw[bU] at h;simp[leB];omega];rfl
def kS(x:cY):Bool:=leB 0 x.aO&&(leB 0 x.eH&&(leB x.eH x.cP&&leB x.cP 100000))
theorem EI(x:cY):jC x=ς (kS x):=by
 simp only[jC,acH,kS];grind
theorem zz39(x:cY):iB x=ς (kS x):=by
 have:kS x=(leB 0 x.aO&&(inR x.cP 0 100000&&inR x.eH 0 x.cP)):=by
  rw[acJ];simp[kS,inR,leB];omega
 rw[this]
 simp only[iB,zz355,acH];grind
def zz471(n:Nat):Bool:=!ltB 60 (n:Int)
def AO(xs:List bI):Bool:=xs.all λx=>zz471 x.bk.length
theorem fit_i{xs:List bI}(h:xs.length<=1048576):uG xs=ς (AO xs):=
 zz263 xs (λx=>zz471 x.bk.length) oaa (λk x hx hk=>by
  simp only[tC,ct hk,bm,hx,WRs (k:=k),zz471,au]
  simp_all) (by simp[tC,dn])
def Cu(r:aM)(k:Nat)(x:ab):Bool:=inR x.cX (WR (r.bB+1)) (WR (WR (r.bB+8)-1))&&(ku ab.cX r.aA k x&&zz471 x.bk.length)
def zz379(r:aM):Bool:=eqB r.bB (WR ((r.bi.length:Int)+1))&&(leB (r.bi.length:Int) 24&&(AO r.bi&&(leB (r.aA.length:Int) 8&&ig (Cu r) r.aA)))
theorem zz420(a b:Int):ltB a b=!leB b a:=by rw[acJ];simp_all
theorem zz274(h1:r.bi.length<=1048576)(h2:r.aA.length<=1048576):jV r=ς (zz379 r):=by
 have hL:iter (jK r) FU 0=bif ig (Cu r) r.aA then ς ζ else ς false:=by
  refine gj r.aA (Cu r) (ς ζ) oaa (λk x hx hk=>?_) (by simp[jK])
  simp only[jK,ct hk,bm,hx,WRs (k:=k),zz360,Cu,zz471,au]
  cases k with
  |zero=>
   simp only[ku,show ltB 0 ((0:Nat):Int)=η from by simp[ltB]]
   cases ltB 60 (x.bk.length:Int)<;>cases inR x.cX (WR (r.bB+1)) (WR (WR (r.bB+8)-1))<;>rfl
  |succ k=>
   obtain⟨y,hy,hi⟩:=zz459 hk oaa oaa
   simp only[acO] at hy
   simp only[ku,hy,hi,show ltB 0 ((k+1:Nat):Int)=ζ from by simp[ltB],acH]
   cases ltB 60 (x.bk.length:Int)<;>cases inR x.cX (WR (r.bB+1)) (WR (WR (r.bB+8)-1))<;>cases leB x.cX y.cX<;>rfl
 simp only[jV,fit_i h1,acH,hL,zz379,zz420 24,zz420 8]
 grind
theorem zz201(h1:r.bi.length<=1048576)(h2:r.aA.length<=1048576):iH r=ς (zz379 r):=by
 have hF:iter (iv r) FU 0=bif ig (λ_ x=>zz471 x.bk.length) r.bi then ς (eqB r.bB (WR ((r.bi.length:Int)+1))&&(leB (r.bi.length:Int) 24&&leB (r.aA.length:Int) 8)) else ς false:=by
  refine gj r.bi (λ_ x=>zz471 x.bk.length) _ oaa (λk x hx hk=>?_) ?_
  .simp only[iv,ct hk,bm,hx,WRs (k:=k),zz471,au]
   simp_all
  simp only[iv,zz337,cond_false]
  grind
 have hL:iter (jL r) FU 0=bif ig (Cu r) r.aA then iter (iv r) FU 0 else ς false:=by
  refine gj r.aA (Cu r) _ oaa (λk x hx hk=>?_) (by simp[jL])
  simp only[jL,ct hk,bm,hx,WRs (k:=k),zz355,Cu,zz471,au]
  cases k with
  |zero=>
   simp only[ku,show ltB 0 ((0:Nat):Int)=η from by simp[ltB]]
   cases ltB 60 (x.bk.length:Int)<;>cases inR x.cX (WR (r.bB+1)) (WR (WR (r.bB+8)-1))<;>rfl
  |succ k=>
   obtain⟨y,hy,hi⟩:=zz459 hk oaa oaa
   simp only[acO] at hy
   simp only[ku,hy,hi,show ltB 0 ((k+1:Nat):Int)=ζ from by simp[ltB],acH]
   cases ltB 60 (x.bk.length:Int)<;>cases inR x.cX (WR (r.bB+1)) (WR (WR (r.bB+8)-1))<;>cases leB x.cX y.cX<;>rfl
 rw[zz423] at hF
 simp only[iH,hL,hF,zz379,AO]
 grind
def zz380(d:aC):Bool:=ui d.dO&&(inR d.bz 0 3&&(inR d.bh 0 5&&(inR d.ah 0 999999&&(inR d.aY 0 999999&&(inR d.bg 0 2147483646&&((!inR d.bz 2 3||p6 d.bg)&&(inR d.eU 0 3&&zz379 d.bW)))))))
theorem st23(n:Int):inR n 2 3=(eqB n 2||eqB n 3):=by rw[acJ];simp[inR,leB,eqB];omega
theorem UU{d:aC}(h1:d.bW.bi.length<=1048576)(h2:d.bW.aA.length<=1048576):oQ d=ς (zz380 d):=by
 simp only[oQ,zz299,zz360,zz151,zz274 h1 h2,acH,zz380,st23]
 grind
theorem zz261{d:aC}(h1:d.bW.bi.length<=1048576)(h2:d.bW.aA.length<=1048576):py d=ς (zz380 d):=by
 simp only[py,zz300,zz355,zz175,zz201 h1 h2,acH,zz380]
 grind
theorem zz446{α:Type}{step:Int×Int->Option (ci (Int×Int) Int)}(xs:List α)(f:Int->α->Int)(hl:xs.length<=9223372036854775806)(hs:∀(k:Nat) (x:α) (a:Int),xs[k]?=ς x->k<xs.length->step (a,(k:Int))=ς (.next (f a x,((k+1:Nat):Int))))(he:∀a,step (a,(xs.length:Int))=ς (.done a))(a0:Int):
 iter step FU (a0,0)=ς (xs.foldl f a0):=by
 have:=eG (step:=step) xs (λk (v:Int)=>(v,(k:Int))) (λv x=>ς (.next (f v x))) ς hl
  (λk x s hx hk=>by simp_all) (λs=>by rw[he];rfl) a0
 refine Eq.trans (show iter step FU (a0,0)=_ from this) ?_
 clear this he hs
 induction xs generalizing a0 with
 |nil=>rfl
 |cons x xs ih=>rw[lU,acZ];grind
def xz(xs:List ab):Int:=xs.foldl (λa x=>WR (a+(x.bk.length:Int))) 0
theorem nb_i{xs:List ab}(h:xs.length<=1048576):pf xs=ς (xz xs):=by
 unfold pf
 rw[zz446 xs (λa x=>WR (a+(x.bk.length:Int))) oaa (λk x a hx hk=>by
  simp only[ph,ct hk,bm,hx,WRs (k:=k),au]) (λa=>by simp[ph])]
 rfl
theorem Wl{xs:List ab}(h:xs.length<=1048576):oC xs=ς (xz xs):=by
 unfold oC
 rw[zz446 xs (λa x=>WR (a+(x.bk.length:Int))) oaa (λk x a hx hk=>by
  simp only[xL,ct hk,bm,hx,WRs (k:=k),au]) (λa=>by simp[xL])]
 rfl
def zz148(q:cY):Int:=bif kS q then WR (q.cP-q.eH) else 0
theorem rem_i(q:cY):kX q=ς (zz148 q):=by simp only[kX,EI,acH,zz148];grind
theorem W5(q:cY):je q=ς (zz148 q):=by simp only[je,zz39,acH,zz148];grind
def Gx(p:bO):Bool:=inR p.jS 1 1000&&(inR p.jO 1 4&&inR p.eB 1 100000)
def zz400(p:bO):Bool:=Gx p&&ig (λk x=>inR x 0 3&&ku id p.bQ k x) p.bQ
theorem subs_i{p:bO}(h:eA p):jh p=ς (zz400 p):=by
 have hl:=h.1
 have hL:iter (g7 p) FU 0=bif ig (λ_ x=>inR x 0 3) p.bQ then ς (asc p.bQ) else ς false:=by
  refine gj p.bQ (λ_ x=>inR x 0 3) _ oaa (λk x hx hk=>?_) (by simp[g7,zz209 hl])
  simp only[g7,ct hk,bm,hx,WRs (k:=k),zz360,au]
  cases inR x 0 3<;>rfl
 simp only[jh,zz360,acH,hL,zz400,Gx,<-zz159,asc]
 grind
theorem zz296{p:bO}(h:eA p):gX p=ς (zz400 p):=by
 have hl:=h.1
 have hL:iter (hP p) FU 0=bif ig (λk x=>inR x 0 3&&ku id p.bQ k x) p.bQ then ς (Gx p) else ς false:=by
  refine gj p.bQ _ _ oaa (λk x hx hk=>?_) ?_
  .simp only[hP,ct hk,bm,hx,WRs (k:=k),zz355,au]
   cases k with
   |zero=>
    simp only[ku,show ltB 0 ((0:Nat):Int)=η from by simp[ltB]]
    cases inR x 0 3<;>rfl
   |succ k=>
    obtain⟨y,hy,hi⟩:=zz459 hk oaa oaa
    simp only[acO] at hy
    simp only[ku,hy,hi,hx,bm,show ltB 0 ((k+1:Nat):Int)=ζ from by simp[ltB],acH,id]
    cases inR x 0 3<;>cases leB x y<;>rfl
  simp only[hP,zz337,zz355,Gx,au]
  grind
 simp only[gX,hL,zz400]
 grind
def unB(w:aV)(k:Nat)(x:ab):Bool:=eqB x.cX (WR (WR (w.bB-(w.aF.length:Int))+(k:Int)))&&zz471 x.bk.length
def jw(w:aV):Bool:=inR w.bB 1 100000&&(leB (w.aF.length:Int) 8&&(leB 1 (WR (w.bB-(w.aF.length:Int)))&&ig (unB w) w.aF))
theorem zz172(h:zz353 w):mb w=ς (jw w):=by
 have hl:=h.1
 have hL:iter (lK w) FU 0=bif ig (unB w) w.aF then ς ζ else ς false:=by
  refine gj w.aF (unB w) _ oaa (λk x hx hk=>?_) (by simp[lK])
  simp only[lK,ct hk,bm,hx,WRs (k:=k),unB,zz471,au]
  cases eqB x.cX (WR (WR (w.bB-(w.aF.length:Int))+(k:Int)))<;>cases ltB 60 (x.bk.length:Int)<;>rfl
 simp only[mb,zz360,acH,hL,jw,zz420]
 grind
theorem zz85(h:zz353 w):mq w=ς (jw w):=by
 have hl:=h.1
 have hL:iter (lS w) FU 0=bif ig (unB w) w.aF then ς (inR w.bB 1 100000&&(leB (w.aF.length:Int) 8&&leB 1 (WR (w.bB-(w.aF.length:Int))))) else ς false:=by
  refine gj w.aF (unB w) _ oaa (λk x hx hk=>?_) ?_
  .simp only[lS,ct hk,bm,hx,WRs (k:=k),unB,zz471,au]
   cases eqB x.cX (WR (WR (w.bB-(w.aF.length:Int))+(k:Int)))<;>cases ltB 60 (x.bk.length:Int)<;>rfl
  simp only[lS,zz337,zz355,au]
  grind
 simp only[mq,hL,jw]
 grind
def zz222(a b:List Int):Bool:=strB (rD a) (rD b)
theorem eqb_i(a b:List Int):yE a b=ς (zz222 a b):=rfl
theorem eqb_s(a b:List Int):rf a b=ς (zz222 a b):=rfl
def DI(s:ag)(x:ab):Bool:=match s.aS[(x.cX-1).toNat]? with
 |some y=>zz222 x.bk y.bk
 |none=>η
def zz387(s:ag):Bool:=leB (s.aS.length:Int) 24&&(AO s.aS&&(jw s.aK&&leB s.aK.bB (WR ((s.aS.length:Int)+1))))
def zz417(s:ag):Bool:=leB (xz s.aK.aF) (zz148 s.bX)
def D0(s:ag):Bool:=(!eqB s.bz 1||p6 s.bg)&&(!ltB 0 s.bG||p6 s.aA.fA)
def zz373(s:ag):Bool:=zz429 s.bT&&(zz400 s.gB&&(jO s.f6&&(jw s.aK&&(kS s.bX&&(inR s.bz 0 1&&(D0 s&&(inR s.bG 0 999999&&(inR s.ah 0 999999&&(inR s.aY 0 999999&&(inR s.bg 0 2147483646&&
 (inR s.bh 0 5&&(inR s.dQ 0 5&&(inR s.dL 0 3&&(leB (s.aS.length:Int) 24&&(AO s.aS&&(leB s.aK.bB (WR ((s.aS.length:Int)+1))&&(s.aK.aF.all (DI s)&&zz417 s)))))))))))))))))
theorem un_ix(hs:zz387 s=ζ)(hx:s.aK.aF[k]?=ς x):∃y,ix s.aS (WR (x.cX-1))=ς y/\s.aS[(x.cX-1).toNat]?=ς y:=by
 simp only[zz387,jw,hV,eO,bU] at hs
 obtain⟨h1,h2,⟨⟨h3,h3'⟩,h4,h5,h6⟩,h7⟩:=hs
 have hk:=(zz334.1 hx).1
 have h8:=h6 k x hx
 simp only[unB,hV] at h8
 have h4':(s.aK.aF.length:Int)<=8:=by simpa [leB] using h4
 have h1':(s.aS.length:Int)<=24:=by simpa [leB] using h1
 rw[bJ oaa] at h5
 rw[bJ oaa] at h7
 have h9:=h8.1
 rw[bJ (n:=s.aK.bB-_) oaa,bJ oaa] at h9
 have h9':x.cX=s.aK.bB-s.aK.aF.length+k:=by simpa [eqB] using h9
 have h5':1<=s.aK.bB-(s.aK.aF.length:Int):=by simpa [leB] using h5
 have h7':s.aK.bB<=(s.aS.length:Int)+1:=by simpa [leB] using h7
 have hlt:(x.cX-1).toNat<s.aS.length:=by omega
 refine⟨s.aS[(x.cX-1).toNat],?_,zz330 hlt⟩
 have hm:x.cX-1=(((x.cX-1).toNat:Nat):Int):=by omega
 rw[bJ oaa]
 simp_all
theorem tail_i(h:dS s)(hs:zz387 s=ζ):iter (gv s) FU 0=ς (s.aK.aF.all (DI s)&&zz417 s):=by
 have hl:=h.2.2.1
 have:=gj (L:=gv s) s.aK.aF (λ_ x=>DI s x) (ς (zz417 s)) oaa (λk x hx hk=>by
  obtain⟨y,h1,h2⟩:=un_ix hs hx
  simp only[gv,ct hk,bm,hx,h1,eqb_i,WRs (k:=k),DI,h2,au]
  simp_all) (by simp[gv,ji,nb_i hl,rem_i,zz417])
 rw[this,zz423]
 grind
theorem tail_s(h:dS s)(hs:zz387 s=ζ):iter (lF s) FU 0=ς (s.aK.aF.all (DI s)&&zz417 s):=by
 have hl:=h.2.2.1
 have:=gj (L:=lF s) s.aK.aF (λ_ x=>DI s x) (ς (zz417 s)) oaa (λk x hx hk=>by
  obtain⟨y,h1,h2⟩:=un_ix hs hx
  simp only[lF,ct hk,bm,hx,h1,eqb_s,WRs (k:=k),DI,h2,au]
  simp_all) (by simp[lF,Wl hl,W5,zz417])
 rw[this,zz423]
 grind
theorem zz294(h:dS s):xN s=ς (zz387 s&&(s.aK.aF.all (DI s)&&zz417 s)):=by
 have hl:=h.2.1.1
 have hL:=gj (L:=qN s) s.aS (λ_ x=>zz471 x.bk.length) (bif leB (s.aS.length:Int) 24&&(jw s.aK&&leB s.aK.bB (WR ((s.aS.length:Int)+1))) then iter (lF s) FU 0 else ς η) oaa (λk x hx hk=>by
  simp only[qN,ct hk,bm,hx,WRs (k:=k),zz471,au]
  simp_all) (by
  simp only[qN,zz337,zz85 h.2.2,zz420,au]
  grind)
 rw[zz423] at hL
 unfold xN
 rw[hL]
 cases hs:zz387 s with
 |true=>
  rw[tail_s h hs]
  simp only[zz387,AO,hV] at hs
  grind
 |false=>
  have:(leB (s.aS.length:Int) 24&&(jw s.aK&&leB s.aK.bB (WR ((s.aS.length:Int)+1))))=η\/(s.aS.all λx=>zz471 x.bk.length)=false:=by
   simp only[zz387,AO] at hs
   revert hs
   cases leB (s.aS.length:Int) 24<;>cases jw s.aK<;>cases leB s.aK.bB (WR ((s.aS.length:Int)+1))<;>cases(s.aS.all λx=>zz471 x.bk.length)<;>simp
  grind
theorem st01(n:Int):inR n 0 1=(eqB n 0||eqB n 1):=by rw[acJ];simp[inR,leB,eqB];omega
theorem DE(h:dS s):i8 s=ς (zz373 s):=by
 have hz:=λhs=>tail_i h hs
 simp only[i8,rec_i,subs_i h.1,WH,zz172 h.2.2,EI,zz151,zz360,fit_i h.2.1.1,acH,zz373,D0,st01,zz420 24,zz420 (WR ((s.aS.length:Int)+1))]
 simp only[zz387] at hz
 revert hz
 generalize iter (gv s) FU 0=z
 cases zz429 s.bT
 .intro _;rfl
 cases zz400 s.gB
 .intro _;rfl
 cases jO s.f6
 .intro _;rfl
 cases jw s.aK
 .intro _;rfl
 cases kS s.bX
 .intro _;rfl
 cases eqB s.bz 0<;>cases eqB s.bz 1<;>try (intro _;rfl)
 all_goals
  cases p6 s.bg<;>cases ltB 0 s.bG<;>cases p6 s.aA.fA<;>try (intro _;rfl)
 all_goals
  cases inR s.bG 0 999999<;>cases inR s.ah 0 999999<;>cases inR s.aY 0 999999<;>cases inR s.bg 0 2147483646<;>try (intro _;rfl)
 all_goals
  cases inR s.bh 0 5<;>cases inR s.dQ 0 5<;>cases inR s.dL 0 3<;>try (intro _;rfl)
 all_goals
  cases leB (s.aS.length:Int) 24<;>cases AO s.aS<;>cases leB s.aK.bB (WR ((s.aS.length:Int)+1))<;>intro hz<;>first|rfl|exact hz rfl
theorem DF(h:dS s):lp s=ς (zz373 s):=by
 have:zz373 s=(inR s.bz 0 1&&(D0 s&&(zz429 s.bT&&(zz400 s.gB&&(jO s.f6&&(kS s.bX&&((zz387 s&&(s.aK.aF.all (DI s)&&zz417 s))&&(inR s.bG 0 999999&&(inR s.ah 0 999999&&(inR s.aY 0 999999&&(inR s.bg 0 2147483646&&(inR s.bh 0 5&&(inR s.dQ 0 5&&inR s.dL 0 3))))))))))))):=by
  simp only[zz373,zz387];ac_rfl
 rw[this]
 simp only[lp,zz283,zz296 h.1,zz279,zz39,zz175,zz355,zz294 h,acH,D0,st01]
 cases eqB s.bz 0<;>cases eqB s.bz 1<;>cases p6 s.bg<;>cases ltB 0 s.bG<;>cases p6 s.aA.fA<;>try rfl
 all_goals
  cases zz429 s.bT<;>cases zz400 s.gB<;>cases jO s.f6<;>cases kS s.bX<;>cases(zz387 s&&(s.aK.aF.all (DI s)&&zz417 s))<;>try rfl
 all_goals
  cases inR s.bG 0 999999<;>cases inR s.ah 0 999999<;>cases inR s.aY 0 999999<;>cases inR s.bg 0 2147483646<;>try rfl
 all_goals
  cases inR s.bh 0 5<;>cases inR s.dQ 0 5<;>rfl
def zz254(a:aj):Int:=a.an.foldl (λs x=>WR (s+x.ea)) 0
theorem totr_i(h:zz357 a):o6 a=ς (zz254 a):=by
 have:=h.1
 unfold o6
 rw[zz446 a.an (λs x=>WR (s+x.ea)) oaa (λk x s hx hk=>by
  simp only[o7,ct hk,bm,hx,WRs (k:=k),au]) (λs=>by simp[o7])]
 rfl
theorem totr_s(h:zz357 a):pK a=ς (zz254 a):=by
 have:=h.1
 unfold pK
 rw[zz446 a.an (λs x=>WR (s+x.ea)) oaa (λk x s hx hk=>by
  simp only[pL,ct hk,bm,hx,WRs (k:=k),au]) (λs=>by simp[pL])]
 rfl
def H4(a:aj)(k:Nat)(x:aH):Bool:=!ltB x.aO 0&&(inR x.ea 1 100000&&ku aH.aO a.an k x)
def Ty(a:aj):Bool:=eqB (WR (WR (a.bK+a.eR)+zz254 a)) a.gm
def lu(a:aj):Bool:=inR a.gm 0 100000&&(inR a.bK 0 a.gm&&(inR a.eR 0 a.gm&&(leB (a.an.length:Int) 8&&(ig (H4 a) a.an&&Ty a))))
theorem zX(h:zz357 a):ik a=ς (lu a):=by
 have hl:=h.1
 have hL:iter (kC a) FU 0=bif ig (H4 a) a.an then ς (Ty a) else ς false:=by
  refine gj a.an (H4 a) _ oaa (λk x hx hk=>?_) (by simp[kC,totr_i h,Ty])
  simp only[kC,ct hk,bm,hx,WRs (k:=k),zz360,H4,au]
  cases k with
  |zero=>
   simp only[ku,show ltB 0 ((0:Nat):Int)=η from by simp[ltB]]
   cases ltB x.aO 0<;>cases inR x.ea 1 100000<;>rfl
  |succ k=>
   obtain⟨y,hy,hi⟩:=zz459 hk oaa oaa
   simp only[acO] at hy
   simp only[ku,hy,hi,show ltB 0 ((k+1:Nat):Int)=ζ from by simp[ltB],acH]
   cases ltB x.aO 0<;>cases inR x.ea 1 100000<;>cases leB x.aO y.aO<;>rfl
 simp only[ik,zz360,acH,hL,lu,zz420 8]
 grind
theorem zz415(h:zz357 a):gp a=ς (lu a):=by
 have hl:=h.1
 have hL:iter (kP a) FU 0=bif ig (H4 a) a.an then ς (inR a.gm 0 100000&&(inR a.bK 0 a.gm&&(inR a.eR 0 a.gm&&(leB (a.an.length:Int) 8&&Ty a)))) else ς false:=by
  refine gj a.an (H4 a) _ oaa (λk x hx hk=>?_) ?_
  .simp only[kP,ct hk,bm,hx,WRs (k:=k),zz355,H4,au]
   cases k with
   |zero=>
    simp only[ku,show ltB 0 ((0:Nat):Int)=η from by simp[ltB]]
    cases ltB x.aO 0<;>cases inR x.ea 1 100000<;>rfl
   |succ k=>
    obtain⟨y,hy,hi⟩:=zz459 hk oaa oaa
    simp only[acO] at hy
    simp only[ku,hy,hi,hx,bm,show ltB 0 ((k+1:Nat):Int)=ζ from by simp[ltB],acH]
    cases ltB x.aO 0<;>cases inR x.ea 1 100000<;>cases leB x.aO y.aO<;>rfl
  simp only[kP,zz337,zz355,totr_s h,Ty,au]
  grind
 simp only[gp,hL,lu]
 grind
def zz361(a:aj)(i:Int):Int:=match a.an.find? (λx=>eqB x.aO i) with
 |some x=>x.ea
 |none=>0
theorem zz217(p:α->Bool)(xs:List α):(ni p 0 xs= -1/\xs.find? p=ξ)\/∃x,ltB (ni p 0 xs) 0=η/\ix xs (ni p 0 xs)=ς x/\xs.find? p=ς x:=by
 rcases Do p xs 0 with⟨h1,h2⟩|⟨j,h1,x,h2,h3,h4⟩
 .simp_all
 right
 have h1':ni p 0 xs=(j:Int):=by simpa using h1
 refine⟨x,by simp_all,by simp_all,?_⟩
 have hj:=(zz334.1 h2)
 rw[List.find?_eq_some_iff_getElem]
 have hjl:=hj.1
 refine⟨h3,j,hjl,hj.2,λi hi=>?_⟩
 have hil:i<xs.length:=Nat.lt_trans hi hjl
 have:xs[i]∈xs.take j:=List.mem_take_iff_getElem.2 ⟨i,by omega,rfl⟩
 simp_all
theorem MA(h:zz357 a)(i:Int):o4 a i=ς (zz361 a i):=by
 have:=h.1
 have hf:=zz441 (L:=jk a i) a.an (λx=>eqB x.aO i) oaa (λk x hx hk=>by
  simp only[jk,ct hk,bm,hx,WRs (k:=k),au]
  rfl) (by simp[jk,dn])
 unfold o4 gh zz361
 rw[hf]
 rcases zz217 (λx:aH=>eqB x.aO i) a.an with⟨e1,e2⟩|⟨x,e1,e2,e3⟩
 .rw[e1,e2];simp[ltB]
 grind
theorem MB(h:zz357 a)(i:Int):iy a i=ς (zz361 a i):=by
 have:=h.1
 have hf:=zz441 (L:=uY a i) a.an (λx=>eqB x.aO i) oaa (λk x hx hk=>by
  simp only[uY,ct hk,bm,hx,WRs (k:=k),au]
  rfl) (by simp[uY,dn])
 unfold iy my zz361
 rw[hf]
 rcases zz217 (λx:aH=>eqB x.aO i) a.an with⟨e1,e2⟩|⟨x,e1,e2,e3⟩
 .rw[e1,e2];simp[ltB]
 grind
def zz440(a:aj)(q:cY):Bool:=lu a&&(kS q&&eqB (zz361 a q.aO) q.cP)
theorem J6(h:zz357 a)(q:cY):fX a q=ς (zz440 a q):=by
 simp only[fX,zX h,EI,MA h,acH,zz440];grind
theorem zz122(h:zz357 a)(q:cY):fY a q=ς (zz440 a q):=by
 simp only[fY,zz415 h,zz39,MB h,acH,zz440];grind
theorem zz377{L:Int->Option (ci Int ρ)}(xs:List α)(p:Nat->α->Bool)(f:ρ)(c:Option ρ)(hl:xs.length<=9223372036854775806)(hs:∀(k:Nat) (x:α),xs[k]?=ς x->k<xs.length->L (k:Int)=bif p k x then ς (.next ((k+1:Nat):Int)) else ς (.done f))(he:L (xs.length:Int)=dn c):
 iter L FU 0=bif ig p xs then c else ς f:=by
 have:=eG (step:=L) xs.zipIdx (λk (_:Unit)=>(k:Int)) (λ_ y=>bif p y.2 y.1 then ς (.next ()) else ς (.done f)) (λ_=>c) (by simp_all)
  (λk y s hy hk=>by
   have hk':k<xs.length:=by simpa using hk
   have:y=(xs[k],k):=by rw[zz330 hk] at hy;simpa using hy.symm
   simp_all) (λs=>by simp_all) ()
 refine Eq.trans (show iter L FU 0=_ from this) ?_
 have key:∀ys:List (α×Nat),lU (λ(_:Unit) y=>bif p y.2 y.1 then ς (.next ()) else ς (ci.done f)) (λ_=>c) ys ()=bif ys.all (λy=>p y.2 y.1) then c else ς f:=by
  intro ys
  induction ys with
  |nil=>rfl
  |cons x xs ih=>rw[lU];grind
 exact key _
theorem zz207{l:List Int}(h:l.length<=1048576)(v:Int):Ap l v=ς (l.any λx=>eqB x v):=
 zz160 l (λx=>eqB x v) oaa (λk x hx hk=>by
  simp only[BB,ct hk,bm,hx,WRs (k:=k),au]
  rfl) (by simp[BB,dn])
theorem zz257(a b:Int):eqB a b=eqB b a:=by rw[acJ];simp[eqB];exact eq_comm
theorem has_i{l:List Int}(h:l.length<=1048576)(v:Int):gH l v=ς (l.any λx=>eqB x v):=by
 have hf:=zz441 (L:=gI l v) l (λx=>eqB x v) oaa (λk x hx hk=>by
  simp only[gI,ct hk,bm,hx,WRs (k:=k),zz257 v x,au]
  rfl) (by simp[gI,dn])
 unfold gH lH
 rw[hf]
 simp only[acH]
 rw[F5 oaa]
def eV(m:aZ)(i:Int):Bool:=inR i 0 ((m.bp.length:Int)-1)
theorem zz443(h:m.bp.length<=1048576)(i:Int):lQ m i=ς (eV m i):=by
 simp only[lQ,zz360,BK h,acH,eV]
def BR(m:aZ)(x:Int)(i:Nat):Bool:=match m.bp[x.toNat]? with
 |some d=>d.cM.any λy=>eqB y (i:Int)
 |none=>η
def nbB(m:aZ)(i:Nat)(ns:List Int)(k:Nat)(x:Int):Bool:=eV m x&&(!eqB x (i:Int)&&(ku id ns k x&&BR m x i))
def C5(m:aZ)(i:Nat)(c:dY):Bool:=inR c.fF 0 2&&ig (nbB m i c.cM) c.cM
def zz410(m:aZ):Bool:=inR (m.bp.length:Int) 1 6&&ig (C5 m) m.bp
theorem zz22{x:Int}(h:eV m x=ζ):∃d,d∈m.bp/\ix m.bp x=ς d/\m.bp[x.toNat]?=ς d:=by
 simp only[eV,bU] at h
 have hlt:x.toNat<m.bp.length:=by omega
 refine⟨m.bp[x.toNat],acU hlt,?_,zz330 hlt⟩
 have hm:x=(x.toNat:Int):=by omega
 generalize x.toNat=m at hm hlt ⊢
 simp_all
theorem map_i(h:eZ m):uy m=ς (zz410 m):=by
 have hl:=h.1
 have h2:∀(i:Nat) (c:dY),c∈m.bp->i<m.bp.length->iter (oS m (i:Int) c) FU 0=bif ig (λk x=>!eqB x (i:Int)&&(eV m x&&BR m x i)) c.cM then ς (.next ((i+1:Nat):Int)) else ς (.done η):=by
  intro i c hc hi
  have hn:=(h.2 c hc).1
  refine zz377 c.cM (λk x=>!eqB x (i:Int)&&(eV m x&&BR m x i)) (ci.done η) _ oaa (λk x hx hk=>?_) (by simp[oS,WRs (k:=i)])
  simp only[oS,ct hk,bm,hx,WRs (k:=k),zz443 hl,vz,au]
  cases eqB x (i:Int) with
  |true=>rfl
  |false=>
   cases hcb:eV m x with
   |false=>rfl
   |true=>
    obtain⟨d,d1,d2,d3⟩:=zz22 hcb
    simp only[d2,has_i (h.2 d d1).1,BR,d3,au]
    simp_all
 have hL:iter (oR m) FU 0=bif ig (C5 m) m.bp then ς ζ else ς false:=by
  refine zz377 m.bp (C5 m) η (ς ζ) oaa (λk x hx hk=>?_) (by simp[oR])
  have hm:=zz326 hx
  simp only[oR,ct hk,bm,hx,zz360,zz209 (h.2 x hm).1,h2 k x hm hk,C5,au]
  have:ig (nbB m k x.cM) x.cM=(asc x.cM&&ig (λj y=>!eqB y (k:Int)&&(eV m y&&BR m y k)) x.cM):=by
   rw[asc,zz159]
   exact NB λj y _=>by simp only[nbB];ac_rfl
  rw[this]
  cases inR x.fF 0 2<;>cases asc x.cM<;>cases ig (λj y=>!eqB y (k:Int)&&(eV m y&&BR m y k)) x.cM<;>rfl
 simp only[uy,zz360,acH,hL,zz410]
 grind
theorem map_s(h:eZ m):rj m=ς (zz410 m):=by
 have hl:=h.1
 have h2:∀(i:Nat) (c:dY),c∈m.bp->i<m.bp.length->iter (pA m (i:Int) c) FU 0=bif ig (nbB m i c.cM) c.cM then ς (.next ((i+1:Nat):Int)) else ς (.done η):=by
  intro i c hc hi
  have hn:=(h.2 c hc).1
  refine zz377 c.cM (nbB m i c.cM) (ci.done η) _ oaa (λk x hx hk=>?_) (by simp[pA,WRs (k:=i)])
  simp only[pA,ct hk,bm,hx,WRs (k:=k),zz355,BK hl,nbB,au]
  cases hcb:eV m x with
  |false=>rw[show inR x 0 ((m.bp.length:Int)-1)=η from hcb];rfl
  |true=>
   rw[show inR x 0 ((m.bp.length:Int)-1)=ζ from hcb]
   obtain⟨d,d1,d2,d3⟩:=zz22 hcb
   cases k with
   |zero=>
    simp only[ku,show ltB 0 ((0:Nat):Int)=η from by simp[ltB],d2,zz207 (h.2 d d1).1,BR,d3,au]
    cases eqB x (i:Int)<;>cases(d.cM.any λy=>eqB y (i:Int))<;>rfl
   |succ k=>
    obtain⟨y,hy,hi⟩:=zz459 hk oaa oaa
    simp only[acO] at hy
    simp only[ku,hy,hi,show ltB 0 ((k+1:Nat):Int)=ζ from by simp[ltB],d2,zz207 (h.2 d d1).1,BR,d3,id,au]
    cases eqB x (i:Int)<;>cases leB x y<;>cases(d.cM.any λy=>eqB y (i:Int))<;>rfl
 have hL:iter (pz m) FU 0=bif ig (C5 m) m.bp then ς (inR (m.bp.length:Int) 1 6) else ς false:=by
  refine zz377 m.bp (C5 m) η _ oaa (λk x hx hk=>?_) (by simp[pz,zz355])
  have hm:=zz326 hx
  simp only[pz,ct hk,bm,hx,zz355,h2 k x hm hk,C5,au]
  cases inR x.fF 0 2<;>cases ig (nbB m k x.cM) x.cM<;>rfl
 simp only[rj,hL,zz410]
 grind
def zz96(d:aC)(s:ag):Bool:=(eqB d.dO.ID.d4 s.bT.ID.d4&&(eqB d.dO.ID.bZ s.bT.ID.bZ&&ζ))&&eqB d.dO.fA s.bT.fA
def Cn(n:ae)(i:Nat)(d:aC):Bool:=match n.aJ[i]?,n.bD[i]? with
 |some s,ς a=>zz380 d&&(zz373 s&&(lu a&&(zz96 d s&&(eV n.d7 d.bh&&(eV n.d7 s.bh&&(eqB s.bX.aO (i:Int)&&zz440 a s.bX))))))
 |_,_=>η
def flB(n:ae)(f:bA):Bool:=inR f.bj 0 ((n.ax.length:Int)-1)&&eV n.d7 f.bh
def Bj(n:ae):Bool:=inR n.cF 0 (WR ((mD .i64 1 (n.d7.bp.length:Int))-1))&&(inR n.lV 0 100000&&leB 0 n.Lost)
def zz378(n:ae):Bool:=zz410 n.d7&&(kw n.fP&&(!eqB n.fP.fj 0&&(leB (n.ax.length:Int) 4&&(eqB (n.aJ.length:Int) (n.ax.length:Int)&&(eqB (n.bD.length:Int) (n.ax.length:Int)&&
 (ig (Cn n) n.ax&&(leB (n.aT.length:Int) 200&&(n.aT.all (flB n)&&Bj n))))))))
theorem Pg{x:Int}(h:inR x 0 b=ζ):eV m x=ltB x (m.bp.length:Int):=by
 rw[bU] at h
 rw[acJ];simp[eV,inR,leB,ltB];omega
theorem flt_i(h:zz364 n):iter (iM n) FU 0=ς (n.aT.all (flB n)&&Bj n):=by
 have hl:=h.2.2.2.2.1
 have:=gj (L:=iM n) n.aT (λ_ f=>flB n f) (ς (Bj n)) oaa (λk x hx hk=>by
  simp only[iM,ct hk,bm,hx,WRs (k:=k),zz360,BK h.2.1.1,zz443 h.1.1,flB,au]
  cases inR x.bj 0 ((n.ax.length:Int)-1)<;>cases eV n.d7 x.bh<;>rfl) (by
  simp only[iM,zz337,zz360,Bj,show leB 0 (n.d7.bp.length:Int)=ζ from by simp[leB],au]
  grind)
 rw[this,zz423]
 grind
theorem flt_s(h:zz364 n):iter (iQ n) FU 0=ς (n.aT.all (flB n)&&Bj n):=by
 have hl:=h.2.2.2.2.1
 have:=gj (L:=iQ n) n.aT (λ_ f=>flB n f) (ς (Bj n)) oaa (λk x hx hk=>by
  simp only[iQ,ct hk,bm,hx,WRs (k:=k),zz355,BK h.2.1.1,BK h.1.1,flB,eV,au]
  cases inR x.bj 0 ((n.ax.length:Int)-1)<;>cases inR x.bh 0 ((n.d7.bp.length:Int)-1)<;>rfl) (by
  simp only[iQ,zz337,zz355,Bj,show leB 0 (n.d7.bp.length:Int)=ζ from by simp[leB],au]
  grind)
 rw[this,zz423]
 grind
section
variable{n:ae}(h:zz364 n)(e1:n.aJ.length=n.ax.length)(e2:n.bD.length=n.ax.length)
include h e1 e2
omit h in
theorem at_i(hk:k<n.ax.length):∃s a,s∈n.aJ/\a∈n.bD/\n.aJ[k]?=ς s/\n.bD[k]?=ς a:=
 ⟨n.aJ[k]'(by omega),n.bD[k]'(by omega),acU _,acU _,zz330 _,zz330 _⟩
theorem mem_i{d:aC}(hd:n.ax[k]?=ς d):kJ n (k:Int)=ς (Cn n k d):=by
 have hk:=(zz334.1 hd).1
 obtain⟨s,a,s1,a1,s2,a2⟩:=at_i e1 e2 hk
 have od:=h.2.1.2 d (zz326 hd)
 have os:=h.2.2.1.2 s s1
 have oa:=h.2.2.2.1.2 a a1
 simp only[kJ,bm,hd,s2,a2,UU od.2.1 od.1.1,DE os,zX oa,zz443 h.1.1,J6 oa,acH,Cn,zz96]
 grind
theorem mem_s{d:aC}(hd:n.ax[k]?=ς d):xO n (k:Int)=ς (Cn n k d):=by
 have hk:=(zz334.1 hd).1
 obtain⟨s,a,s1,a1,s2,a2⟩:=at_i e1 e2 hk
 have od:=h.2.1.2 d (zz326 hd)
 have os:=h.2.2.1.2 s s1
 have oa:=h.2.2.2.1.2 a a1
 simp only[xO,bm,hd,s2,a2,zz261 od.2.1 od.1.1,DF os,zz415 oa,zz122 oa,acH,Cn,zz96]
 cases hv:zz380 d
 .rfl
 cases hs:zz373 s
 .rfl
 have c1:eV n.d7 d.bh=ltB d.bh (n.d7.bp.length:Int):=by
  simp only[zz380,hV] at hv;exact Pg hv.2.2.1
 have c2:eV n.d7 s.bh=ltB s.bh (n.d7.bp.length:Int):=by
  simp only[zz373,hV] at hs;exact Pg hs.2.2.2.2.2.2.2.2.2.2.2.1
 grind
theorem mems_i:iter (iL n) FU 0=ς (ig (Cn n) n.ax&&(leB (n.aT.length:Int) 200&&(n.aT.all (flB n)&&Bj n))):=by
 have hl:=h.2.1.1
 have:=gj (L:=iL n) n.ax (Cn n) (ς (leB (n.aT.length:Int) 200&&(n.aT.all (flB n)&&Bj n))) oaa (λk x hx hk=>by
  simp only[iL,ct hk,mem_i h e1 e2 hx,WRs (k:=k),au]
  simp_all) (by
  simp only[iL,zz337,cond_false,flt_i h,zz420 200]
  grind)
 grind
theorem mems_s:iter (iO n) FU 0=ς (ig (Cn n) n.ax&&(n.aT.all (flB n)&&Bj n)):=by
 have hl:=h.2.1.1
 have:=gj (L:=iO n) n.ax (Cn n) (ς (n.aT.all (flB n)&&Bj n)) oaa (λk x hx hk=>by
  simp only[iO,ct hk,mem_s h e1 e2 hx,WRs (k:=k),au]
  simp_all) (by simp only[iO,zz337,cond_false,flt_s h])
 grind
end
theorem zz474{a b:Nat}(h:eqB (a:Int) (b:Int)=ζ):a=b:=by
 have:(a:Int)=b:=by simpa [eqB] using h
 omega
theorem Ai(h:zz364 n):kW n=ς (zz378 n):=by
 simp only[kW,map_i h.1,zz147,acH,zz378,zz420 4]
 cases zz410 n.d7<;>cases kw n.fP<;>cases eqB n.fP.fj 0<;>cases leB (n.ax.length:Int) 4<;>try rfl
 cases e1:eqB (n.aJ.length:Int) (n.ax.length:Int)<;>cases e2:eqB (n.bD.length:Int) (n.ax.length:Int)<;>try rfl
 rw[mems_i h (zz474 e1) (zz474 e2)];rfl
theorem IH(h:zz364 n):lj n=ς (zz378 n):=by
 simp only[lj,map_s h.1,zz199,acH,zz378,zz420 4,zz420 200]
 cases zz410 n.d7<;>cases kw n.fP<;>cases eqB n.fP.fj 0<;>cases leB (n.ax.length:Int) 4<;>try rfl
 cases e1:eqB (n.aJ.length:Int) (n.ax.length:Int)<;>cases e2:eqB (n.bD.length:Int) (n.ax.length:Int)<;>try rfl
 rw[mems_s h (zz474 e1) (zz474 e2)]
 grind
attribute [local simp] zz337 bm
theorem zz405{by_:Nat}{L:Int×List α->Option (ci (Int×List α) (List α))}(xs:List α)(hb:by_<=100000)(hl:xs.length<=1048576)(hs:∀(k:Nat) (x:α),xs[k]?=ς x->k<xs.length->L ((k:Int),xs.take k)=bif cW by_ (xs.take k++[x]).length then ς (.next (((k+1:Nat):Int),xs.take k++[x])) else ξ)(he:L ((xs.length:Nat),xs)=ς (.done xs)):iter L FU (0,[])=ς xs:=by
 have:=eG (step:=L) xs (λk (_:Unit)=>((k:Int),xs.take k)) (λ_ _=>ς (.next ())) (λ_=>ς xs) oaa
  (λk x _ hx hk=>by
   rw[hs k x hx hk,zz343 hb (by simp;omega)]
   have e:xs.take (k+1)=xs.take k++[x]:=by rw[ac0,hx];rfl
   simp[e]) (λ_=>by simp_all) ()
 rw[zz72 xs (λ_ _=>rfl)] at this
 exact this
theorem zz23(z:α)(xs:List α):cpL (aaI ((xs.length:Int)).toNat z) xs=xs:=by simp[cpL]
theorem ip{b n:Nat}(hb:b<=100000)(hn:n<=1048576):qj b (n:Int) (n:Int)=true:=by
 have h:b*n<=100000*1048576:=ac5 hb hn
 have h2:(b:Int)*(n:Int)<=104857600000:=by rw[<-Int.natCast_mul];omega
 simp only[qj,decide_eq_true_eq];omega
theorem qi{f:α->Option α}{L:Int×List α->Option (ci (Int×List α) (List α))}(z:α)(xs:List α)(hl:xs.length<=1048576)(hf:∀x∈xs,f x=ς x)(hs:∀(k:Nat) (v:List α),L ((k:Int),v)=bif ltB (k:Int) (xs.length:Int) then(acE (ix xs (k:Int)) λx=>acE (f x) λr=>acE (ix v (k:Int)) λ_=>ς (.next (WR ((k:Int)+1),v.set ((k:Int)).toNat r))) else ς (.done v)):
 iter L FU (0,aaI ((xs.length:Int)).toNat z)=ς xs:=by
 have:=Sj (step:=L) id z xs oaa
  (λk x v hx hv=>by
   have hk:=(zz334.1 hx).1
   rw[hs]
   simp[ct hk,hx,hf x (zz326 hx),WRs (k:=k),zz330 (show k<v.length by omega)])
  (λv=>by rw[hs];simp)
 simp_all
theorem zz118{xs:List bI}(h:okL zz408 xs):tW xs=ς xs:=by
 rw[tW,zz405 (by_:=24) (L:=qJ xs) xs oaa h.1 (λk x hx hk=>by
  simp[qJ,ct hk,hx,zz396 (show k<9223372036854775807 by have:=h.1;omega),zz343 (by_:=1) (n:=x.bk.length) oaa (by have:=(h.2 x (zz326 hx)).1;omega)]) (by simp[qJ])]
 rfl
theorem zz173{xs:List ab}(h:okL eQ xs):wG xs=ς xs:=by
 rw[wG,zz405 (by_:=32) (L:=sZ xs) xs oaa h.1 (λk x hx hk=>by
  simp[sZ,ct hk,hx,zz396 (show k<9223372036854775807 by have:=h.1;omega),zz343 (by_:=1) (n:=x.bk.length) oaa (by have:=(h.2 x (zz326 hx)).1;omega)]) (by simp[sZ])]
 rfl
theorem zz480(h:zz353 w):oc w=ς w:=by rw[oc,zz173 h];rfl
theorem zz200(h:zz351 r):wF r=ς r:=by rw[wF,zz173 h.1,acH,zz118 h.2];rfl
theorem plan_c{p:bO}(h:eA p):wL p=ς p:=by
 rw[wL,abO,zz343 oaa (by have:=h.1;omega)];rfl
theorem zz413(h:dS s):ju s=ς s:=by rw[ju,plan_c h.1,acH,zz118 h.2.1,acH,zz480 h.2.2];rfl
theorem zz13{d:aC}(h:zz349 d):lr d=ς d:=by rw[lr,zz200 h];rfl
theorem zz19(h:zz357 a):mw a=ς a:=by
 rw[mw,abO,zz343 oaa (by have:=h.1;omega)];rfl
theorem Z0{x:aD}(h:zz402 x):CN x=ς x:=by
 rw[CN,abO,zz343 oaa (by have:=h.1;omega)];rfl
theorem zz154(h:ke f):t7 f=ς f:=by rw[t7,Z0 h];rfl
theorem map_c(h:eZ m):ry m=ς m:=by
 rw[ry,zz405 (by_:=32) (L:=kv m) m.bp oaa h.1 (λk x hx hk=>by
  simp[kv,ct hk,hx,zz396 (show k<9223372036854775807 by have:=h.1;omega),zz343 (by_:=8) (n:=x.cM.length) oaa (by have:=(h.2 x (zz326 hx)).1;omega)]) (by simp[kv])]
 rfl
theorem net_c(h:zz364 n):zH n=ς n:=by
 obtain⟨h1,h2,h3,h4,h5⟩:=h
 rw[zH,map_c h1,acH,
  zz405 (by_:=144) (L:=u9 n) n.ax oaa h2.1 (λk x hx hk=>by simp[u9,ct hk,hx,zz396 (show k<9223372036854775807 by have:=h2.1;omega),zz13 (h2.2 x (zz326 hx))]) (by simp[u9]),acH,
  zz405 (by_:=288) (L:=va n) n.aJ oaa h3.1 (λk x hx hk=>by simp[va,ct hk,hx,zz396 (show k<9223372036854775807 by have:=h3.1;omega),zz413 (h3.2 x (zz326 hx))]) (by simp[va]),acH,
  zz405 (by_:=48) (L:=vb n) n.bD oaa h4.1 (λk x hx hk=>by simp[vb,ct hk,hx,zz396 (show k<9223372036854775807 by have:=h4.1;omega),zz19 (h4.2 x (zz326 hx))]) (by simp[vb]),acH,
  zz405 (by_:=176) (L:=vc n) n.aT oaa h5.1 (λk x hx hk=>by simp[vc,ct hk,hx,zz396 (show k<9223372036854775807 by have:=h5.1;omega),zz154 (h5.2 x (zz326 hx))]) (by simp[vc])]
 rfl
theorem VM{xs:List Int}(h:xs.length<=1048576):s6 xs=ς xs:=by rw[s6,ip oaa h,zz23];rfl
theorem zz442{xs:List Int}(h:xs.length<=1048576):eY xs=ς xs:=by rw[eY,ip oaa h,zz23];rfl
theorem zz322{xs:List aH}(h:xs.length<=1048576):f4 xs=ς xs:=by rw[f4,ip oaa h,zz23];rfl
theorem zz293{xs:List aG}(h:xs.length<=1048576):ge xs=ς xs:=by rw[ge,ip oaa h,zz23];rfl
theorem Gu{xs:List bI}(h:okL zz408 xs):m9 xs=ς xs:=by
 rw[m9,ip oaa h.1,qi (f:=λx=>acE (eY x.bk) λr=>ς (⟨r⟩:bI)) (L:=qc xs) (⟨[]⟩:bI) xs h.1 (λx hx=>by rw[zz442 (h.2 x hx).1];rfl) (λk v=>by
  simp only[qc];grind)]
 rfl
theorem zz27{xs:List ab}(h:okL eQ xs):ly xs=ς xs:=by
 rw[ly,ip oaa h.1,qi (f:=λx=>acE (eY x.bk) λr=>ς (⟨x.cX,r⟩:ab)) (L:=qa xs) bY xs h.1 (λx hx=>by rw[zz442 (h.2 x hx).1];rfl) (λk v=>by
  simp only[qa];grind)]
 rfl
theorem QH(h:zz351 r):nf r=ς r:=by rw[nf,zz27 h.1,acH,Gu h.2];rfl
theorem zz185{d:aC}(h:zz349 d):mf d=ς d:=by rw[mf,QH h];rfl
theorem ZW{p:bO}(h:eA p):lP p=ς p:=by rw[lP,VM h.1];rfl
theorem zz44(h:zz353 w):mg w=ς w:=by rw[mg,zz27 h];rfl
theorem zz455(h:dS s):gJ s=ς s:=by rw[gJ,ZW h.1,acH,Gu h.2.1,acH,zz44 h.2.2];rfl
theorem Db(h:zz357 a):fk a=ς a:=by rw[fk,zz322 h.1];rfl
theorem zz194{x:bw}(h:zz428 x):sH x=ς x:=by rw[sH,zz442 h.1];rfl
theorem zz280{x:aD}(h:zz402 x):xh x=ς x:=by rw[xh,zz194 h];rfl
theorem Ix(h:ke f):qU f=ς f:=by rw[qU,zz280 h];rfl
theorem map_ci(h:eZ m):Cd m=ς m:=by
 rw[Cd,ip oaa h.1,qi (f:=λx=>acE (s6 x.cM) λr=>ς (⟨x.fF,r⟩:dY)) (L:=yL m) O2 m.bp h.1 (λx hx=>by rw[VM (h.2 x hx).1];rfl) (λk v=>by
  simp only[yL];grind)]
 rfl
theorem Oi(h:zz364 n):sF n=ς n:=by
 obtain⟨h1,h2,h3,h4,h5⟩:=h
 rw[sF,map_ci h1,acH,fL,ip oaa h2.1,qi (L:=g8 n.ax) _ _ h2.1 (λx hx=>zz185 (h2.2 x hx)) (λk v=>rfl),cond_true,acH,acH,
  fo,ip oaa h3.1,qi (L:=gA n.aJ) _ _ h3.1 (λx hx=>zz455 (h3.2 x hx)) (λk v=>rfl),cond_true,acH,acH,
  fm,ip oaa h4.1,qi (L:=gz n.bD) _ _ h4.1 (λx hx=>Db (h4.2 x hx)) (λk v=>rfl),cond_true,acH,acH,
  fM,ip oaa h5.1,qi (L:=g9 n.aT) _ _ h5.1 (λx hx=>Ix (h5.2 x hx)) (λk v=>rfl),cond_true,acH,acH]
theorem zz49(n a b:Int):cd n a b=ς (inR n a b):=by unfold cd inR;grind
theorem MW(n a b:Int):dD n a b=ς (inR n a b):=by unfold dD inR;grind
theorem zz106(x m:Int):(acF x m)%m=x%m:=by
 have h:=Int.mul_tdiv_add_tmod x m
 have h2:x%m=(m*x.tdiv m+x.tmod m)%m:=by rw[h]
 rw[h2,Int.mul_add_emod_self_left]
theorem zz188{m:Int}(x:Int)(hm:0<m): -m<acF x m/\acF x m<m:=⟨Int.lt_tmod_of_pos x hm,Int.tmod_lt_of_pos x hm⟩
theorem zz318{r m:Int}(h1: -m<r)(h2:r<0):r%m=r+m:=by
 rw[<-adi r m,adj oaa oaa]
theorem zz208(x:Int){m:Int}(h1:1<=m)(h2:m<=1000000000000):RY x m=ς (x%m):=by
 obtain⟨a,b⟩:=zz188 x (show 0<m by omega)
 have hr:inR m 1 1000000000000=true:=bU.2 ⟨h1,h2⟩
 have hz:(!eqB m 0)=true:=by simp[eqB];omega
 simp only[RY,zz49,hr,hz,au]
 rw[<-zz106 x m]
 by_cases h:acF x m<0
 .rw[show ltB (acF x m) 0=ζ from lt0_t h,zz318 a h]
  simp only[au]
  rw[bJ oaa]
 rw[show ltB (acF x m) 0=η from lt0_f oaa,adj oaa b]
 rfl
theorem An(x:Int){m:Int}(h1:1<=m)(h2:m<=1000000000000):H3 x m=ς (x%m):=by
 obtain⟨a,b⟩:=zz188 x (show 0<m by omega)
 have hr:inR m 1 1000000000000=true:=bU.2 ⟨h1,h2⟩
 have hz:(!eqB m 0)=true:=by simp[eqB];omega
 simp only[H3,MW,hr,hz,au]
 rw[bJ oaa,acK oaa,adi,zz106]
abbrev hM:Int:=2147483647
def zz15(v x:Int):Int:=(v*1000003+x%hM+13)%hM
theorem zz404(v x:Int):0<=zz15 v x/\zz15 v x<hM:=⟨ac8 _ (by decide),ac7 _ (by decide)⟩
theorem zz282{v x:Int}(h0:0<=v)(h1:v<hM):acF (WR (WR (WR (v*1000003)+x%hM)+13)) hM=zz15 v x:=by
 have a:=ac8 x (show hM≠0 by decide)
 have b:=ac7 x (show 0<hM by decide)
 unfold hM at*
 rw[bJ (n:=v*1000003) oaa,bJ (n:=v*1000003+x%2147483647) oaa,bJ (n:=v*1000003+x%2147483647+13) oaa,acK oaa]
 rfl
theorem zz458{v x:Int}(h0:0<=v)(h1:v<hM):om v x=ς (zz15 v x):=by
 rw[om,zz208 x oaa oaa]
 simp only[acH]
 rw[zz282 h0 h1]
def zz74(v:Int)(xs:List Int):Int:=xs.foldl zz15 v
theorem LV{v:Int}(h0:0<=v)(h1:v<hM):∀(xs:List Int),0<=zz74 v xs/\zz74 v xs<hM
 |[]=>⟨h0,h1⟩
 |x::xs=>LV (zz404 v x).1 (zz404 v x).2 xs
theorem zz155:∀(xs:List Int) (v:Int),0<=v->v<hM->lU (λ(s x:Int)=>ς (ci.next (ρ:=Int) (acF (WR (WR (WR (s*1000003)+x%hM)+13)) hM))) ς xs v=ς (zz74 v xs)
 |[],v,_,_=>rfl
 |x::xs,v,h0,h1=>by
  rw[lU,zz282 h0 h1]
  exact zz155 xs _ (zz404 v x).1 (zz404 v x).2
theorem zz302{xs:List Int}(hl:xs.length<=1048576):QI xs=ς (zz74 11 xs):=by
 have:=eG (step:=y9 xs) xs (λk (s:Int)=>(s,(k:Int))) (λs x=>ς (ci.next (acF (WR (WR (WR (s*1000003)+x%hM)+13)) hM))) ς oaa
  (λk x s hx hk=>by
   simp only[y9,ct hk,bm,hx,An x (m:=2147483647) oaa oaa,WRs (k:=k),au];rfl) (λs=>by simp[y9]) 11
 rw[QI,show iter (y9 xs) FU (11,0)=_ from this,zz155 xs 11 (by decide) (by decide)]
 rfl
theorem zz107:∀(xs:List Int) (v:Int),0<=v->v<hM->lU (λ(s x:Int)=>acE (om s x) λr=>ς (ci.next (ρ:=Int) r)) ς xs v=ς (zz74 v xs)
 |[],v,_,_=>rfl
 |x::xs,v,h0,h1=>by
  rw[lU,zz458 h0 h1]
  exact zz107 xs _ (zz404 v x).1 (zz404 v x).2
def zz350(k:Int)(xs:List Int):Int:=zz15 (zz74 (zz15 11 k) xs) k
theorem zz390(k:Int)(xs:List Int):0<=zz350 k xs/\zz350 k xs<hM:=zz404 _ _
theorem et{xs:List Int}(hl:xs.length<=1048576)(k:Int):eX k xs=ς (zz350 k xs):=by
 have:=eG (step:=mW xs) xs (λk (s:Int)=>(s,(k:Int))) (λs x=>acE (om s x) λr=>ς (ci.next r)) ς oaa
  (λk x s hx hk=>by
   simp only[mW,ct hk,bm,hx,WRs (k:=k),au]
   simp_all) (λs=>by simp[mW]) (zz15 11 k)
 rw[eX,zz458 (by decide) (by decide)]
 simp only[acH]
 have h2:=zz404 11 k
 rw[show iter (mW xs) FU (zz15 11 k,0)=_ from this,zz107 xs _ h2.1 h2.2]
 have h3:=LV h2.1 h2.2 xs
 simp only[acH]
 rw[zz458 h3.1 h3.2]
 rfl
theorem eu{xs:List Int}(hl:xs.length<=100000)(k:Int):fa k xs=ς (zz350 k xs):=by
 have a1:cW 8 ([k]++xs).length=true:=zz343 oaa (by simp;omega)
 have a2:cW 8 (([k]++xs)++[k]).length=true:=zz343 oaa (by simp;omega)
 rw[fa,a1,a2]
 simp only[cond_true]
 rw[zz302 (by simp;omega)]
 simp[zz74,zz350]
def dk(k x:Int):Int:=if zz350 k [9,x]=0 then 1 else zz350 k [9,x]
theorem zz436(k x:Int):p8 k x=ς (dk k x):=by
 rw[p8,et (by simp)]
 simp only[acH,dk]
 by_cases h:zz350 k [9,x]=0
 .rw[h];simp
 rw[show eqB (zz350 k [9,x]) 0=η from eqB_f.2 h];simp[h]
theorem zz438(k x:Int):qo k x=ς (dk k x):=by
 have:=(zz390 k [9,x]).1
 rw[qo,eu (by simp)]
 simp only[acH,dk,GL]
 by_cases h:zz350 k [9,x]=0
 .rw[h,show ltB 1 0=η from ltB_f.2 oaa];simp
 by_cases h1:zz350 k [9,x]=1
 .rw[h1];simp
 rw[show ltB 1 (zz350 k [9,x])=ζ from ltB_t.2 oaa];simp[h]
def zz176(k:Int)(xs:List Int):Int:=xs.foldl dk k
theorem zz54:∀(xs:List Int) (v:Int),lU (λ(s x:Int)=>ς (ci.next (ρ:=Int) (dk s x))) ς xs v=ς (zz176 v xs)
 |[],v=>rfl
 |x::xs,v=>by rw[lU];exact zz54 xs _
theorem zz467{p:fB}(hl:p.Steps.length<=1048576)(k:Int):qR k p=ς (zz176 k p.Steps):=by
 have:=eG (step:=kZ p.Steps) p.Steps (λj (s:Int)=>(s,(j:Int))) (λs x=>ς (ci.next (dk s x))) ς oaa
  (λj x s hx hj=>by simp[kZ,ct hj,hx,WRs (k:=j),zz436]) (λs=>by simp[kZ]) k
 rw[qR,xi,show iter (kZ p.Steps) FU (k,0)=_ from this,zz54]
 rfl
theorem zz478{p:fB}(hl:p.Steps.length<=1048576)(k:Int):rm k p=ς (zz176 k p.Steps):=by
 have:=eG (step:=mt p) p.Steps (λj (s:Int)=>(s,(j:Int))) (λs x=>ς (ci.next (dk s x))) ς oaa
  (λj x s hx hj=>by simp[mt,ct hj,hx,WRs (k:=j),zz438]) (λs=>by simp[mt]) k
 rw[rm,show iter (mt p) FU (k,0)=_ from this,zz54]
 rfl
def zz169(k e:Int):Int:=zz176 k [1,3,e]
theorem zz457(k e:Int):s5 k e=ς (zz169 k e):=by
 rw[s5,vB]
 simp only[acH]
 rw[zz467 (by simp)];rfl
theorem zz453(k e:Int):s9 k e=ς (zz169 k e):=by
 rw[s9,vJ]
 simp only[acH]
 rw[zz478 (by simp)];rfl
def okB(xs:List Int):Prop:=∀x∈xs,yx x
theorem Un{x:Int}(h:yx x):WR x=x:=bJ (by simp only[yx] at h;omega)
theorem Df:∀(xs acc:List Int),okB xs->acc.length+xs.length<=100000->lU (λ(s:List Int) (x:Int)=>bif cW 8 (s++[WR x]).length then ς (ci.next (ρ:=List Int) (s++[WR x])) else ξ) ς xs acc=ς (acc++xs)
 |[],acc,_,_=>by simp[lU]
 |x::xs,acc,h,hl=>by
  simp only[aaS] at hl
  rw[lU,show cW 8 (acc++[WR x]).length=ζ from ew (by simp;omega) (by simp;omega),Un (h x (.head _))]
  simp only[cond_true]
  rw[Df xs (acc++[x]) (λy hy=>h y (.tail _ hy)) (by simp;omega)]
  simp
theorem IB{xs:List Int}(hb:okB xs)(hl:xs.length<=50000):sj xs=ς ((xs.length:Int)::xs):=by
 have:=eG (step:=kV xs) xs (λj (s:List Int)=>((j:Int),s)) (λ(s:List Int) (x:Int)=>bif cW 8 (s++[WR x]).length then ς (ci.next (ρ:=List Int) (s++[WR x])) else ξ) ς oaa
  (λj x s hx hj=>by
   simp only[kV,ct hj,bm,hx,WRs (k:=j),au]
   simp_all) (λs=>by simp[kV]) [(xs.length:Int)]
 have hm:qj 8 0 (WR ((xs.length:Int)+1))=true:=by
  rw[bJ oaa];simp only[qj,decide_eq_true_eq];omega
 rw[sj,hm]
 simp only[cond_true]
 rw[show((aaI ((0:Int)).toNat 0)++[(xs.length:Int)])=[(xs.length:Int)] from rfl,show cW 8 [(xs.length:Int)].length=ζ from ew (by simp) (by simp)]
 simp only[cond_true]
 rw[show iter (kV xs) FU (0,[(xs.length:Int)])=_ from this,Df xs _ hb (by simp;omega)]
 rfl
theorem zz113{xs:List Int}(hb:okB xs)(hl:xs.length<=50000):sP xs=ς ((xs.length:Int)::xs):=by
 have:=eG (step:=lg xs) xs (λj (s:List Int)=>((j:Int),s)) (λ(s:List Int) (x:Int)=>bif cW 8 (s++[WR x]).length then ς (ci.next (ρ:=List Int) (s++[WR x])) else ξ) ς oaa
  (λj x s hx hj=>by
   simp only[lg,ct hj,bm,hx,WRs (k:=j),au]
   simp_all) (λs=>by simp[lg]) [(xs.length:Int)]
 rw[sP,show iter (lg xs) FU (0,[(xs.length:Int)])=_ from this,Df xs _ hb (by simp;omega)]
 rfl
def Ib(m:bw):Bool:=inR m.dt 0 1&&(inR m.gk 1 100000&&(leB (m.bk.length:Int) 60&&inR m.i7 0 2147483646))
theorem tV(m:bw):lk m=ς (Ib m):=by
 simp only[lk,MW,acH,Ib]
 grind
theorem zz25(m:bw):nJ m=ς (Ib m):=by
 simp only[nJ,zz49,acH,Ib]
 by_cases h0:m.dt=0
 .rw[h0,show inR 0 0 1=ζ from bU.2 oaa]
  simp only[bv,cond_true]
  grind
 by_cases h1:m.dt=1
 .rw[h1,show inR 1 0 1=ζ from bU.2 oaa,show eqB 1 0=η from eqB_f.2 oaa]
  simp only[bv,au]
  grind
 rw[show eqB m.dt 0=η from eqB_f.2 h0,show eqB m.dt 1=η from eqB_f.2 h1,show inR m.dt 0 1=η from by
  cases h:inR m.dt 0 1 with
  |false=>rfl
  |true=>have:=bU.1 h;omega]
 rfl
def mac(k:Int)(m:bw):Int:=zz350 k ([m.dt,m.gk]++((m.bk.length:Int)::m.bk))
theorem zz95{m:bw}(hb:okB m.bk)(hl:m.bk.length<=50000)(k:Int):xg k m=ς (eqB m.i7 (mac k m)):=by
 rw[xg,oo,IB hb hl]
 simp only[acH]
 rw[show cW 8 ([m.dt,m.gk]++((m.bk.length:Int)::m.bk)).length=ζ from ew (by simp;omega) (by simp;omega),et (by simp;omega)]
 rfl
theorem A4{m:bw}(hb:okB m.bk)(hl:m.bk.length<=50000)(k:Int):tU k m=ς (eqB m.i7 (mac k m)):=by
 rw[tU,DC,zz113 hb hl]
 simp only[acH]
 rw[show cW 8 ([m.dt,m.gk]++((m.bk.length:Int)::m.bk)).length=ζ from ew (by simp;omega) (by simp;omega),eu (by simp;omega)]
 rfl
theorem zz102{m:bw}(h:Ib m=ζ):m.bk.length<=60:=by
 simp only[Ib,hV] at h
 have:=y3 h.2.2.1
 omega
def zz5(k:Int)(p:aD):Bool:=Ib p.bL&&(eqB p.bL.dt 1&&eqB p.bL.i7 (mac (zz169 k p.aY) p.bL))
theorem zz62{p:aD}(hb:okB p.bL.bk)(k:Int):sC k p=ς (zz5 k p):=by
 rw[sC,zz25]
 simp only[acH,zz5,zz457]
 cases hv:Ib p.bL
 .rfl
 rw[zz95 hb (abR (zz102 hv) oaa)]
 grind
theorem zz470{p:aD}(hb:okB p.bL.bk)(k:Int):pM k p=ς (zz5 k p):=by
 rw[pM,tV]
 simp only[acH,zz5,zz453]
 cases hv:Ib p.bL
 .rfl
 rw[A4 hb (abR (zz102 hv) oaa)]
 grind
def d1(k:Int)(i:Nat)(x:Int):Int:=(x-zz350 k [(i:Int)]%256)%256
def Bf(k:Int)(xs:List Int):List Int:=xs.mapIdx (λi x=>d1 k i x)
theorem zz79(k:Int)(xs:List Int):(Bf k xs).length=xs.length:=by simp[Bf]
theorem zz308(k:Int)(xs:List Int):okB (Bf k xs):=by
 intro x hx
 obtain⟨i,hi⟩:=aaP hx
 simp only[Bf,acR] at hi
 cases h:xs[i]? with
 |none=>simp_all
 |some y=>
  rw[h] at hi;simp at hi;subst hi
  simp only[yx,d1]
  omega
theorem zz103(n:Int):IntKind.u8.wrap n=n%256:=by rfl
theorem zz157{xs:List Int}(hb:okB xs)(hl:xs.length<=50000)(k:Int):B8 k xs=ς (Bf k xs):=by
 have hc:eY xs=ς xs:=by
  have hm:qj 1 (xs.length:Int) (xs.length:Int)=true:=by simp only[qj,decide_eq_true_eq];omega
  rw[eY,hm]
  simp[cpL]
 have goal:Wp (iter (yC k xs) FU (0,xs)) (λr=>r=Bf k xs):=by
  refine Wp.iterF (λs=>∃i:Nat,i<=xs.length/\s.1=(i:Int)/\s.2.length=xs.length/\(∀j,j<i->s.2[j]?=(Bf k xs)[j]?)/\(∀j,i<=j->s.2[j]?=xs[j]?)) (λs=>((xs.length:Int)-s.1).toNat) ⟨0,by omega,rfl,rfl,by omega,λ_ _=>rfl⟩ (by simp;omega) ?_
  rintro⟨v2,v3⟩ ⟨i,hi,rfl,h3,h4,h5⟩
  simp only at h3 h4 h5
  simp only[yC]
  refine Wp.cond (λhlt=>?_) (λhlt=>?_)
  .have hlt:=zz369 hlt
   have hil:i<xs.length:=by omega
   refine Wp.ix oaa oaa λx hx hxi=>?_
   refine Wp.eq (et (by simp) _) (Wp.ix oaa oaa λx' _ _=>Wp.some ?_)
   simp only[acI] at hxi
   have hxi':xs[i]?=ς x:=by rw[<-h5 i (aaL _)];exact hxi
   have hr:=zz390 k [(i:Int)]
   have e1:acF (zz350 k [(i:Int)]) 256=zz350 k [(i:Int)]%256:=acK hr.1
   have e2:IntKind.u8.wrap (x-IntKind.u8.wrap (acF (zz350 k [(i:Int)]) 256))=d1 k i x:=by
    rw[zz103,zz103,e1,d1]
    omega
   have e3:WR ((i:Int)+1)=((i+1:Nat):Int):=by rw[bJ oaa];rfl
   rw[e2,e3]
   refine⟨⟨i+1,by omega,rfl,by simp_all,λj hj=>?_,λj hj=>?_⟩,?_⟩
   .simp only[acI]
    rw[acf]
    by_cases hij:i=j
    .subst hij
     rw[if_pos rfl,if_pos oaa]
     simp only[Bf,acR,hxi',acV]
    grind
   .grind
   omega
  have hlt:=zz412 hlt
  refine Wp.some (acT λj=>?_)
  by_cases hj:j<xs.length
  .grind
  rw[adc oaa,adc (by rw[zz79];omega)]
 obtain⟨r,h1,h2⟩:=goal.ex
 rw[B8,hc]
 simp_all
theorem zz170{xs:List Int}(hb:okB xs)(hl:xs.length<=50000)(k:Int):CB k xs=ς (Bf k xs):=by
 have goal:Wp (iter (y7 k xs) FU (0,[])) (λr=>r=Bf k xs):=by
  refine Wp.iterF (λs=>∃i:Nat,i<=xs.length/\s.1=(i:Int)/\s.2=(Bf k xs).take i) (λs=>((xs.length:Int)-s.1).toNat) ⟨0,by omega,rfl,rfl⟩ (by simp;omega) ?_
  rintro⟨v2,v3⟩ ⟨i,hi,rfl,rfl⟩
  simp only[y7]
  refine Wp.cond (λhlt=>?_) (λhlt=>?_)
  .have hlt:=zz369 hlt
   have hil:i<xs.length:=by omega
   refine Wp.ix oaa oaa λx hx hxi=>?_
   simp only[acI] at hxi
   have hx8:=hb x hx
   have hr:=zz390 k [(i:Int)]
   have e1:acF (zz350 k [(i:Int)]) 256=zz350 k [(i:Int)]%256:=acK hr.1
   have hb8:0<=zz350 k [(i:Int)]%256/\zz350 k [(i:Int)]%256<256:=by omega
   simp only[yx] at hx8
   refine Wp.eq (eu (by simp) _) (Wp.eq (An _ oaa oaa) ?_)
   have hlen:((Bf k xs).take i).length=i:=by rw[abW,zz79];omega
   rw[e1,Un (hb x hx),bJ oaa,zz103]
   have e4:(x-zz350 k [(i:Int)]%256)%256%256=d1 k i x:=by rw[d1];omega
   rw[e4]
   refine Wp.ok (ew (by grind) (by grind)) (Wp.some ?_)
   have e3:WR ((i:Int)+1)=((i+1:Nat):Int):=by rw[bJ oaa];rfl
   rw[e3]
   have hxd:(Bf k xs)[i]?=ς (d1 k i x):=by simp only[Bf,acR,hxi,acV]
   refine⟨⟨i+1,by omega,rfl,by rw[ac0,hxd];rfl⟩,?_⟩
   omega
  have hlt:=zz412 hlt
  refine Wp.some ?_
  rw[ac3 (by rw[zz79];omega)]
 obtain⟨r,h1,h2⟩:=goal.ex
 rw[CB,h1,h2];rfl
def e1(k:Int)(i:Nat)(x:Int):Int:=(x+zz350 k [(i:Int)]%256)%256
def vX(k:Int)(xs:List Int):List Int:=xs.mapIdx (λi x=>e1 k i x)
@[simp] theorem encL_len (k:Int) (xs:List Int):(vX k xs).length=xs.length:=by simp[vX]
theorem zz126(k:Int)(xs:List Int):okB (vX k xs):=by
 intro x hx
 obtain⟨i,hi⟩:=aaP hx
 simp only[vX,acR] at hi
 cases h:xs[i]? with
 |none=>simp_all
 |some y=>rw[h] at hi;simp at hi;subst hi;simp only[yx,e1];omega
theorem zz158{xs:List Int}(hb:okB xs)(hl:xs.length<=50000)(k:Int):B9 k xs=ς (vX k xs):=by
 have hc:eY xs=ς xs:=zz442 oaa
 have goal:Wp (iter (yD k xs) FU (0,xs)) (λr=>r=vX k xs):=by
  refine Wp.iterF (λs=>∃i:Nat,i<=xs.length/\s.1=(i:Int)/\s.2.length=xs.length/\(∀j,j<i->s.2[j]?=(vX k xs)[j]?)/\(∀j,i<=j->s.2[j]?=xs[j]?)) (λs=>((xs.length:Int)-s.1).toNat) ⟨0,by omega,rfl,rfl,by omega,λ_ _=>rfl⟩ (by simp;omega) ?_
  rintro⟨v2,v3⟩ ⟨i,hi,rfl,h3,h4,h5⟩
  simp only at h3 h4 h5
  simp only[yD]
  refine Wp.cond (λhlt=>?_) (λhlt=>?_)
  .have hlt:=zz369 hlt
   have hil:i<xs.length:=by omega
   refine Wp.ix oaa oaa λx hx hxi=>?_
   refine Wp.eq (et (by simp) _) (Wp.ix oaa oaa λx' _ _=>Wp.some ?_)
   simp only[acI] at hxi
   have hxi':xs[i]?=ς x:=by rw[<-h5 i (aaL _)];exact hxi
   have hr:=zz390 k [(i:Int)]
   have t1:acF (zz350 k [(i:Int)]) 256=zz350 k [(i:Int)]%256:=acK hr.1
   have t2:IntKind.u8.wrap (x+IntKind.u8.wrap (acF (zz350 k [(i:Int)]) 256))=e1 k i x:=by
    rw[zz103,zz103,t1,e1]
    omega
   have t3:WR ((i:Int)+1)=((i+1:Nat):Int):=by rw[bJ oaa];rfl
   rw[t2,t3]
   refine⟨⟨i+1,by omega,rfl,by simp_all,λj hj=>?_,λj hj=>?_⟩,?_⟩
   .simp only[acI]
    rw[acf]
    by_cases hij:i=j
    .subst hij
     rw[if_pos rfl,if_pos oaa]
     simp only[vX,acR,hxi',acV]
    grind
   .grind
   omega
  have hlt:=zz412 hlt
  refine Wp.some (acT λj=>?_)
  by_cases hj:j<xs.length
  .grind
  simp_all
 obtain⟨r,h1,h2⟩:=goal.ex
 rw[B9,hc]
 simp_all
theorem MG{xs:List Int}(hb:okB xs)(hl:xs.length<=50000)(k:Int):CC k xs=ς (vX k xs):=by
 have goal:Wp (iter (y8 k xs) FU (0,[])) (λr=>r=vX k xs):=by
  refine Wp.iterF (λs=>∃i:Nat,i<=xs.length/\s.1=(i:Int)/\s.2=(vX k xs).take i) (λs=>((xs.length:Int)-s.1).toNat) ⟨0,by omega,rfl,rfl⟩ (by simp;omega) ?_
  rintro⟨v2,v3⟩ ⟨i,hi,rfl,rfl⟩
  simp only[y8]
  refine Wp.cond (λhlt=>?_) (λhlt=>?_)
  .have hlt:=zz369 hlt
   have hil:i<xs.length:=by omega
   refine Wp.ix oaa oaa λx hx hxi=>?_
   simp only[acI] at hxi
   have hx8:=hb x hx
   have hr:=zz390 k [(i:Int)]
   have t1:acF (zz350 k [(i:Int)]) 256=zz350 k [(i:Int)]%256:=acK hr.1
   have hb8:0<=zz350 k [(i:Int)]%256/\zz350 k [(i:Int)]%256<256:=by omega
   simp only[yx] at hx8
   refine Wp.eq (eu (by simp) _) ?_
   have hlen:((vX k xs).take i).length=i:=by rw[abW,encL_len];omega
   rw[t1,Un (hb x hx),bJ oaa,acK oaa,zz103]
   have t4:(x+zz350 k [(i:Int)]%256)%256%256=e1 k i x:=by rw[e1];omega
   rw[t4]
   refine Wp.ok (ew (by grind) (by grind)) (Wp.some ?_)
   have t3:WR ((i:Int)+1)=((i+1:Nat):Int):=by rw[bJ oaa];rfl
   rw[t3]
   have hxd:(vX k xs)[i]?=ς (e1 k i x):=by simp only[vX,acR,hxi,acV]
   refine⟨⟨i+1,by omega,rfl,by rw[ac0,hxd];rfl⟩,?_⟩
   omega
  have hlt:=zz412 hlt
  refine Wp.some ?_
  rw[ac3 (by simp_all)]
 obtain⟨r,h1,h2⟩:=goal.ex
 rw[CC,h1,h2];rfl
theorem V3{b:List Int}(hb:okB b)(hl:b.length<=50000)(k d c:Int):oo k d c b=ς (zz350 k ([d,c]++((b.length:Int)::b))):=by
 rw[oo,IB hb hl]
 simp only[acH]
 rw[show cW 8 ([d,c]++((b.length:Int)::b)).length=ζ from ew (by simp;omega) (by simp;omega),et (by simp;omega)]
 rfl
theorem V4{m:bw}(hb:okB m.bk)(hl:m.bk.length<=50000)(k:Int):DC k m=ς (mac k m):=by
 rw[DC,zz113 hb hl]
 simp only[acH]
 rw[show cW 8 ([m.dt,m.gk]++((m.bk.length:Int)::m.bk)).length=ζ from ew (by simp;omega) (by simp;omega),eu (by simp;omega)]
 rfl
def Xt(k c:Int)(b:List Int):bw:=⟨1,c,vX (dk k (2*c+1)) b,mac k ⟨1,c,vX (dk k (2*c+1)) b,0⟩⟩
def zz375(root g e:Int)(x:ab):aD:=⟨g,e,Xt (zz169 root e) x.cX x.bk⟩
theorem zz139(h0:0<=x.cX)(h1:x.cX<=1000000)(hb:okB x.bk)(hl:x.bk.length<=50000)(root g e:Int):qq root g e x=ς (zz375 root g e x):=by
 simp only[qq,zz453,GN,acH,bJ (n:=2*x.cX) oaa,bJ (n:=2*x.cX+1) oaa,zz438,MG hb hl,V4 (m:=⟨1,x.cX,vX _ x.bk,0⟩) (zz126 _ _) (by simpa using hl)]
 rfl
theorem zz305(h0:0<=x.cX)(h1:x.cX<=1000000)(hb:okB x.bk)(hl:x.bk.length<=50000)(root g e:Int):tz root g e x=ς (zz375 root g e x):=by
 simp only[tz,zz457,FZ,acH,bJ (n:=2*x.cX) oaa,bJ (n:=2*x.cX+1) oaa,zz436,zz158 hb hl,V3 (zz126 _ _) (show(vX _ x.bk).length<=50000 by simpa using hl)]
 rfl
def yl(root g e:Int)(x:aD):ab×Bool:=
 if x.ah=g/\x.aY=e/\zz5 root x=ζ then(⟨x.bL.gk,Bf (dk (zz169 root e) (2*x.bL.gk+1)) x.bL.bk⟩,ζ) else(bY,η)
theorem IJ{p:aD}(hb:okB p.bL.bk)(k g e:Int):tx k g e p=ς (yl k g e p)/\xD k g e p=ς (yl k g e p):=by
 simp only[tx,zz62 hb,zz457,xD,zz470 hb,zz453,acH,yl]
 cases hg:eqB p.ah g
 .simp_all
 cases he:eqB p.aY e
 .simp_all
 cases hv:zz5 k p
 .simp_all
 have he:=zz424 he
 rw[if_pos ⟨zz424 hg,he,rfl⟩]
 simp only[zz5,hV] at hv
 obtain⟨h1,h2,h3⟩:=hv
 have hlen:=zz102 h1
 have hd:=zz424 h2
 have hm:=zz424 h3
 have hcnt:1<=p.bL.gk/\p.bL.gk<=100000:=by
  simp only[Ib,hV] at h1
  exact bU.1 h1.2.1
 rw[he] at hm
 have ek:eqB p.bL.i7 (mac (zz169 k e) p.bL)=true:=by rw[hm];simp
 simp only[xk,zz436,zz157 hb (show p.bL.bk.length<=50000 by omega),By,tV,A4 hb (show p.bL.bk.length<=50000 by omega),zz438,zz170 hb (show p.bL.bk.length<=50000 by omega),h1,h2,ek,show leB p.bL.gk 0=η from leB_f.2 oaa,hd,bJ (n:=2*p.bL.gk) oaa,bJ (n:=2*p.bL.gk+1) oaa,au]
 simp_all
def zz195(root:Int)(m:aG):Int:=zz350 (zz176 root [1,2]) [23,m.bu,m.bh,m.ah,m.aY,m.bZ]
def zz439(root:Int)(m:aG):aG:={m with i7:=zz195 root m}
def zz414(root:Int)(m:aG):Bool:=eqB m.i7 (zz195 root m)
theorem zz306(root:Int)(m:aG):tT root m=ς (zz195 root m):=by simp[tT,pJ,zz478,eu,zz195]
theorem Xy(root:Int)(m:aG):tA root m=ς (zz195 root m):=by simp[tA,o5,zz467,et,zz195]
theorem BD(root:Int)(m:aG):js root m=ς (zz439 root m):=by simp[js,zz306,zz439]
theorem zz141(root:Int)(m:aG):ol root m=ς (zz439 root m):=by simp[ol,Xy,zz439]
theorem zz134(root:Int)(m:aG):iC root m=ς (zz414 root m):=by simp[iC,zz306,zz414]
theorem zz190(root:Int)(m:aG):jD root m=ς (zz414 root m):=by simp[jD,Xy,zz414]
@[simp] theorem vSig_sign (root:Int) (m:aG):zz414 root (zz439 root m)=true:=by simp[zz414,zz439,zz195,eqB]
def zz391(m:aG):Bool:=inR m.bu 1 8&&(inR m.bh 0 5&&(inR m.ah 0 999999&&(inR m.aY 0 999999&&inR m.bZ 0 1000000000000)))
theorem Qp(m:aG):mr m=ς (zz391 m):=by
 simp only[mr,zz355,acH,zz391]
 grind
theorem Qo(m:aG):mc m=ς (zz391 m):=by
 simp only[mc,zz360,acH,zz391]
 grind
def msk(k r:Int):Int:=zz350 k [1,r]%1000000
theorem zz143(k r:Int):0<=msk k r/\msk k r<1000000:=by unfold msk;omega
theorem msk_s(k r:Int):nB k r=ς (msk k r):=by simp[nB,eu,An,msk]
theorem msk_i(k r:Int):mY k r=ς (msk k r):=by simp[mY,et,msk,acK (zz390 k [1,r]).1]
def unm(k r a:Int):Int:=(a%1000000-msk k r)%1000000
theorem zz198(k r a:Int):0<=unm k r a/\unm k r a<=999999:=by unfold unm;omega
theorem unm_s(k r a:Int):lq k r a=ς (unm k r a):=by
 have:=zz143 k r
 simp only[lq,An _ (show(1:Int)<=1000000 by omega) oaa,msk_s,acH,unm];rw[bJ oaa]
theorem unm_i(k r a:Int):kY k r a=ς (unm k r a):=by
 have:=zz143 k r
 simp only[kY,zz208 _ (show(1:Int)<=1000000 by omega) oaa,msk_i,acH,unm];rw[bJ oaa]
def zz123(x:Int):Int:=if x=0 then 1 else x
def vec(k r q:Int):cy:=bif inR q 0 999999 then⟨r,(q+msk k r)%1000000,zz350 k [2,r,q],zz350 k [3,r],zz123 (zz350 k [4,r,q])⟩ else cH
theorem zz317(k:Int)(xs:List Int):1<=zz123 (zz350 k xs)/\zz123 (zz350 k xs)<=2147483646:=by have:=zz390 k xs;unfold hM zz123 at*;omega
theorem zz189(k r q:Int):gY k r q=ς (vec k r q):=by
 simp only[gY,zz355,acH,vec]
 cases hq:inR q 0 999999
 .rfl
 rw[bU] at hq
 have h1:=zz143 k r
 have h2:=zz390 k [4,r,q]
 simp only[msk_s,An _ (show(1:Int)<=1000000 by omega) oaa,eu (show [2,r,q].length<=100000 by simp),eu (show [3,r].length<=100000 by simp),eu (show [4,r,q].length<=100000 by simp),GL,au]
 rw[bJ oaa]
 by_cases h:zz350 k [4,r,q]=0
 .rw[show ltB 1 (zz350 k [4,r,q])=η from ltB_f.2 oaa];simp[zz123,h]
 by_cases h':zz350 k [4,r,q]=1
 .rw[h'];simp[ltB,zz123]
 rw[show ltB 1 (zz350 k [4,r,q])=ζ from ltB_t.2 oaa];simp[zz123,h]
theorem vec_i(k r q:Int):md k r q=ς (vec k r q):=by
 simp only[md,zz360,acH,vec]
 cases hq:inR q 0 999999
 .rfl
 rw[bU] at hq
 have h1:=zz143 k r
 simp only[msk_i,et (show [2,r,q].length<=1048576 by simp),et (show [3,r].length<=1048576 by simp),et (show [4,r,q].length<=1048576 by simp),au]
 rw[bJ oaa,acK oaa]
 by_cases h:zz350 k [4,r,q]=0
 .rw[h];simp[zz123]
 rw[show eqB (zz350 k [4,r,q]) 0=η from eqB_f.2 h];simp[zz123,h]
def zz418(k last:Int)(v:cy):Int:=
 if v.i7≠zz350 k [2,v.ez,unm k v.ez v.f7] then 1 else if unm k v.ez v.f7<=last then 2 else if last<unm k v.ez v.f7-1000 then 3 else 0
theorem zz237(k last:Int)(v:cy):nC k last v=ς (zz418 k last v):=by
 have hu:=zz198 k v.ez v.f7
 simp only[nC,unm_s,eu (show [2,v.ez,unm k v.ez v.f7].length<=100000 by simp),acH,zz418]
 rw[bJ oaa]
 by_cases h1:v.i7=zz350 k [2,v.ez,unm k v.ez v.f7]
 .rw[show eqB v.i7 (zz350 k [2,v.ez,unm k v.ez v.f7])=ζ from eqB_t.2 h1]
  simp only[ne_eq,h1,not_true_eq_false,if_false,au]
  by_cases h2:unm k v.ez v.f7<=last
  .rw[show leB (unm k v.ez v.f7) last=ζ from leB_t.2 h2,if_pos h2];rfl
  rw[show leB (unm k v.ez v.f7) last=η from leB_f.2 oaa,if_neg h2]
  by_cases h3:last<unm k v.ez v.f7-1000
  .rw[show ltB last (unm k v.ez v.f7-1000)=ζ from ltB_t.2 h3,if_pos h3];rfl
  rw[show ltB last (unm k v.ez v.f7-1000)=η from ltB_f.2 oaa,if_neg h3];rfl
 rw[show eqB v.i7 (zz350 k [2,v.ez,unm k v.ez v.f7])=η from eqB_f.2 h1]
 simp[h1]
theorem aaD{last:Int}(hl: -9000000000000<=last/\last<=9000000000000)(k:Int)(v:cy):qC k last v=ς (zz418 k last v):=by
 have hu:=zz198 k v.ez v.f7
 simp only[qC,unm_i,et (show [2,v.ez,unm k v.ez v.f7].length<=1048576 by simp),acH,zz418]
 rw[bJ oaa]
 by_cases h1:v.i7=zz350 k [2,v.ez,unm k v.ez v.f7]
 .rw[show eqB v.i7 (zz350 k [2,v.ez,unm k v.ez v.f7])=ζ from eqB_t.2 h1]
  simp only[ne_eq,h1,not_true_eq_false,if_false,au]
  by_cases h2:unm k v.ez v.f7<=last
  .rw[show leB (unm k v.ez v.f7) last=ζ from leB_t.2 h2,if_pos h2];rfl
  rw[show leB (unm k v.ez v.f7) last=η from leB_f.2 oaa,if_neg h2]
  by_cases h3:last<unm k v.ez v.f7-1000
  .rw[show ltB (last+1000) (unm k v.ez v.f7)=ζ from ltB_t.2 oaa,if_pos h3];rfl
  rw[show ltB (last+1000) (unm k v.ez v.f7)=η from ltB_f.2 oaa,if_neg h3];rfl
 rw[show eqB v.i7 (zz350 k [2,v.ez,unm k v.ez v.f7])=η from eqB_f.2 h1]
 simp[h1]
def zz93(id:dq)(q:Int):Int:=zz350 29 [id.d4,id.bZ,q]
theorem NF(id:dq)(q:Int):kf id q=ς (zz93 id q):=by simp[kf,eu,zz93]
theorem chal_i(id:dq)(q:Int):oP id q=ς (zz93 id q):=by simp[oP,et,zz93]
theorem zz166{α:Type}(p:α->Bool):∀(xs:List α) (i:Nat),i<(xs.takeWhile p).length->∃x,xs[i]?=ς x/\p x=ζ
 |[],i,h=>by simp at h
 |x::xs,i,h=>by
  rw[acY] at h
  cases hp:p x<;>rw[hp] at h
  .simp at h
  cases i with
  |zero=>simp_all
  |succ i=>exact zz166 p xs i (by simpa using h)
theorem zz165{α:Type}(p:α->Bool):∀(xs:List α) (x:α),xs[(xs.takeWhile p).length]?=ς x->p x=η
 |[],x,h=>by simp at h
 |y::xs,x,h=>by
  rw[acY] at h
  cases hp:p y<;>rw[hp] at h
  .simp_all
  exact zz165 p xs x (by simpa using h)
theorem zz29(p:α->Bool)(xs:List α):(xs.takeWhile p).length<=xs.length:=(List.takeWhile_prefix p).length_le
theorem zz18{α:Type}(p:α->Bool):∀xs:List α,xs.take (xs.takeWhile p).length=xs.takeWhile p
 |[]=>rfl
 |x::xs=>by
  rw[acY]
  cases p x
  .rfl
  simp[zz18 p xs]
theorem zz17{α:Type}(p:α->Bool):∀xs:List α,xs.drop (xs.takeWhile p).length=xs.dropWhile p
 |[]=>rfl
 |x::xs=>by
  rw[acY,adh]
  cases p x
  .rfl
  simp[zz17 p xs]
theorem uk{L:Int->Option (ci Int Int)}(xs:List α)(p:α->Bool)(hl:xs.length<=1048576)(h1:∀(k:Nat) (x:α),xs[k]?=ς x->L k=bif p x then ς (.next (WR ((k:Int)+1))) else ς (.done k))(h0:L xs.length=ς (.done xs.length)):iter L FU 0=ς (((xs.takeWhile p).length:Nat):Int):=by
 have hle:=zz29 p xs
 have:Wp (iter L FU 0) (λr=>r=(((xs.takeWhile p).length:Nat):Int)):=by
  refine Wp.iterF (λs=>∃i:Nat,s=(i:Int)/\i<=(xs.takeWhile p).length) (λs=>((xs.length:Int)-s).toNat) ⟨0,rfl,by omega⟩ oaa ?_
  rintro _ ⟨i,rfl,hi⟩
  by_cases e:i<(xs.takeWhile p).length
  .obtain⟨x,hx,hp⟩:=zz166 p xs i e
   rw[h1 i x hx,hp]
   exact⟨⟨i+1,by rw[bJ oaa];rfl,by omega⟩,by simp only[bJ (show-9223372036854775808<=(i:Int)+1/\(i:Int)+1<=9223372036854775807 by omega)];omega⟩
  have e:i=(xs.takeWhile p).length:=by omega
  by_cases hn:i<xs.length
  .obtain⟨x,hx⟩:∃x,xs[i]?=ς x:=⟨_,zz330 hn⟩
   rw[h1 i x hx,zz165 p xs x (by simp_all)]
   subst e;rfl
  have:i=xs.length:=by omega
  subst this
  rw[h0]
  show(xs.length:Int)=_
  omega
 obtain⟨r,hr,rfl⟩:=this.ex
 exact hr
def before(q:Int)(x:ab):Bool:=ltB x.cX q
def zz381(x:ab)(xs:List ab):List ab:=xs.takeWhile (before x.cX)++[x]++xs.dropWhile (before x.cX)
def zz382:List ab->Int->List bI->aM
 |[],n,dl=>⟨n,[],dl⟩
 |x::xs,n,dl=>if x.cX=n/\dl.length<24 then zz382 xs (n+1) (dl++[⟨x.bk⟩]) else⟨n,x::xs,dl⟩
def zz437(r:aM)(x:ab):Bool:=!zz379 r||(ltB 60 (x.bk.length:Int)||(!inR x.cX r.bB (r.bB+7)||(r.aA.any (λy=>eqB y.cX x.cX)||leB 24 (r.bi.length:Int))))
def zz395(r:aM)(x:ab):aM:=
 bif zz437 r x then r else
  let o:=zz382 (zz381 x r.aA) r.bB r.bi
  bif leB 24 (o.bi.length:Int) then {o with aA:=[]} else o
theorem zz50:∀(xs:List ab) (n:Int) (dl:List bI),dl.length<=24->(zz382 xs n dl).bi.length<=24
 |[],n,dl,h=>h
 |x::xs,n,dl,h=>by
  rw[zz382];split
  .exact zz50 xs _ _ (by simp;omega)
  exact h
theorem zz51{L:aM->Option (ci aM aM)}(hL:∀v:aM,v.aA.length<=1000->v.bi.length<=24->0<=v.bB->v.bB<=2000000->L v=match v.aA with
  |[]=>ς (.done v)
  |x::xs=>if x.cX=v.bB/\v.bi.length<24 then ς (.next ⟨v.bB+1,xs,v.bi++[⟨x.bk⟩]⟩) else ς (.done v)):
 ∀(xs:List ab) (n:Int) (dl:List bI) (fu:Nat),xs.length<=1000->dl.length<=24->0<=n->n+xs.length<=2000000->xs.length<fu->iter L fu ⟨n,xs,dl⟩=ς (zz382 xs n dl)
 |[],n,dl,fu,h1,h2,h3,h4,h5=>by
  cases fu with
  |zero=>omega
  |succ fu=>rw[iter,hL _ h1 h2 h3 (by simp_all)];rfl
 |x::xs,n,dl,fu,h1,h2,h3,h4,h5=>by
  simp only[aaS] at h1 h4 h5
  cases fu with
  |zero=>omega
  |succ fu=>
   rw[iter,hL ⟨n,x::xs,dl⟩ oaa h2 h3 (by grind),zz382]
   simp only
   by_cases e:x.cX=n/\dl.length<24
   .rw[if_pos e,if_pos e]
    exact zz51 hL xs (n+1) _ fu oaa (by simp;omega) oaa oaa oaa
   grind
theorem zz152{xs:List ab}(h:xs.length<=1048576)(q:Int):∃r,CM xs q=ς r/\leB 0 r=xs.any (λy=>eqB y.cX q):=by
 refine⟨_,zz441 (L:=u7 xs q) xs (λy=>eqB y.cX q) oaa (λk x hx hk=>?_) ?_,?_⟩
 .simp[u7,ct hk,hx];cases eqB x.cX q<;>simp[WRs (k:=k)]
 .simp[u7]
 rcases Do (λy:ab=>eqB y.cX q) xs 0 with⟨e,ha⟩|⟨j,e,x,hx,hp,_⟩
 .rw[show((0:Nat):Int)=0 from rfl] at e
  rw[e,show xs.any (λy=>eqB y.cX q)=η from by simp_all];simp[leB]
 rw[show((0:Nat):Int)=0 from rfl] at e
 rw[e,show xs.any (λy=>eqB y.cX q)=ζ from List.any_eq_true.2 ⟨x,zz326 hx,hp⟩,leB_t];omega
theorem WK(h:r.aA.length<=1048576)(q:Int):Bl r q=ς (r.aA.any (λy=>eqB y.cX q)):=
 zz160 (L:=qF r q) r.aA (λy=>eqB y.cX q) oaa (λk x hx hk=>by
  simp[qF,ct hk,hx];cases eqB x.cX q<;>simp[WRs (k:=k)]) (by simp[qF])
theorem lG(h:zz379 r=ζ):r.bB=(r.bi.length:Int)+1/\r.bi.length<=24/\r.aA.length<=8:=by
 simp only[zz379,hV] at h
 obtain⟨h1,h2,h3,h4,h5⟩:=h
 have h2:=y3 h2
 have h4:=y3 h4
 have h1:=zz424 h1
 rw[bJ oaa] at h1
 omega
theorem zz468(x:ab)(xs:List ab):(zz381 x xs).length=xs.length+1:=by
 have:(xs.takeWhile (before x.cX)).length+(xs.dropWhile (before x.cX)).length=xs.length:=by rw[<-abk,ac2]
 simp[zz381];omega
theorem L2_i:∀v:aM,v.aA.length<=1000->v.bi.length<=24->0<=v.bB->v.bB<=2000000->lM v=match v.aA with
 |[]=>ς (.done v)
 |x::xs=>if x.cX=v.bB/\v.bi.length<24 then ς (.next ⟨v.bB+1,xs,v.bi++[⟨x.bk⟩]⟩) else ς (.done v):=by
 rintro⟨n,p,dl⟩ h1 h2 h3 h4
 cases p with
 |nil=>simp[lM]
 |cons x xs=>
  simp only[aaS] at h1 h2
  have i0:ix (x::xs) 0=ς x:=by simp[ix,leB]
  have hlt:ltB 0 (((x::xs).length:Nat):Int)=true:=ltB_t.2 (by simp_all)
  simp only[lM,i0,hlt,au]
  by_cases e:x.cX=n
  .by_cases e2:dl.length<24
   .rw[if_pos ⟨e,e2⟩,eqB_t.2 e,show ltB (dl.length:Int) 24=ζ from ltB_t.2 oaa]
    have a1:cW 24 (dl++[(⟨x.bk⟩:bI)]).length=true:=zz343 oaa (by simp;omega)
    have a2:em (x::xs) 1 (((x::xs).length:Nat):Int)=true:=by simp[em];omega
    simp only[a1,a2,bJ (n:=n+1) (by grind),au]
    rfl
   rw[if_neg (λh=>e2 h.2),eqB_t.2 e,show ltB (dl.length:Int) 24=η from ltB_f.2 oaa];rfl
  rw[if_neg (λh=>e h.1),eqB_f.2 e];rfl
theorem L2_s:∀v:aM,v.aA.length<=1000->v.bi.length<=24->0<=v.bB->v.bB<=2000000->uT v=match v.aA with
 |[]=>ς (.done v)
 |x::xs=>if x.cX=v.bB/\v.bi.length<24 then ς (.next ⟨v.bB+1,xs,v.bi++[⟨x.bk⟩]⟩) else ς (.done v):=L2_i
theorem z1(b:Bool)(x y:α):(bif b then ς x else ς y)=ς (bif b then x else y):=by grind
theorem J1(a b c d e:Bool):(bif !a then ς ζ else bif b then ς ζ else bif !c then ς ζ else bif d then ς ζ else ς e)=ς (!a||(b||(!c||(d||e)))):=by grind
theorem take_s(h:zz351 r) :pH r x=ς (zz395 r x):=by
 obtain⟨q,hq,hq2⟩:=zz152 h.1.1 x.cX
 have hw:zz379 r=ζ->inR x.cX r.bB (WR (WR (r.bB+8)-1))=inR x.cX r.bB (r.bB+7):=λhv=>by
  have:=lG hv
  rw[bJ (n:=r.bB+8) oaa,bJ oaa,show r.bB+8-1=r.bB+7 by omega]
 have hl:(bif !zz379 r then ς ζ else(bif ltB 60 (x.bk.length:Int) then ς ζ else(bif !(inR x.cX r.bB (WR (WR (r.bB+8)-1))) then ς ζ else(bif leB 0 q then ς ζ else ς (leB 24 (r.bi.length:Int))))))=ς (zz437 r x):=by
  rw[hq2,J1]
  cases hv:zz379 r
  .simp[zz437,hv]
  rw[hw hv];simp[zz437,hv]
 simp only[pH,zz200 h,zz201 h.2.1 h.1.1,zz355,hq,acH,hl]
 rw[zz395]
 cases hlt:zz437 r x
 .simp only[zz437,aaQ,acN] at hlt
  obtain⟨l1,l2,l3,l4,l5⟩:=hlt
  have hv:=lG l1
  have l2:=zz412 l2
  have l5:=zz472 l5
  have hw2:=zz29 (before x.cX) r.aA
  have hrun:=uk (L:=fw x r) r.aA (before x.cX) oaa (λk y hy=>by
   have hk:=(zz334.1 hy).1
   simp[fw,ct hk,hy,before]) (by simp[fw])
  have hxs:([]:List ab)++r.aA.take ((((r.aA.takeWhile (before x.cX)).length:Nat):Int)).toNat++[(⟨x.cX,[]++x.bk⟩:ab)]++r.aA.drop ((((r.aA.takeWhile (before x.cX)).length:Nat):Int)).toNat=zz381 x r.aA:=by
   simp[zz18,zz17,zz381]
  have a1:em r.aA 0 (((r.aA.takeWhile (before x.cX)).length:Nat):Int)=true:=by simp[em];omega
  have a2:em r.aA (((r.aA.takeWhile (before x.cX)).length:Nat):Int) (r.aA.length:Int)=true:=by simp[em];omega
  have a3:cW 1 (([]:List Int)++x.bk).length=true:=zz343 oaa (by simp;omega)
  have a4:cW 32 (([]:List ab)++r.aA.take ((((r.aA.takeWhile (before x.cX)).length:Nat):Int)).toNat).length=true:=zz343 oaa (by simp;omega)
  have a5:cW 32 (([]:List ab)++r.aA.take ((((r.aA.takeWhile (before x.cX)).length:Nat):Int)).toNat++[(⟨x.cX,[]++x.bk⟩:ab)]).length=true:=zz343 oaa (by simp;omega)
  simp only[hrun,a1,a2,a3,a4,a5,au]
  rw[hxs,zz343 oaa (show(zz381 x r.aA).length<=1048577 by grind),zz51 L2_s (zz381 x r.aA) r.bB r.bi FU (by grind) oaa oaa (by grind) (by have:=ie;grind)]
  have hd:=zz50 (zz381 x r.aA) r.bB r.bi oaa
  simp only[z1,au]
  rw[show eqB (((zz382 (zz381 x r.aA) r.bB r.bi).bi.length:Nat):Int) 24=leB 24 (((zz382 (zz381 x r.aA) r.bB r.bi).bi.length:Nat):Int) from by rw[acJ];simp[eqB,leB];omega]
  cases leB 24 (((zz382 (zz381 x r.aA) r.bB r.bi).bi.length:Nat):Int)<;>rfl
 rfl
theorem PY(xs ys:List α)(z x:α):((cpD ((xs++ys)++[z]) (xs.length+1) (((xs++ys)++[z]).drop xs.length)).set xs.length x)=xs++[x]++ys:=by
 have e1:((xs++ys)++[z]).drop xs.length=ys++[z]:=by rw[acl,ac6]
 have e2:((xs++ys)++[z]).drop (xs.length+1)=(ys++[z]).drop 1:=by rw[<-zz335,e1]
 have e3:((xs++ys)++[z]).take (xs.length+1)=xs++(ys++[z]).take 1:=by rw[acl,List.take_append,ac3 oaa];simp
 rw[cpD,e1,e2,e3,cpL]
 cases ys with
 |nil=>simp
 |cons y ys=>simp_all
theorem take_i(h:zz351 r) :oX r x=ς (zz395 r x):=by
 have hw:zz379 r=ζ->inR x.cX r.bB (WR (WR (r.bB+8)-1))=inR x.cX r.bB (r.bB+7):=λhv=>by
  have:=lG hv
  rw[bJ (n:=r.bB+8) oaa,bJ oaa,show r.bB+8-1=r.bB+7 by omega]
 have hl:(bif !zz379 r then ς ζ else(bif ltB 60 (x.bk.length:Int) then ς ζ else(bif !(inR x.cX r.bB (WR (WR (r.bB+8)-1))) then ς ζ else(bif r.aA.any (λy=>eqB y.cX x.cX) then ς ζ else ς (leB 24 (r.bi.length:Int))))))=ς (zz437 r x):=by
  rw[J1]
  cases hv:zz379 r
  .simp[zz437,hv]
  rw[hw hv];simp[zz437,hv]
 simp only[oX,QH h,zz274 h.2.1 h.1.1,zz360,WK h.1.1,acH,hl]
 rw[zz395]
 cases hlt:zz437 r x
 .simp only[zz437,aaQ,acN] at hlt
  obtain⟨l1,l2,l3,l4,l5⟩:=hlt
  have hv:=lG l1
  have l2:=zz412 l2
  have l5:=zz472 l5
  have hw2:=zz29 (before x.cX) r.aA
  have hrun:=uk (L:=lL x r) r.aA (before x.cX) oaa (λk y hy=>by
   have hk:=(zz334.1 hy).1
   simp[lL,ct hk,hy,before]) (by simp[lL])
  generalize hm:(r.aA.takeWhile (before x.cX)).length=m at*
  have hxs:(cpD (r.aA++[bY]) (m+1) ((r.aA++[bY]).drop m)).set m (⟨x.cX,x.bk⟩:ab)=zz381 x r.aA:=by
   have:=PY (r.aA.takeWhile (before x.cX)) (r.aA.dropWhile (before x.cX)) bY x
   rw[ac2,hm] at this
   exact this
  have w1:WR ((m:Int)+1)=((m+1:Nat):Int):=zz396 oaa
  have a1:em (r.aA++[bY]) ((m+1:Nat):Int) (((r.aA++[bY]).length:Nat):Int)=true:=by simp[em];omega
  have a2:em (r.aA++[bY]) (m:Int) (((r.aA++[bY]).length:Nat):Int)=true:=by simp[em];omega
  have a3:cW 32 (r.aA++[bY]).length=true:=zz343 oaa (by simp;omega)
  obtain⟨y,_,hy⟩:=zz271 (xs:=cpD (r.aA++[bY]) (m+1) ((r.aA++[bY]).drop m)) (i:=(m:Int)) oaa (by simp;omega)
  simp only[hrun,w1,acI,a1,a2,a3,zz442 (show x.bk.length<=1048576 by omega),hy,au]
  rw[hxs,zz51 L2_i (zz381 x r.aA) r.bB r.bi FU (by rw[zz468];omega) oaa oaa (by rw[zz468];omega) (by have:=ie;rw[zz468];omega)]
  grind
 rfl
def yg(d:aC):aG:=zz439 d.bg ⟨5,d.bh,d.ah,d.aY,0,cH,0⟩
def zz66(d:aC):aG:={fc with bu:=1,bh:=d.bh}
def zz397(d:aC):a9:=
 bif ltB 0 d.eU then⟨{d with eU:=d.eU-1},[]⟩ else bif eqB d.bz 1 then⟨{d with eU:=3},[zz66 d]⟩ else bif eqB d.bz 2&&!d.cj then⟨{d with eU:=3},[yg d]⟩ else⟨d,[]⟩
def dOn(d:aC):a9:=bif eqB d.bz 0 then⟨{d with bz:=1,eU:=3},[zz66 d]⟩ else⟨d,[]⟩
def yr(d:aC):a9:=⟨{d with cj:=η,eU:=3},[yg d]⟩
def vW(d:aC)(c:Int):a9:=
 bif eqB c d.bh||!inR c 0 5 then⟨d,[]⟩ else bif eqB d.bz 2&&ltB d.aY 999999 then yr {d with bh:=c,aY:=d.aY+1} else⟨{d with bh:=c},[]⟩
def JF(d:aC)(m:aG):a9:=
 bif eqB (zz418 d.dO.fA d.dO.c8 m.b8) 0 then
  ⟨{d with dO:={d.dO with c8:=unm d.dO.fA m.b8.ez m.b8.f7},ah:=m.ah,bg:=(vec d.dO.fA m.b8.ez (unm d.dO.fA m.b8.ez m.b8.f7)).fA},
   [⟨3,d.bh,m.ah,0,zz350 d.dO.fA [3,m.b8.ez],cH,0⟩]⟩
 else⟨d,[]⟩
def zz435(d:aC)(m:aG):a9:=
 bif !zz391 m||(!eqB m.bh d.bh||eqB d.bz 0) then⟨d,[]⟩ else
 bif eqB m.bu 2&&eqB d.bz 1 then JF d m else
 bif eqB m.bu 4&&(eqB d.bz 1&&(p6 d.bg&&(eqB m.ah d.ah&&zz414 d.bg m))) then⟨{d with bz:=2,aY:=m.aY,cj:=ζ},[]⟩ else
 bif eqB m.bu 6&&(eqB d.bz 2&&(eqB m.ah d.ah&&(eqB m.aY d.aY&&zz414 d.bg m))) then⟨{d with cj:=ζ},[]⟩ else
 bif eqB m.bu 7&&(eqB d.bz 3&&ltB d.aY 999999) then yr {d with bz:=2,aY:=d.aY+1} else
 bif eqB m.bu 7&&eqB d.bz 2 then yr d else⟨d,[]⟩
def Y3(d:aC)(r:aM):aG:=zz439 d.bg ⟨8,d.bh,d.ah,d.aY,r.bB,cH,0⟩
def zz434(d:aC)(x:aD):a9:=
 let o:=yl d.bg d.ah d.aY x
 bif eqB d.bz 2&&o.2 then⟨{d with bW:=zz395 d.bW o.1},[Y3 d (zz395 d.bW o.1)]⟩ else⟨d,[]⟩
def zz6(d:aC):aC:=bif eqB d.bz 2 then {d with bz:=3} else d
theorem zz146{d:aC}(h:zz349 d):tZ d=ς ⟨d,[]⟩:=by simp[tZ,zz13 h]
theorem On(d:aC):wH d=ς (yg d):=by simp[wH,BD,yg]
theorem WJ(d:aC):qV d=ς (yg d):=by simp[qV,zz141,yg]
theorem res_i{d:aC}(h:zz349 d){l:List aG}(hl:l.length<=1048576):cZ d l=ς ⟨d,l⟩:=by simp[cZ,zz185 h,zz293 hl]
theorem rV{d:aC}(h:zz349 d):cZ d []=ς ⟨d,[]⟩:=res_i h (by simp)
theorem zz82{d:aC}(h:zz349 d)(m:aG):cZ d [m]=ς ⟨d,[m]⟩:=res_i h (by simp)
theorem XP{d:aC}(h:zz349 d)(hw:d.eU<=3):rv d=ς (zz397 d):=by
 simp only[rv,zz13 h,acH,tY,nD,On,zz397]
 cases hb:ltB 0 d.eU
 .cases eqB d.bz 1<;>cases eqB d.bz 2<;>cases hp:d.cj<;>rfl
 have:=zz369 hb
 rw[bJ oaa];rfl
theorem tick_i{d:aC}(h:zz349 d)(hw:d.eU<=3):uE d=ς (zz397 d):=by
 have h2:∀w,zz349 {d with eU:=w}:=λ_=>h
 simp only[uE,rV h,rV (h2 _),zz82 (h2 _),mZ,WJ,acH,zz397]
 cases hb:ltB 0 d.eU
 .cases eqB d.bz 1<;>cases eqB d.bz 2<;>cases hp:d.cj<;>rfl
 have:=zz369 hb
 rw[bJ oaa];rfl
theorem on_s{d:aC}(h:zz349 d):wx d=ς (dOn d):=by
 simp only[wx,zz146 h,zz13 h,acH,tY,nD,dOn]
 cases eqB d.bz 0<;>rfl
theorem on_i{d:aC}(h:zz349 d):Ca d=ς (dOn d):=by
 simp only[Ca,rV h,zz82 (d:={d with bz:=1,eU:=3}) h,acH,mZ,dOn]
 cases eqB d.bz 0<;>rfl
theorem zz287{d:aC}(he:0<=d.aY/\d.aY<=999999):zD d=ς (yr {d with aY:=d.aY+1}):=by
 simp only[zD,On,acH,nD]
 rw[bJ oaa];rfl
theorem Uu{d:aC}(h:zz349 d):iz d=ς (yr d):=by
 simp only[iz,WJ,acH,zz82 (d:={d with cj:=η,eU:=3}) h];rfl
theorem zz284{d:aC}(h:zz349 d)(he:0<=d.aY/\d.aY<=999999)(c:Int):ro d c=ς (vW d c):=by
 simp only[ro,zz146 h,zz13 h,acH,zz355,zz287 (d:={d with bh:=c}) he,vW]
 grind
theorem move_i{d:aC}(h:zz349 d)(he:0<=d.aY/\d.aY<=999999)(c:Int):uA d c=ς (vW d c):=by
 simp only[uA,rV h,rV (d:={d with bh:=c}) h,Uu (d:={d with bh:=c,aY:=WR (d.aY+1)}) h,acH,zz360,vW,zz420]
 rw[bJ oaa]
 grind
theorem tok_s(k r last:Int):∃t,sV k r last=ς t:=by
 simp only[sV,zz355,acH,eu (show [5,r,last].length<=100000 by simp),An _ (show(1:Int)<=1000 by omega) oaa]
 cases inR last 0 999999<;>exact⟨_,rfl⟩
theorem tok_i(k r last:Int):∃t,sv k r last=ς t:=by
 simp only[sv,zz360,acH,et (show [5,r,last].length<=1048576 by simp)]
 cases inR last 0 999999<;>exact⟨_,rfl⟩
theorem ask_s{d:aC}(h:zz349 d)(hc:ui d.dO=ζ)(m:aG):Aq d m=ς (JF d m):=by
 obtain⟨t,ht⟩:=tok_s d.dO.fA m.b8.ez d.dO.c8
 simp only[Aq,mT,zz300,hc,zz237,unm_s,zz189,eu (show [3,m.b8.ez].length<=100000 by simp),ht,zz13 h,JF,au]
 cases h0:eqB (zz418 d.dO.fA d.dO.c8 m.b8) 0
 .grind
 simp[iX]
theorem ask_i{d:aC}(h:zz349 d)(hc:ui d.dO=ζ)(m:aG):mH d m=ς (JF d m):=by
 obtain⟨t,ht⟩:=tok_i d.dO.fA m.b8.ez d.dO.c8
 have hl: -9000000000000<=d.dO.c8/\d.dO.c8<=9000000000000:=by
  simp only[ui,hV,bU] at hc;omega
 simp only[mH,mQ,zz299,hc,aaD hl,unm_i,vec_i,et (show [3,m.b8.ez].length<=1048576 by simp),ht,JF,au]
 cases h0:eqB (zz418 d.dO.fA d.dO.c8 m.b8) 0
 .cases h2:eqB (zz418 d.dO.fA d.dO.c8 m.b8) 2<;>cases h3:eqB (zz418 d.dO.fA d.dO.c8 m.b8) 3<;>simp[h0,rV h]
 simp only[h0,au]
 rw[zz82 (d:={d with dO:={d.dO with c8:=unm d.dO.fA m.b8.ez m.b8.f7},ah:=m.ah,bg:=(vec d.dO.fA m.b8.ez (unm d.dO.fA m.b8.ez m.b8.f7)).fA}) h]
 rfl
theorem zz292{d:aC}(h:zz349 d)(hc:ui d.dO=ζ)(he:0<=d.aY/\d.aY<=999999)(m:aG):ki d m=ς (zz435 d m):=by
 simp only[ki,Qp,zz146 h,zz13 h,ask_s h hc,zz175,zz134,zz287 (d:={d with bz:=2}) he,On,nD,acH,zz435]
 cases zz391 m<;>cases eqB m.bh d.bh<;>cases eqB d.bz 0<;>try rfl
 simp only[acP,au]
 cases eqB m.bu 2<;>cases eqB d.bz 1<;>try rfl
 all_goals cases eqB m.bu 4<;>cases p6 d.bg<;>cases eqB m.ah d.ah<;>cases zz414 d.bg m<;>cases eqB m.bu 6<;>cases eqB d.bz 2<;>cases eqB m.aY d.aY<;>cases eqB m.bu 7<;>cases eqB d.bz 3<;>cases ltB d.aY 999999<;>rfl
theorem zz52{a c:Int}(h:eqB a b=ζ)(hn:b≠c):eqB a c=false:=by simp_all
theorem sig_i{d:aC}(h:zz349 d)(hc:ui d.dO=ζ)(he:0<=d.aY/\d.aY<=999999)(m:aG):oY d m=ς (zz435 d m):=by
 have a1:iz d=ς (yr d):=Uu h
 have a2:iz {d with bz:=2,aY:=WR (d.aY+1)}=ς (yr {d with bz:=2,aY:=d.aY+1}):=by rw[bJ oaa];exact Uu (d:={d with bz:=2,aY:=d.aY+1}) h
 have a3:cZ {d with bz:=2,aY:=m.aY,cj:=ζ} []=ς ⟨{d with bz:=2,aY:=m.aY,cj:=ζ},[]⟩:=rV (d:={d with bz:=2,aY:=m.aY,cj:=ζ}) h
 have a4:∀b,cZ {d with cj:=b} []=ς ⟨{d with cj:=b},[]⟩:=λb=>rV (d:={d with cj:=b}) h
 simp only[oY,Qo,ask_i h hc,zz151,zz190,a1,a2,a4,rV h,acH,zz435]
 cases zz391 m<;>cases eqB m.bh d.bh<;>cases eqB d.bz 0<;>try rfl
 simp only[acP,au]
 cases h2:eqB m.bu 2
 .cases h4:eqB m.bu 4
  .cases h6:eqB m.bu 6
   .cases h7:eqB m.bu 7
    .rfl
    cases eqB d.bz 3<;>cases ltB d.aY 999999<;>cases eqB d.bz 2<;>rfl
   rw[zz52 h6 (show(6:Int)≠7 by omega)]
   cases eqB d.bz 2<;>cases eqB m.ah d.ah<;>cases eqB m.aY d.aY<;>cases zz414 d.bg m<;>rfl
  rw[zz52 h4 (show(4:Int)≠6 by omega),zz52 h4 (show(4:Int)≠7 by omega)]
  cases eqB d.bz 1<;>cases p6 d.bg<;>cases eqB m.ah d.ah<;>cases zz414 d.bg m<;>first|(simp only[a3,rV h,ace,acL,acq,adm,au];done)|(simp[a3,rV h];done)
 rw[zz52 h2 (show(2:Int)≠4 by omega),zz52 h2 (show(2:Int)≠6 by omega),zz52 h2 (show(2:Int)≠7 by omega)]
 cases eqB d.bz 1<;>rfl
def zz225(x:aD):Prop:=okB x.bL.bk
theorem rad_s{d:aC}(h:zz349 d){x:aD}(hx:zz225 x):ny d x=ς (zz434 d x):=by
 simp only[ny,(IJ hx _ _ _).2,zz146 h,zz13 h,take_s h,BD,acH,zz434]
 cases eqB d.bz 2<;>cases(yl d.bg d.ah d.aY x).2<;>rfl
theorem M4(h:zz351 r)(x:ab):zz351 (zz395 r x):=by
 rw[zz395]
 cases hlt:zz437 r x
 .simp only[zz437,aaQ,acN] at hlt
  obtain⟨l1,l2,l3,l4,l5⟩:=hlt
  have hv:=lG l1
  have l2:=zz412 l2
  have hi:okL eQ (zz381 x r.aA):=by
   refine⟨by rw[zz468];omega,λy hy=>?_⟩
   simp only[zz381,aaH,abQ] at hy
   rcases hy with(hy|hy)|hy
   .exact h.1.2 y (ade _ hy)
   .subst hy;exact⟨by omega,λ_ _=>trivial⟩
   exact h.1.2 y (ac4 _ hy)
  have hd:∀(xs:List ab) (n:Int) (dl:List bI),okL eQ xs->(∀p∈dl,zz408 p)->dl.length<=24->zz351 (zz382 xs n dl):=by
   intro xs
   induction xs with
   |nil=>exact λn dl h1 h2 h3=>⟨h1,by show dl.length<=1048576;omega,h2⟩
   |cons y ys ih=>
    intro n dl h1 h2 h3
    rw[zz382];split
    .exact ih _ _ ⟨by have:=h1.1;grind,λz hz=>h1.2 z (by simp[hz])⟩ (λp hp=>by
      rcases aaH.1 hp with hp|hp
      .exact h2 p hp
      simp at hp;subst hp;exact h1.2 y (by simp)) (by simp;omega)
    exact⟨h1,by grind,h2⟩
  have:=hd _ r.bB r.bi hi h.2.2 oaa
  simp only[cond_false]
  cases leB 24 (((zz382 (zz381 x r.aA) r.bB r.bi).bi.length:Nat):Int)
  .exact this
  exact⟨⟨by simp,by simp⟩,this.2⟩
 exact h
theorem rad_i{d:aC}(h:zz349 d){x:aD}(hx:zz225 x):qz d x=ς (zz434 d x):=by
 simp only[qz,(IJ hx _ _ _).1,rV h,take_i h,zz141,acH,zz434]
 cases eqB d.bz 2
 .rfl
 cases(yl d.bg d.ah d.aY x).2
 .rfl
 simp only[ace,au]
 rw[zz82 (d:={d with bW:=zz395 d.bW (yl d.bg d.ah d.aY x).1}) (M4 h _)]
 rfl
theorem zz267{d:aC}(h:zz349 d):tO d=ς (zz6 d):=by
 simp only[tO,zz13 h,acH,zz6];cases eqB d.bz 2<;>rfl
theorem idle_i{d:aC}(h:zz349 d):xb d=ς (zz6 d):=by
 have a:∀v,mf {d with bz:=v}=ς {d with bz:=v}:=λv=>zz185 (d:={d with bz:=v}) h
 simp only[xb,a,acH,zz6];cases eqB d.bz 2<;>rfl
theorem zz210{α:Type}(p:α->Bool)(x:α)(d:List α)(hx:p x=ζ):∀(t:List α) (i:Nat),(∀y∈t,p y=η)->ni p (i:Int) (t++x::d)=((i+t.length:Nat):Int)
 |[],i,_=>by simp[ni,hx]
 |y::t,i,h=>by
  rw[zz328,ni,h y (by simp),cond_false]
  have:=zz210 p x d hx t (i+1) (λz hz=>h z (by simp[hz]))
  grind
theorem PS{α:Type}(p:α->Bool):∀(t:List α) (i:Int),(∀y∈t,p y=η)->ni p i t= -1
 |[],i,_=>rfl
 |y::t,i,h=>by rw[ni,h y (by simp),cond_false];exact PS p t _ λz hz=>h z (by simp[hz])
def zz130:List aH->Int->Int->List aH
 |[],i,n=>[⟨i,n⟩]
 |x::xs,i,n=>if x.aO<i then x::zz130 xs i n else if x.aO=i then⟨i,x.ea+n⟩::xs else⟨i,n⟩::x::xs
def RG:List aH->Int->Int->List aH
 |[],i,n=>[]
 |x::xs,i,n=>if x.aO=i then(if n<x.ea then⟨i,x.ea-n⟩::xs else xs) else x::RG xs i n
def uu(h:List aH):Int:=(h.map aH.ea).sum
structure kr(a:aj):Prop where
 t:0<=a.gm/\a.gm<=100000
 v:0<=a.bK/\a.bK<=a.gm
 s:0<=a.eR/\a.eR<=a.gm
 l:a.an.length<=8
 r:∀x∈a.an,0<=x.aO/\1<=x.ea/\x.ea<=100000
 o:a.an.Pairwise λx y=>x.aO<y.aO
 e:a.bK+a.eR+uu a.an=a.gm
theorem zz109{α:Type}{key:α->Int}:∀{xs:List α},(∀(k:Nat) (x y:α),xs[k]?=ς x->xs[k+1]?=ς y->key x<key y)->xs.Pairwise λx y=>key x<key y
 |[],_=>.nil
 |[x],_=>by simp
 |x::y::xs,h=>by
  have ih:=zz109 (xs:=y::xs) (key:=key) λk a b h1 h2=>h (k+1) a b (by simp_all) (by simp_all)
  have hxy:=h 0 x y rfl rfl
  refine List.Pairwise.cons (λz hz=>?_) ih
  rcases aaK.1 hz with e|hz
  .simp_all
  exact Int.lt_trans hxy (adb ih hz)
theorem zz117{key:α->Int}{xs:List α}(h:∀(k:Nat) (x:α),xs[k]?=ς x->ku key xs k x=ζ):xs.Pairwise λx y=>key x<key y:=by
 refine zz109 λk x y h1 h2=>?_
 have:=h (k+1) y h2
 simp only[ku,h1,aa8] at this
 simp_all
theorem EH{key:α->Int}{xs:List α}(h:xs.Pairwise λx y=>key x<key y){x:α}(hx:xs[k]?=ς x):ku key xs k x=true:=by
 cases k with
 |zero=>rfl
 |succ k=>
  have hl:=(zz334.1 hx).1
  simp only[ku,zz330 (show k<xs.length by omega),aa8]
  rw[leB_f]
  have:=List.pairwise_iff_getElem.1 h k (k+1) oaa hl oaa
  simp_all
theorem foldS:∀(h:List aH) (s:Int),(∀x∈h,0<=x.ea/\x.ea<=100000)->0<=s->s+100000*h.length<=9000000000000->h.foldl (λs x=>WR (s+x.ea)) s=s+uu h
 |[],s,_,_,_=>by simp[uu]
 |x::h,s,hx,h0,h1=>by
  have hh:=hx x (by simp)
  simp only[aaS] at h1
  rw[acZ,bJ oaa,foldS h _ (λy hy=>hx y (by simp[hy])) oaa oaa]
  simp[uu];omega
theorem Rf(l:a.an.length<=8)(r:∀x∈a.an,0<=x.aO/\1<=x.ea/\x.ea<=100000):zz254 a=uu a.an:=by
 rw[zz254,foldS _ _ (λx hx=>by grind) oaa oaa];omega
theorem zz398:∀{h:List aH},(∀x∈h,0<=x.aO/\1<=x.ea/\x.ea<=100000)->0<=uu h/\uu h<=100000*h.length/\∀x∈h,x.ea<=uu h
 |[],_=>by simp[uu]
 |x::h,r=>by
  have ih:=zz398 (h:=h) λy hy=>r y (by simp[hy])
  have hx:=r x (by simp)
  have e:uu (x::h)=x.ea+uu h:=by simp[uu]
  grind
theorem zz445:lu a=ζ↔kr a:=by
 constructor
 .intro h
  simp only[lu,hV,bU,eO] at h
  obtain⟨h1,h2,h3,h4,h5,h6⟩:=h
  have h4:=y3 h4
  have r:∀x∈a.an,0<=x.aO/\1<=x.ea/\x.ea<=100000:=λx hx=>by
   obtain⟨k,hk⟩:=aaP hx
   have:=h5 k x hk
   simp only[H4,hV,aa8,bU] at this
   simp_all
  have hs:=zz398 r
  refine⟨h1,h2,h3,by omega,r,zz117 λk x hk=>?_,?_⟩
  .have:=h5 k x hk
   simp only[H4,hV] at this
   simp_all
  have h6:=zz424 h6
  rw[Rf oaa r,bJ (n:=a.bK+a.eR) oaa,bJ oaa] at h6
  exact h6
 rintro⟨h1,h2,h3,h4,r,h5,h6⟩
 have hs:=zz398 r
 simp only[lu,hV,bU,eO]
 refine⟨h1,h2,h3,leB_t.2 oaa,λk x hk=>?_,eqB_t.2 ?_⟩
 .have hx:=r x (zz326 hk)
  simp only[H4,hV,aa8,bU]
  exact⟨ltB_f.2 oaa,by omega,EH h5 hk⟩
 rw[Rf oaa r,bJ (n:=a.bK+a.eR) oaa,bJ oaa]
 exact h6
theorem kr.ok(h:kr a):zz357 a:=⟨by have:=h.l;omega,λ_ _=>trivial⟩
theorem zz94{h:List aH}(o:h.Pairwise λx y=>x.aO<y.aO)(i:Int):
 (∃t m d,h=t++⟨i,m⟩::d/\(∀x∈t,x.aO<i)/\∀x∈d,i<x.aO)\/(∃t d,h=t++d/\(∀x∈t,x.aO<i)/\∀x∈d,i<x.aO):=by
 induction h with
 |nil=>exact .inr ⟨[],[],rfl,by simp,by simp⟩
 |cons x h ih=>
  have hx:=λy hy=>adb o (a':=y) hy
  by_cases h1:x.aO<i
  .grind
  by_cases h2:x.aO=i
  .exact .inl ⟨[],x.ea,h,by rw[<-h2];rfl,by simp,λy hy=>by simp_all⟩
  refine .inr ⟨[],x::h,rfl,by simp,λy hy=>?_⟩
  grind
theorem zz131{d:List aH}{m n:Int}(h:∀x∈t,x.aO<i):zz130 (t++⟨i,m⟩::d) i n=t++⟨i,m+n⟩::d:=by
 induction t with
 |nil=>simp[zz130]
 |cons x t ih=>rw[zz328,zz130,if_pos (h x (by simp)),ih λy hy=>h y (by simp[hy])];rfl
theorem zz132{d:List aH}{n:Int}(h:∀x∈t,x.aO<i)(h2:∀x∈d,i<x.aO):zz130 (t++d) i n=t++⟨i,n⟩::d:=by
 induction t with
 |nil=>cases d with
  |nil=>rfl
  |cons y d=>have:=h2 y (by simp);rw[abO,zz130,if_neg oaa,if_neg oaa];rfl
 |cons x t ih=>rw[zz328,zz130,if_pos (h x (by simp)),ih λy hy=>h y (by simp[hy])];rfl
theorem Ev{d:List aH}{m n:Int}(h:∀x∈t,x.aO<i):RG (t++⟨i,m⟩::d) i n=t++(if n<m then⟨i,m-n⟩::d else d):=by
 induction t with
 |nil=>simp[RG]
 |cons x t ih=>rw[zz328,RG,if_neg (by grind),ih λy hy=>h y (by simp[hy])];rfl
theorem lD{d:List aH}{m:Int}(e:a.an=t++⟨i,m⟩::d)(h:∀x∈t,x.aO<i):zz361 a i=m:=by
 rw[zz361,e,List.find?_append,show t.find? (λx=>eqB x.aO i)=ξ from by rw[List.find?_eq_none];intro x hx;have:=h x hx;simp[eqB];omega]
 simp[eqB]
theorem zz392(h:∀x∈a.an,x.aO≠i):zz361 a i=0:=by
 rw[zz361,show a.an.find? (λx=>eqB x.aO i)=ξ from by simp_all]
theorem XT{d:List aH}(h:∀x∈t,x.aO<i)(h2:∀x∈d,i<=x.aO):((t++d).takeWhile λx=>ltB x.aO i)=t:=by
 rw[List.takeWhile_append_of_pos (λx hx=>ltB_t.2 (h x hx))]
 cases d with
 |nil=>simp
 |cons y d=>simp_all
theorem zz7{L:Int->Option (ci Int Int)}(ok:kr a)(hL:∀v1,L v1=bif ltB v1 (a.an.length:Int) then(acE (ix a.an v1) λx2=>bif eqB x2.aO i then(dn (ς v1)) else(ς (.next (WR (v1+1))))) else(dn (ς (-1)))):
 iter L FU 0=ς (ni (λx=>eqB x.aO i) 0 a.an):=by
 have:=ok.l
 exact zz441 (L:=L) a.an (λx=>eqB x.aO i) oaa (λk x hx hk=>by
  simp only[hL,ct hk,bm,hx,WRs (k:=k),au]
  rfl) (by simp[hL,dn])
theorem zz197(ok:kr a){n:Int}(h0:0<=n/\n<=100000):EL a.an i n=ς (zz130 a.an i n):=by
 have hl:=ok.l
 have hrun:=uk (L:=xJ a.an i) a.an (λx=>ltB x.aO i) oaa (λk x hx=>by
  have hk:=(zz334.1 hx).1
  simp[xJ,ct hk,hx]) (by simp[xJ])
 rw[EL,hrun]
 rcases zz94 ok.o i with⟨t,m,d,e,h1,h2⟩|⟨t,d,e,h1,h2⟩
 .have hm:m<=100000/\1<=m:=by have:=ok.r ⟨i,m⟩ (by rw[e];simp);simp only at this;omega
  have htl:t.length+1<=8:=by have:=congrArg acW e;simp at this;omega
  rw[e,XT h1 (λx hx=>by grind),zz131 h1]
  have hx:(t++(⟨i,m⟩:aH)::d)[t.length]?=ς ⟨i,m⟩:=by simp
  have a1:cW 16 (t++(⟨i,m⟩:aH)::d).length=true:=zz343 oaa (by grind)
  simp only[ct (show t.length<(t++(⟨i,m⟩:aH)::d).length by simp),bm,hx,abO,a1,bv,acI,bJ (n:=m+n) oaa,au]
  simp
 have htl:t.length<=8/\d.length<=8:=by have:=congrArg acW e;simp at this;omega
 rw[e,XT h1 (λx hx=>by grind),zz132 h1 h2]
 have hc:(bif ltB (t.length:Int) (((t++d).length:Nat):Int) then(acE (ix (t++d) (t.length:Int)) λx8=>ς (eqB x8.aO i)) else ς η)=ς false:=by
  cases d with
  |nil=>simp
  |cons y d=>
   have:=h2 y (by simp)
   rw[ct (show t.length<(t++y::d).length by simp),bm,show(t++y::d)[t.length]?=ς y by simp,acH,eqB_f.2 (show y.aO≠i by omega)];rfl
 have a1:em (t++d) 0 (t.length:Int)=true:=by simp[em];omega
 have a2:em (t++d) (t.length:Int) (((t++d).length:Nat):Int)=true:=by simp[em];omega
 have a3:cW 16 t.length=true:=zz343 oaa oaa
 have a4:cW 16 (t++[(⟨i,n⟩:aH)]).length=true:=zz343 oaa (by simp;omega)
 have a5:cW 16 (t++[(⟨i,n⟩:aH)]++d).length=true:=zz343 oaa (by simp;omega)
 simp_all
theorem zz53{d:List aH}{m:Int}(h1:∀x∈t,x.aO<i):ni (λx=>eqB x.aO i) 0 (t++(⟨i,m⟩:aH)::d)=(t.length:Int):=by
 have:=zz210 (λx:aH=>eqB x.aO i) ⟨i,m⟩ d (by simp) t 0 (λy hy=>eqB_f.2 (by grind))
 simp_all
theorem zz127{d:List aH}(h1:∀x∈t,x.aO<i)(h2:∀x∈d,i<x.aO):ni (λx=>eqB x.aO i) 0 (t++d)= -1:=
 PS _ _ _ λy hy=>eqB_f.2 (by grind)
theorem zz80(ok:kr a){d:List aH}{m n:Int}(e:a.an=t++⟨i,m⟩::d)(h1:∀x∈t,x.aO<i)(hn:0<=n/\n<=m):CK a.an (t.length:Int) n=ς (RG a.an i n):=by
 have hl:=ok.l
 have hm:m<=100000/\1<=m:=by have:=ok.r ⟨i,m⟩ (by rw[e];simp);simp only at this;omega
 have htl:t.length+1+d.length<=8:=by have:=congrArg acW e;simp at this;omega
 rw[e,Ev h1]
 have hx:(t++(⟨i,m⟩:aH)::d)[t.length]?=ς ⟨i,m⟩:=by simp
 have a1:cW 16 (t++(⟨i,m⟩:aH)::d).length=true:=zz343 oaa (by grind)
 simp only[CK,abO,a1,bm,hx,acI,au]
 by_cases hb:n<m
 .rw[ltB_t.2 hb,if_pos hb]
  simp only[cond_true,bJ (n:=m-n) oaa]
  simp
 rw[ltB_f.2 oaa,if_neg hb]
 have a2:em (t++(⟨i,m⟩:aH)::d) 0 (t.length:Int)=true:=by simp[em];omega
 have a3:em (t++(⟨i,m⟩:aH)::d) ((t.length+1:Nat):Int) (((t++(⟨i,m⟩:aH)::d).length:Nat):Int)=true:=by simp[em];omega
 have e2:(t++(⟨i,m⟩:aH)::d).drop (t.length+1)=d:=by rw[<-zz335,ac6];rfl
 have a4:cW 16 (t++d).length=true:=zz343 oaa (by simp;omega)
 simp only[a2,WRs (k:=t.length),a3,acI,e2,ac9,a4,au]
theorem zz268{d:List aH}{x:aH}(e:a.an=t++x::d)(hl:t.length+1+d.length<=8):mI a (t.length:Int)=ς {a with an:=t++d}:=by
 have a2:em (t++x::d) 0 (t.length:Int)=true:=by simp[em];omega
 have a3:em (t++x::d) ((t.length+1:Nat):Int) (((t++x::d).length:Nat):Int)=true:=by simp[em];omega
 have e2:(t++x::d).drop (t.length+1)=d:=by rw[<-zz335,ac6];rfl
 have a4:cW 16 (t++d).length=true:=zz343 oaa (by simp;omega)
 have a5:cW 16 t.length=true:=zz343 oaa oaa
 simp only[mI,e,a2,WRs (k:=t.length),a3,cond_true,acI,e2,ac9,abO,a4,a5]
def full(a:aj)(i:Int):Bool:=leB 8 (a.an.length:Int)&&!a.an.any λx=>eqB x.aO i
def lV(x y:Int):Int:=if y<x then y else x
def zz372(a:aj)(i n:Int):aj×Int:=
 bif ltB i 0||(!inR n 1 100000||(eqB a.bK 0||full a i)) then(a,0) else({a with bK:=a.bK-lV n a.bK,an:=zz130 a.an i (lV n a.bK)},lV n a.bK)
def zz465(a:aj)(i n:Int):aj:=bif ltB 0 n then {a with eR:=a.eR+n,an:=RG a.an i n} else a
theorem zz178(x y:Int):GM x y=ς (lV x y):=by
 rw[GM,lV];by_cases h:y<x
 .rw[ltB_t.2 h,if_pos h];rfl
 rw[ltB_f.2 oaa,if_neg h];rfl
theorem V7(x y:Int):RX x y=ς (lV x y):=zz178 x y
def zz98(x y:Int):Int:=if x<y then y else x
theorem zz177(x y:Int):GL x y=ς (zz98 x y):=by
 rw[GL,zz98];by_cases h:x<y
 .rw[ltB_t.2 h,if_pos h];rfl
 rw[ltB_f.2 oaa,if_neg h];rfl
theorem max_i(x y:Int):Zo x y=ς (zz98 x y):=zz177 x y
theorem any_A{d:List aH}{m:Int}:((t++(⟨i,m⟩:aH)::d).any λx=>eqB x.aO i)=true:=by simp
theorem Uv{d:List aH}(h1:∀x∈t,x.aO<i)(h2:∀x∈d,i<x.aO):((t++d).any λx=>eqB x.aO i)=false:=by
 rw[List.any_eq_false];intro y hy
 rcases aaH.1 hy with hy|hy
 .have:=h1 y hy;simp[eqB];omega
 have:=h2 y hy;simp[eqB];omega
theorem zz112(ok:kr a)(i n:Int):zh a i n=ς (zz372 a i n):=by
 have hv:=zz445.2 ok
 have hd:=ok.v
 have ht:=ok.t
 have hfind:my a i=ς (ni (λx=>eqB x.aO i) 0 a.an):=zz7 ok λv=>rfl
 have hf:(bif leB 8 (a.an.length:Int) then(acE (my a i) λr5=>ς (ltB r5 0)) else ς η)=ς (full a i):=by
  rw[hfind,full]
  cases leB 8 (a.an.length:Int)
  .rfl
  rcases zz94 ok.o i with⟨t,m,d,e,h1,h2⟩|⟨t,d,e,h1,h2⟩
  .rw[e,zz53 h1,any_A];simp[ltB]
  rw[e,zz127 h1 h2,Uv h1 h2];simp[ltB]
 simp only[zh,zz19 ok.ok,zz415 ok.ok,hv,hf,zz355,zz178,zz372,au]
 cases h1:ltB i 0<;>cases h2:inR n 1 100000<;>cases h3:eqB a.bK 0<;>cases h4:full a i<;>try rfl
 rw[bU] at h2
 have h3:=zz186 h3
 have hmin:1<=lV n a.bK/\lV n a.bK<=100000/\lV n a.bK<=a.bK:=by unfold lV;split<;>omega
 simp only[zz197 ok (show 0<=lV n a.bK/\lV n a.bK<=100000 by omega),bJ (n:=a.bK-lV n a.bK) oaa,acP,au]
theorem zz246(ok:kr a)(i n:Int):Cb a i n=ς (zz372 a i n):=by
 have hv:=zz445.2 ok
 have hd:=ok.v
 have ht:=ok.t
 have hl:=ok.l
 have hfind:gh a i=ς (ni (λx=>eqB x.aO i) 0 a.an):=zz7 ok λv=>rfl
 simp only[Cb,Db ok.ok,zX ok.ok,hv,hfind,zz360,V7,zz372,au]
 cases h1:ltB i 0<;>cases h2:inR n 1 100000<;>cases h3:eqB a.bK 0<;>try rfl
 rw[bU] at h2
 have h3:=zz186 h3
 have hmin:1<=lV n a.bK/\lV n a.bK<=100000/\lV n a.bK<=a.bK:=by unfold lV;split<;>omega
 simp only[bJ (n:=a.bK-lV n a.bK) oaa,abx,au]
 rcases zz94 ok.o i with⟨t,m,d,e,k1,k2⟩|⟨t,d,e,k1,k2⟩
 .have hm:m<=100000/\1<=m:=by have:=ok.r ⟨i,m⟩ (by rw[e];simp);simp only at this;omega
  rw[full,e,zz53 k1,any_A,zz131 k1,show leB 0 (t.length:Int)=ζ from leB_t.2 oaa]
  have hx:(t++(⟨i,m⟩:aH)::d)[t.length]?=ς ⟨i,m⟩:=by simp
  simp only[bm,hx,acI,bJ (n:=m+lV n a.bK) oaa,acq,au]
  simp
 have htl:t.length+d.length<=8:=by have:=congrArg acW e;simp at this;omega
 rw[full,e,zz127 k1 k2,Uv k1 k2,zz132 k1 k2,show leB 0 (-1)=η from by simp[leB]]
 cases h4:leB 8 (((t++d).length:Nat):Int)
 .have hlt:(t++d).length<8:=by have:=zz472 h4;omega
  have hrun:=uk (L:=uB i a) a.an (λx=>ltB x.aO i) oaa (λk x hx=>by
   have hk:=(zz334.1 hx).1
   simp[uB,ct hk,hx]) (by simp[uB])
  rw[e,XT k1 (λx hx=>by grind)] at hrun
  have hs:=PY t d dV (⟨i,lV n a.bK⟩:aH)
  have b1:cW 16 (t++d++[dV]).length=true:=zz343 oaa (by grind)
  have b2:em (t++d++[dV]) ((t.length+1:Nat):Int) (((t++d++[dV]).length:Nat):Int)=true:=by simp[em];omega
  have b3:em (t++d++[dV]) (t.length:Int) (((t++d++[dV]).length:Nat):Int)=true:=by simp[em];omega
  obtain⟨y,_,hy⟩:=zz271 (xs:=cpD (t++d++[dV]) (t.length+1) ((t++d++[dV]).drop t.length)) (i:=(t.length:Int)) oaa (by simp;omega)
  simp only[hrun,WRs (k:=t.length),acI,b1,b2,b3,hy,hs,adm,au]
  simp
 rfl
theorem Ak(ok:kr a)(i:Int):0<=zz361 a i/\zz361 a i<=100000:=by
 rcases zz94 ok.o i with⟨t,m,d,e,h1,h2⟩|⟨t,d,e,h1,h2⟩
 .rw[lD e h1];have:=ok.r ⟨i,m⟩ (by rw[e];simp);grind
 rw[zz392 (λx hx=>by grind)];omega
theorem zz214(ok:kr a){n:Int}(hn:0<=n/\n<=zz361 a i):GI a i n=ς (zz465 a i n,ζ):=by
 have hv:=zz445.2 ok
 have ht:=ok.t
 have hs:=ok.s
 have hr:=Ak ok i
 have hfind:my a i=ς (ni (λx=>eqB x.aO i) 0 a.an):=zz7 ok λv=>rfl
 have hin:inR n 0 (zz361 a i)=true:=bU.2 hn
 simp only[GI,zz19 ok.ok,zz415 ok.ok,hv,hfind,MB ok.ok,zz355,hin,zz465,au]
 cases h0:ltB 0 n
 .rfl
 have h0:=zz369 h0
 rcases zz94 ok.o i with⟨t,m,d,e,h1,h2⟩|⟨t,d,e,h1,h2⟩
 .rw[lD e h1] at hn hr
  have hc:=zz80 ok e h1 hn
  rw[show ni (λx=>eqB x.aO i) 0 a.an=(t.length:Int) by rw[e];exact zz53 h1]
  simp only[hc,bJ (n:=a.eR+n) oaa,au]
 rw[zz392 (λx hx=>by grind)] at hn
 omega
theorem zz307(ok:kr a){n:Int}(hn:0<=n/\n<=zz361 a i):JN a i n=ς (zz465 a i n,ζ):=by
 have hv:=zz445.2 ok
 have ht:=ok.t
 have hs:=ok.s
 have hl:=ok.l
 have hr:=Ak ok i
 have hfind:gh a i=ς (ni (λx=>eqB x.aO i) 0 a.an):=zz7 ok λv=>rfl
 have hin:inR n 0 (zz361 a i)=true:=bU.2 hn
 simp only[JN,Db ok.ok,zX ok.ok,hv,hfind,MA ok.ok,zz360,hin,zz465,au]
 rcases zz94 ok.o i with⟨t,m,d,e,h1,h2⟩|⟨t,d,e,h1,h2⟩
 .rw[lD e h1] at hn
  have hm:m<=100000/\1<=m:=by have:=ok.r ⟨i,m⟩ (by rw[e];simp);simp only at this;omega
  have htl:t.length+1+d.length<=8:=by have:=congrArg acW e;simp at this;omega
  have hx:(t++(⟨i,m⟩:aH)::d)[t.length]?=ς ⟨i,m⟩:=by simp
  have hset:∀z:aH,(t++(⟨i,m⟩:aH)::d).set t.length z=t++z::d:=λz=>by simp
  have hx2:∀z:aH,(t++z::d)[t.length]?=ς z:=λz=>by simp
  rw[e,zz53 h1,show ltB (t.length:Int) 0=η from ltB_f.2 oaa,Ev h1]
  simp only[bm,hx,hset,hx2,acI,bJ (n:=m-n) oaa,bJ (n:=a.eR+n) oaa,au]
  cases h0:ltB 0 n
  .have h0:=zz412 h0
   have hn0:n=0:=by omega
   subst hn0
   rw[show m-0=m by omega,eqB_f.2 (show m≠0 by omega),show a.eR+0=a.eR by omega]
   simp only[<-e,au]
  have h0:=zz369 h0
  by_cases hb:n<m
  .rw[if_pos hb,eqB_f.2 (show m-n≠0 by omega)];rfl
  rw[if_neg hb,eqB_t.2 (show m-n=0 by omega)]
  simp only[zz268 (a:={a with eR:=a.eR+n,an:=t++(⟨i,m-n⟩:aH)::d}) rfl htl,au]
 have h0:n=0:=by
  rw[zz392 (λx hx=>by grind)] at hn
  omega
 subst h0
 rw[e,zz127 h1 h2]
 simp[ltB]
structure WOK(w:aV):Prop where
 n:1<=w.bB/\w.bB<=100000
 l:w.aF.length<=8
 f:1<=w.bB-w.aF.length
 u:∀(k:Nat) (x:ab),w.aF[k]?=ς x->x.cX=w.bB-w.aF.length+k/\x.bk.length<=60
theorem WOK.ok(h:WOK w):zz353 w:=⟨by have:=h.l;omega,λx hx=>by
 obtain⟨k,hk⟩:=aaP hx
 exact⟨by have:=(h.u k x hk).2;omega,λ_ _=>trivial⟩⟩
theorem zz427{n:Nat}:zz471 n=ζ↔n<=60:=by simp[zz471,ltB];omega
theorem C8:jw w=ζ↔WOK w:=by
 constructor
 .intro h
  simp only[jw,hV,bU,eO,unB,zz427] at h
  obtain⟨h1,h2,h3,h4⟩:=h
  have h2:=y3 h2
  have h3:=y3 h3
  rw[bJ oaa] at h3
  refine⟨h1,by omega,h3,λk x hx=>?_⟩
  have hk:=(zz334.1 hx).1
  have:=h4 k x hx
  have e:=zz424 this.1
  rw[bJ (n:=w.bB-(w.aF.length:Int)) oaa,bJ oaa] at e
  omega
 rintro⟨h1,h2,h3,h4⟩
 simp only[jw,hV,bU,eO,unB,zz427]
 refine⟨h1,leB_t.2 oaa,leB_t.2 (by rw[bJ oaa];omega),λk x hx=>?_⟩
 have hk:=(zz334.1 hx).1
 have:=h4 k x hx
 exact⟨eqB_t.2 (by rw[bJ (n:=w.bB-(w.aF.length:Int)) oaa,bJ oaa];exact this.1),this.2⟩
def zz367(xs:List ab):Int:=(xs.map λx=>(x.bk.length:Int)).sum
theorem xY:∀{xs:List ab},(∀x∈xs,x.bk.length<=60)->0<=zz367 xs/\zz367 xs<=60*xs.length
 |[],_=>by simp[zz367]
 |x::xs,h=>by
  have ih:=xY (xs:=xs) λy hy=>h y (by simp[hy])
  have:=h x (by simp)
  have e:zz367 (x::xs)=x.bk.length+zz367 xs:=by simp[zz367]
  grind
theorem IG{xs:List ab}(h:∀x∈xs,x.bk.length<=60)(hl:xs.length<=1000):xz xs=zz367 xs:=by
 have key:∀(xs:List ab) (s:Int),(∀x∈xs,x.bk.length<=60)->0<=s->s+60*xs.length<=9000000000->xs.foldl (λa x=>WR (a+(x.bk.length:Int))) s=s+zz367 xs:=by
  intro xs
  induction xs with
  |nil=>intro s _ _ _;simp[zz367]
  |cons x xs ih=>
   intro s h h0 h1
   have hx:=h x (by simp)
   simp only[aaS] at h1
   rw[acZ,bJ oaa,ih _ (λy hy=>h y (by simp[hy])) oaa oaa]
   simp[zz367];omega
 have:=key xs 0 h oaa oaa
 rw[xz,this];omega
theorem WOK.d(h:WOK w):∀x∈w.aF,x.bk.length<=60:=λx hx=>by
 obtain⟨k,hk⟩:=aaP hx;exact(h.u k x hk).2
structure QOK(q:cY):Prop where
 i:0<=q.aO
 u:0<=q.eH
 g:q.eH<=q.cP
 m:q.cP<=100000
theorem zz90:kS q=ζ↔QOK q:=by
 simp only[kS,hV,leB_t]
 exact⟨λ⟨a,b,c,d⟩=>⟨a,b,c,d⟩,λ⟨a,b,c,d⟩=>⟨a,b,c,d⟩⟩
theorem EJ(h:QOK q):zz148 q=q.cP-q.eH:=by
 rw[zz148,zz90.2 h];obtain⟨a,b,c,d⟩:=h
 simp only[cond_true];rw[bJ oaa]
structure SP(s:ag):Prop where
 ok:dS s
 rcd:zz429 s.bT=ζ
 plan:zz400 s.gB=ζ
 page:jO s.f6=ζ
 win:WOK s.aK
 q:QOK s.bX
 st:0<=s.bz/\s.bz<=1
 k1:s.bz=1->p6 s.bg=ζ
 k2:0<s.bG->p6 s.aA.fA=ζ
 ps:0<=s.bG/\s.bG<=999999
 gn:0<=s.ah/\s.ah<=999999
 ep:0<=s.aY/\s.aY<=999999
 rk:0<=s.bg/\s.bg<=2147483646
 ce:0<=s.bh/\s.bh<=5
 qu:0<=s.dQ/\s.dQ<=5
 rt:0<=s.dL/\s.dL<=3
 sl:s.aS.length<=24
 sd:∀p∈s.aS,p.bk.length<=60
 nx:s.aK.bB<=s.aS.length+1
 un:∀x∈s.aK.aF,DI s x=ζ
 pd:zz367 s.aK.aF<=s.bX.cP-s.bX.eH
theorem zz419(ok:dS s):zz373 s=ζ↔SP s:=by
 constructor
 .intro h
  simp only[zz373,hV,bU,C8,zz90,aaM,AO,zz427,zz417,D0] at h
  obtain⟨h1,h2,h3,h4,h5,h6,⟨h7,h8⟩,h9,h10,h11,h12,h13,h14,h15,h16,h17,h18,h19,h20⟩:=h
  have h16:=y3 h16
  have h18:=y3 h18
  have h20:=y3 h20
  rw[bJ oaa] at h18
  rw[EJ h5,IG h4.d (by have:=h4.l;omega)] at h20
  refine⟨ok,h1,h2,h3,h4,h5,h6,λe=>?_,λe=>?_,h9,h10,h11,h12,h13,h14,h15,by omega,h17,h18,h19,h20⟩
  .simp_all
  rw[ltB_t.2 e] at h8;simp_all
 rintro⟨_,h1,h2,h3,h4,h5,h6,h7,h8,h9,h10,h11,h12,h13,h14,h15,h16,h17,h18,h19,h20⟩
 simp only[zz373,hV,bU,C8,zz90,aaM,AO,zz427,zz417,D0]
 refine⟨h1,h2,h3,h4,h5,h6,⟨?_,?_⟩,h9,h10,h11,h12,h13,h14,h15,leB_t.2 oaa,h17,leB_t.2 (by rw[bJ oaa];omega),h19,leB_t.2 (by rw[EJ h5,IG h4.d (by have:=h4.l;omega)];omega)⟩
 .cases e:eqB s.bz 1
  .rfl
  simp_all
 cases e:ltB 0 s.bG
 .rfl
 simp_all
def yy(s:ag)(b:List Int):ag×Bool:=bif leB 24 (s.aS.length:Int)||ltB 60 (b.length:Int) then(s,η) else({s with aS:=s.aS++[⟨b⟩]},ζ)
theorem zz295(h:dS s){b:List Int}:lE s b=ς (yy s b):=by
 simp only[lE,zz413 h,acH,yy,G4,abO]
 cases h1:leB 24 (s.aS.length:Int)<;>cases h2:ltB 60 (b.length:Int)<;>try rfl
 have h1:=zz472 h1
 have h2:=zz412 h2
 simp only[acP,zz343 (by_:=1) (n:=b.length) oaa oaa,zz343 (by_:=24) (n:=(s.aS++[(⟨b⟩:bI)]).length) oaa (by simp;omega),au]
theorem sub_i(h:dS s){b:List Int}:qB s b=ς (yy s b):=by
 simp only[qB,zz455 h,acH,yy]
 cases h1:leB 24 (s.aS.length:Int)<;>cases h2:ltB 60 (b.length:Int)<;>try rfl
 have h1:=zz472 h1
 have h2:=zz412 h2
 simp only[acP,zz442 (show b.length<=1048576 by omega),zz343 (by_:=24) (n:=(s.aS++[(⟨b⟩:bI)]).length) oaa (by simp;omega),au]
def zz83(s:ag)(m:aG):bN:=
 let q:=s.bT.cX+1
 let v:=vec s.bT.fA (zz93 s.bT.ID q) q
 bif eqB s.bT.cX 999999 then⟨s,[]⟩ else⟨{s with bT:={s.bT with cX:=q},aA:=v,bG:=q},[⟨2,m.bh,q,0,0,v,0⟩]⟩
def Ao(s:ag)(k:Int):aG:=zz439 s.bg ⟨k,s.bh,s.ah,s.aY,0,cH,0⟩
def zz477(s:ag)(c:Int):ag:=⟨s.bT,s.gB,1,cH,0,s.bG,s.aA.fA,s.aY+1,c,0,ev,s.aS,s.aK,s.dL,s.bX⟩
def zo(s:ag)(m:aG):bN:=
 bif leB s.bG 0||(!eqB m.ah s.bG||(!eqB m.bZ s.aA.vP||leB 999999 s.aY)) then⟨s,[]⟩ else⟨zz477 s m.bh,[Ao (zz477 s m.bh) 4]⟩
def wj(s:ag)(m:aG):Bool:=eqB s.bz 1&&(eqB m.ah s.ah&&zz414 s.bg m)
def xF(s:ag)(m:aG):ag:={s with aY:=m.aY,bh:=m.bh,dQ:=0,f6:=ev,dL:=0}
def CF(s:ag)(m:aG):bN:=
 bif !wj s m||(ltB m.aY s.aY||(eqB m.aY s.aY&&!eqB m.bh s.bh)) then⟨s,[]⟩ else⟨xF s m,[Ao (xF s m) 6]⟩
def zz388(w:aV)(k:Int):aV:=bif ltB w.bB k then w else⟨w.bB,w.aF.filter λx=>leB k x.cX⟩
def uw(q:cY)(n:Int):cY:=bif inR n 0 (q.cP-q.eH) then {q with eH:=q.eH+n} else q
def zz403(s:ag)(k:Int):ag:={s with dQ:=0,aK:=zz388 s.aK k,bX:=uw s.bX (zz367 s.aK.aF-zz367 (zz388 s.aK k).aF)}
def zz137(s:ag)(m:aG):bN:=bif !wj s m||ltB s.aK.bB m.bZ then⟨s,[]⟩ else⟨zz403 s m.bZ,[]⟩
def sUp(s:ag)(m:aG):bN:=
 bif !zz391 m then⟨s,[]⟩ else bif eqB m.bu 1 then zz83 s m else bif eqB m.bu 3 then zo s m else bif eqB m.bu 5 then CF s m else bif eqB m.bu 8 then zz137 s m else⟨s,[]⟩
def zz394(s:ag):ag:={s with aA:=cH,bG:=0,dQ:=0,f6:=ev,dL:=0}
theorem Cp(h:dS s):pQ s=ς ⟨s,[]⟩:=by simp[pQ,zz413 h]
theorem zz276(h:dS s){l:List aG}(hl:l.length<=1048576):dR s l=ς ⟨s,l⟩:=by simp[dR,zz455 h,zz293 hl]
theorem Al(h:dS s):dR s []=ς ⟨s,[]⟩:=zz276 h (by simp)
theorem zz149(h:dS s)(m:aG):dR s [m]=ς ⟨s,[m]⟩:=zz276 h (by simp)
theorem fail_s(h:dS s):Aj s=ς (zz394 s):=by simp[Aj,zz413 h,zz394]
theorem fail_i(h:dS s):Aa s=ς (zz394 s):=by simp[Aa,zz455 h,zz394]
theorem Kt{r:aU}(h:zz429 r=ζ):0<=r.cX/\r.cX<=999999:=by
 simp only[zz429,hV,bU] at h;omega
theorem att_s(h:SP s)(m:aG):mu s m=ς (zz83 s m):=by
 have hr:=Kt h.rcd
 simp only[mu,NF,rS,zz283,h.rcd,zz189,Cp h.ok,zz413 h.ok,bJ (n:=s.bT.cX+1) oaa,zz83,au]
 cases he:eqB s.bT.cX 999999
 .simp only[bv,eqB_f.2 (show s.bT.cX+1≠s.bT.cX by omega),acL,ace,au]
 simp_all
theorem att_i(h:SP s)(m:aG):oW s m=ς (zz83 s m):=by
 have hr:=Kt h.rcd
 simp only[oW,chal_i,rF,rec_i,h.rcd,vec_i,Al h.ok,bJ (n:=s.bT.cX+1) oaa,zz83,au]
 cases he:eqB s.bT.cX 999999
 .simp only[bv,eqB_f.2 (show s.bT.cX+1≠s.bT.cX by omega),acL,ace,au]
  rw[zz149 (s:={s with bT:={s.bT with cX:=s.bT.cX+1},aA:=vec s.bT.fA (zz93 s.bT.ID (s.bT.cX+1)) (s.bT.cX+1),bG:=s.bT.cX+1}) h.ok]
  rfl
 simp_all
theorem zz277(h:SP s)(m:aG):kh s m=ς (zo s m):=by
 have he:=h.ep
 simp only[kh,qp,Cp h.ok,zz413 h.ok,t0,BD,acH,bJ (n:=s.aY+1) oaa,zo]
 cases leB s.bG 0<;>cases eqB m.ah s.bG<;>cases eqB m.bZ s.aA.vP<;>cases leB 999999 s.aY<;>rfl
theorem resp_i(h:SP s)(m:aG):mG s m=ς (zo s m):=by
 have he:=h.ep
 have hh:dS (zz477 s m.bh):=h.ok
 have a:∀x,dR ⟨s.bT,s.gB,1,cH,0,s.bG,s.aA.fA,s.aY+1,m.bh,0,ev,s.aS,s.aK,s.dL,s.bX⟩ [x]=ς ⟨zz477 s m.bh,[x]⟩:=λx=>zz149 hh x
 simp only[mG,p9,Al h.ok,nj,zz141,acH,bJ (n:=s.aY+1) oaa,a,zo]
 cases leB s.bG 0<;>cases eqB m.ah s.bG<;>cases eqB m.bZ s.aA.vP<;>cases leB 999999 s.aY<;>rfl
theorem zz205(s:ag)(m:aG):wK s m=ς (wj s m):=by
 simp only[wK,zz134,acH,wj];grind
theorem ZV(h:SP s)(m:aG):kQ s m=ς (CF s m):=by
 simp only[kQ,zz205,Cp h.ok,zz413 h.ok,t0,BD,acH,CF]
 cases wj s m<;>cases ltB m.aY s.aY<;>cases eqB m.aY s.aY<;>cases eqB m.bh s.bh<;>rfl
theorem ZU(h:SP s)(m:aG):kF s m=ς (CF s m):=by
 have hh:dS (xF s m):=h.ok
 have a:∀x,dR {s with aY:=m.aY,bh:=m.bh,dQ:=0,f6:=ev,dL:=0} [x]=ς ⟨xF s m,[x]⟩:=λx=>zz149 hh x
 simp only[kF,zz190,Al h.ok,nj,zz141,acH,a,CF,wj]
 cases eqB s.bz 1<;>cases eqB m.ah s.ah<;>cases zz414 s.bg m<;>cases ltB m.aY s.aY<;>cases eqB m.aY s.aY<;>cases eqB m.bh s.bh<;>rfl
theorem Uq(h:WOK w)(k:Int):jn w k=ς (zz388 w k):=by
 have hl:=h.l
 simp only[jn,zz480 h.ok,acH,zz388]
 cases ltB w.bB k
 .have:=eG (step:=jo w k) w.aF (λi s=>((i:Int),s)) (zz425 32 (λx=>leB k x.cX) (λx=>x)) ς oaa
   (λi x s hx hi=>by
    have hd:=h.d x (zz326 hx)
    simp only[jo,ct hi,bm,hx,abO,zz343 (by_:=1) (n:=x.bk.length) oaa oaa,WRs (k:=i),zz425,au]
    cases leB k x.cX<;>simp
    cases cW 32 (s.length+1)<;>rfl) (λs=>by simp[jo]) ([]:List ab)
  rw[zz433 oaa _ _ _ _ (by simp;omega)] at this
  simp_all
 rfl
theorem zz216(h:WOK w)(p:ab->Bool):okL eQ (w.aF.filter p):=
 ⟨by have:=adf p w.aF;have:=h.l;omega,λx hx=>h.ok.2 x (acX.1 hx).1⟩
theorem ackB_i(h:WOK w)(k:Int):lJ w k=ς (zz388 w k):=by
 have hl:=h.l
 simp only[lJ,zz44 h.ok,acH,zz388]
 cases ltB w.bB k
 .have:=eG (step:=gM w k) w.aF (λi s=>((i:Int),s)) (zz425 32 (λx=>leB k x.cX) (λx=>x)) ς oaa
   (λi x s hx hi=>by
    simp only[gM,ct hi,bm,hx,WRs (k:=i),zz425,au]
    cases leB k x.cX<;>simp
    grind) (λs=>by simp[gM]) ([]:List ab)
  rw[zz433 oaa _ _ _ _ (by simp;omega)] at this
  simp only[show iter (gM w k) FU (0,[])=_ from this,abO,List.map_id',zz27 (zz216 h _),au]
 rfl
theorem RF(h:QOK q)(n:Int):∃b,qH q n=ς (uw q n,b):=by
 obtain⟨a,b,c,d⟩:=h
 simp only[qH,zz39,zz90.2 ⟨a,b,c,d⟩,zz355,bJ (n:=q.cP-q.eH) oaa,uw,au]
 cases hn:inR n 0 (q.cP-q.eH)
 .simp_all
 rw[bU] at hn
 simp only[bJ (n:=q.eH+n) oaa,au];simp_all
theorem RE(h:QOK q)(n:Int):∃b,qy q n=ς (uw q n,b):=by
 obtain⟨a,b,c,d⟩:=h
 simp only[qy,EI,zz90.2 ⟨a,b,c,d⟩,zz360,bJ (n:=q.cP-q.eH) oaa,uw,au]
 cases hn:inR n 0 (q.cP-q.eH)
 .simp_all
 rw[bU] at hn
 simp only[bJ (n:=q.eH+n) oaa,au];simp_all
theorem I7(p:ab->Bool):∀xs:List ab,zz367 xs=zz367 (xs.filter p)+zz367 (xs.filter λx=>!p x)
 |[]=>rfl
 |x::xs=>by
  have ih:=I7 p xs
  have e:∀ys,zz367 (x::ys)=x.bk.length+zz367 ys:=λys=>by simp[zz367]
  grind
theorem zz142(n:Int):∀(xs:List ab) (s:Int),(∀x∈xs,x.bk.length<=60)->0<=s->s+60*xs.length<=9000000000->
 xs.foldl (λa x=>bif ltB x.cX n then WR (a+(x.bk.length:Int)) else a) s=s+zz367 (xs.filter λx=>ltB x.cX n)
 |[],s,_,_,_=>by simp[zz367]
 |x::xs,s,h,h0,h1=>by
  have hx:=h x (by simp)
  simp only[aaS] at h1
  rw[acZ,adl]
  cases ltB x.cX n
  .simp only[cond_false]
   exact zz142 n xs s (λy hy=>h y (by simp[hy])) h0 oaa
  simp only[cond_true]
  rw[bJ oaa,zz142 n xs _ (λy hy=>h y (by simp[hy])) oaa oaa]
  simp[zz367];omega
theorem zz129(h:WOK w){k:Int}(hk:ltB w.bB k=η):zz367 w.aF-zz367 (zz388 w k).aF=zz367 (w.aF.filter λx=>ltB x.cX k):=by
 rw[zz388,hk,I7 (λx=>leB k x.cX) w.aF]
 simp only[cond_false]
 have:(λx:ab=>ltB x.cX k)=λx=>!leB k x.cX:=by funext x;rw[zz420]
 grind
theorem ack_s(h:SP s)(m:aG):nN s m=ς (zz137 s m):=by
 obtain⟨b,hb⟩:=RF h.q (zz367 s.aK.aF-zz367 (zz388 s.aK m.bZ).aF)
 have hu:=h.win.d
 have hl:=h.win.l
 have hu2:∀x∈(zz388 s.aK m.bZ).aF,x.bk.length<=60:=λx hx=>by
  rw[zz388] at hx;grind
 have hl2:(zz388 s.aK m.bZ).aF.length<=8:=by
  rw[zz388];cases ltB s.aK.bB m.bZ
  .grind
  exact hl
 have s1:=xY hu
 have s2:=xY hu2
 have e1:WR (xz s.aK.aF-xz (zz388 s.aK m.bZ).aF)=zz367 s.aK.aF-zz367 (zz388 s.aK m.bZ).aF:=by
  rw[IG hu oaa,IG hu2 oaa,bJ oaa]
 simp only[nN,zz205,Cp h.ok,zz413 h.ok,Uq h.win,Wl (show s.aK.aF.length<=1048576 by omega),Wl (show(zz388 s.aK m.bZ).aF.length<=1048576 by omega),acH,e1,hb,zz137]
 cases wj s m<;>cases ltB s.aK.bB m.bZ<;>rfl
theorem YT(h:WOK w)(k:Int):zz353 (zz388 w k):=by
 rw[zz388];cases ltB w.bB k
 .exact zz216 h _
 exact h.ok
theorem ack_i(h:SP s)(m:aG):nK s m=ς (zz137 s m):=by
 have hu:=h.win.d
 have hl:=h.win.l
 have hrun:iter (kE s m) FU (0,0)=ς (zz367 (s.aK.aF.filter λx=>ltB x.cX m.bZ)):=by
  rw[zz446 s.aK.aF (λa x=>bif ltB x.cX m.bZ then WR (a+(x.bk.length:Int)) else a) oaa (λk x a hx hk=>by
   simp only[kE,ct hk,bm,hx,WRs (k:=k),au]
   grind) (λa=>by simp[kE]),zz142 m.bZ s.aK.aF 0 hu oaa oaa]
  simp
 obtain⟨b,hb⟩:=RE h.q (zz367 (s.aK.aF.filter λx=>ltB x.cX m.bZ))
 simp only[nK,zz190,Al h.ok,hrun,hb,ackB_i h.win,acH,zz137,wj]
 cases eqB s.bz 1<;>cases eqB m.ah s.ah<;>cases zz414 s.bg m<;>try rfl
 cases hk:ltB s.aK.bB m.bZ
 .have ho:dS (zz403 s m.bZ):=⟨h.ok.1,h.ok.2.1,YT h.win _⟩
  have:=Al ho
  rw[zz403,zz129 h.win hk] at this
  simp only[ace,acp,zz403,zz129 h.win hk,this,au]
 rfl
theorem up_s(h:SP s)(m:aG):pI s m=ς (sUp s m):=by
 simp only[pI,Qp,Cp h.ok,att_s h,zz277 h,ZV h,ack_s h,acH,sUp]
 grind
theorem up_i(h:SP s)(m:aG):oZ s m=ς (sUp s m):=by
 simp only[oZ,Qo,Al h.ok,att_i h,resp_i h,ZU h,ack_i h,acH,sUp]
 grind
theorem p3(t d:List aH):uu (t++d)=uu t+uu d:=by simp[uu,List.sum_append]
@[simp] theorem sumR_cons (x:aH) (d:List aH):uu (x::d)=x.ea+uu d:=by simp[uu]
theorem WN{d:List aH}{m m':Int}(h:(t++⟨i,m⟩::d).Pairwise λx y=>x.aO<y.aO):(t++⟨i,m'⟩::d).Pairwise λx y=>x.aO<y.aO:=by
 rw[acS,acM] at h ⊢
 simp_all
theorem pw_ins{d:List aH}{m:Int}(h:(t++d).Pairwise λx y=>x.aO<y.aO)(h1:∀x∈t,x.aO<i)(h2:∀x∈d,i<x.aO):(t++(⟨i,m⟩:aH)::d).Pairwise λx y=>x.aO<y.aO:=by
 rw[acS] at h ⊢
 simp_all
theorem zz145{d:List aH}(h1:∀x∈t,x.aO<i)(h2:∀x∈d,i<x.aO):∀x∈t++d,x.aO≠i:=λx hx=>by
 grind
theorem GD(ok:kr a)(i n:Int):
 kr (zz372 a i n).1/\zz361 (zz372 a i n).1 i=zz361 a i+(zz372 a i n).2/\0<=(zz372 a i n).2/\(zz372 a i n).2<=a.bK/\(zz372 a i n).1.bK=a.bK-(zz372 a i n).2/\(zz372 a i n).1.eR=a.eR/\(zz372 a i n).1.gm=a.gm:=by
 have hv:=ok.v
 have ht:=ok.t
 have hs:=ok.s
 have hl:=ok.l
 have he:=ok.e
 rw[zz372]
 cases h1:ltB i 0<;>cases h2:inR n 1 100000<;>cases h3:eqB a.bK 0<;>cases h4:full a i<;>simp only[acp,Bool.or_true,ada,abx,au]<;>try exact⟨ok,by omega,by omega,by omega,by omega,by simp,by simp⟩
 rw[bU] at h2
 have h1:=zz412 h1
 have h3:=zz186 h3
 have hmin:1<=lV n a.bK/\lV n a.bK<=100000/\lV n a.bK<=a.bK:=by unfold lV;split<;>omega
 generalize lV n a.bK=g at*
 rcases zz94 ok.o i with⟨t,m,d,e,k1,k2⟩|⟨t,d,e,k1,k2⟩
 .have hm:=ok.r ⟨i,m⟩ (by rw[e];simp)
  have hsum:=(zz398 ok.r).2.2 ⟨i,m⟩ (by rw[e];simp)
  simp only at hm hsum
  rw[e,p3,sumR_cons] at he
  simp only at he
  have hs1:=zz398 (h:=t) λx hx=>ok.r x (by simp_all)
  have hs2:=zz398 (h:=d) λx hx=>ok.r x (by simp_all)
  have ho:=ok.o
  rw[e] at ho
  rw[lD e k1]
  simp only[e,zz131 k1]
  have hll:(t++(⟨i,m+g⟩:aH)::d).length=a.an.length:=by rw[e];simp
  refine⟨⟨ht,by grind,hs,by simp_all,λx hx=>?_,WN ho,by simp only[p3,sumR_cons];omega⟩,lD (t:=t) (d:=d) rfl k1,by omega,by omega,θ,θ,θ⟩
  rcases aaH.1 hx with hx|hx
  .exact ok.r x (by simp_all)
  rcases aaK.1 hx with e'|hx
  .grind
  exact ok.r x (by simp_all)
 rw[zz392 (a:=a) (λx hx=>by grind)]
 have hb:a.an.length<8:=by
  rw[full,e,Uv k1 k2] at h4
  simp only[Bool.not_false,ace] at h4
  have:=zz472 h4
  rw[e];omega
 rw[e,p3] at he
 have ho:=ok.o
 rw[e] at ho
 simp only[e,zz132 k1 k2]
 refine⟨⟨ht,by grind,hs,by grind,λx hx=>?_,pw_ins ho k1 k2,by simp only[p3,sumR_cons];omega⟩,Eq.trans (lD (t:=t) (d:=d) rfl k1) oaa,by omega,by omega,θ,θ,θ⟩
 rcases aaH.1 hx with hx|hx
 .exact ok.r x (by simp_all)
 rcases aaK.1 hx with e'|hx
 .simp_all
 exact ok.r x (by simp_all)
theorem LB(ok:kr a){n:Int}(hn:0<=n/\n<=zz361 a i):
 kr (zz465 a i n)/\zz361 (zz465 a i n) i=zz361 a i-n/\(zz465 a i n).eR=a.eR+n/\(zz465 a i n).bK=a.bK/\(zz465 a i n).gm=a.gm:=by
 have hv:=ok.v
 have ht:=ok.t
 have hs:=ok.s
 have hl:=ok.l
 have he:=ok.e
 rw[zz465]
 cases h0:ltB 0 n
 .have h0:=zz412 h0
  grind
 have h0:=zz369 h0
 simp only[cond_true]
 rcases zz94 ok.o i with⟨t,m,d,e,k1,k2⟩|⟨t,d,e,k1,k2⟩
 .rw[lD e k1] at hn ⊢
  have hm:=ok.r ⟨i,m⟩ (by rw[e];simp)
  simp only at hm
  rw[e,p3,sumR_cons] at he
  have hs1:=zz398 (h:=t) λx hx=>ok.r x (by simp_all)
  have hs2:=zz398 (h:=d) λx hx=>ok.r x (by simp_all)
  have ho:=ok.o
  rw[e] at ho
  have hll:t.length+1+d.length=a.an.length:=by rw[e];simp;omega
  simp only at he
  simp only[e,Ev k1]
  by_cases hb:n<m
  .simp only[if_pos hb]
   refine⟨⟨ht,by omega,by grind,by simp;omega,λx hx=>?_,WN ho,by simp only[p3,sumR_cons];omega⟩,lD (t:=t) (d:=d) rfl k1,θ,θ,θ⟩
   rcases aaH.1 hx with hx|hx
   .exact ok.r x (by simp_all)
   rcases aaK.1 hx with e'|hx
   .grind
   exact ok.r x (by simp_all)
  simp only[if_neg hb]
  have ho2:(t++d).Pairwise λx y=>x.aO<y.aO:=ho.sublist (by simp)
  refine⟨⟨ht,by omega,by grind,by simp;omega,λx hx=>ok.r x (by grind),ho2,by simp only[p3];omega⟩,?_,θ,θ,θ⟩
  rw[zz392 (a:={a with eR:=a.eR+n,an:=t++d}) (zz145 k1 k2)];omega
 rw[zz392 (λx hx=>by grind)] at hn
 omega
structure MOK(a:aj)(q:cY):Prop where
 acc:kr a
 quo:QOK q
 res:zz361 a q.aO=q.cP
theorem zz407:zz440 a q=ζ↔MOK a q:=by
 simp only[zz440,hV,zz445,zz90,eqB_t]
 exact⟨λ⟨x,y,z⟩=>⟨x,y,z⟩,λ⟨x,y,z⟩=>⟨x,y,z⟩⟩
def kO(a:aj)(q:cY)(n:Int):aj×cY:=
 let r:=zz372 a q.aO n
 (r.1,{q with cP:=q.cP+r.2})
theorem zz28(h:MOK a q)(n:Int):MOK (kO a q n).1 (kO a q n).2/\q.cP<=(kO a q n).2.cP:=by
 obtain⟨h1,h2,h3,h4,h5,h6,h7⟩:=GD h.acc q.aO n
 have:=Ak h1 q.aO
 have hr:=h.res
 obtain⟨a1,a2,a3,a4⟩:=h.quo
 exact⟨⟨h1,⟨a1,a2,by simp only[kO];omega,by simp only[kO];omega⟩,by simp only[kO];omega⟩,by simp only[kO];omega⟩
theorem SR(h:MOK a q)(n:Int):qI a q n=ς (kO a q n):=by
 have h0:=(zz28 h n).1.quo
 have hq:=h.quo
 simp only[kO] at h0
 have hg:=h0.m
 have hg2:=h0.g
 simp only at hg hg2
 simp only[qI,zz112 h.acc,zz122 h.acc.ok,zz407.2 h,zz39,bJ (n:=q.cP+(zz372 a q.aO n).2) (by have:=hq.u;omega),zz90.2 h0,kO,au]
theorem zz245(h:MOK a q)(n:Int):qA a q n=ς (kO a q n):=by
 have h0:=(zz28 h n).1.quo
 have hq:=h.quo
 simp only[kO] at h0
 have hg:=h0.m
 have hg2:=h0.g
 simp only at hg hg2
 simp only[qA,zz246 h.acc,J6 h.acc.ok,zz407.2 h,bJ (n:=q.cP+(zz372 a q.aO n).2) (by have:=hq.u;omega),ltB_f.2 hg,kO,au]
def zz384(a:aj)(q:cY):aj×cY:=(zz465 a q.aO q.eH,⟨q.aO,q.cP-q.eH,0⟩)
theorem zz244(h:MOK a q):MOK (zz384 a q).1 (zz384 a q).2/\(zz384 a q).1.eR=a.eR+q.eH/\(zz384 a q).1.gm=a.gm/\(zz384 a q).1.bK=a.bK:=by
 obtain⟨a1,a2,a3,a4⟩:=h.quo
 have hr:=h.res
 obtain⟨h1,h2,h3,h4,h5⟩:=LB h.acc (i:=q.aO) (n:=q.eH) oaa
 exact⟨⟨h1,⟨a1,by simp[zz384],by simp only[zz384];omega,by simp only[zz384];omega⟩,by simp only[zz384];omega⟩,h3,h5,h4⟩
theorem zz275(h:MOK a q):sT a q=ς (zz384 a q):=by
 obtain⟨a1,a2,a3,a4⟩:=h.quo
 have hr:=h.res
 simp only[sT,zz122 h.acc.ok,zz407.2 h,zz214 h.acc (i:=q.aO) (n:=q.eH) oaa,bJ (n:=q.cP-q.eH) oaa,zz384,au]
theorem W6(h:MOK a q):o3 a q=ς (zz384 a q):=by
 obtain⟨a1,a2,a3,a4⟩:=h.quo
 have hr:=h.res
 simp only[o3,J6 h.acc.ok,zz407.2 h,zz307 h.acc (i:=q.aO) (n:=q.eH) oaa,bJ (n:=q.cP-q.eH) oaa,zz384,au]
def pu(s:ag)(n:Int):Int:=zz98 0 (zz367 s.aK.aF+n-(s.bX.cP-s.bX.eH))
theorem zz286(hw:WOK s.aK)(hq:QOK s.bX){n:Int}(hn:0<=n/\n<=1000):pG s n=ς (pu s n):=by
 have hs:=xY hw.d
 have hl:=hw.l
 obtain⟨a1,a2,a3,a4⟩:=hq
 simp only[pG,pF,Wl (show s.aK.aF.length<=1048576 by omega),IG hw.d (show s.aK.aF.length<=1000 by omega),W5,EJ ⟨a1,a2,a3,a4⟩,zz177,acH,pu,bJ (n:=zz367 s.aK.aF+n) oaa,bJ (n:=zz367 s.aK.aF+n-(s.bX.cP-s.bX.eH)) oaa]
theorem zz285(hw:WOK s.aK)(hq:QOK s.bX){n:Int}(hn:0<=n/\n<=1000):oV s n=ς (pu s n):=by
 have hs:=xY hw.d
 have hl:=hw.l
 obtain⟨a1,a2,a3,a4⟩:=hq
 simp only[oV,ji,nb_i (show s.aK.aF.length<=1048576 by omega),IG hw.d (show s.aK.aF.length<=1000 by omega),rem_i,EJ ⟨a1,a2,a3,a4⟩,max_i,acH,pu,bJ (n:=zz367 s.aK.aF+n) oaa,bJ (n:=zz367 s.aK.aF+n-(s.bX.cP-s.bX.eH)) oaa]
def d9(s:ag)(a:aj)(n:Int):ag×aj:=
 bif leB (pu s n) 0 then(s,a) else
  let r:=kO a s.bX (zz98 (pu s n) s.gB.eB)
  ({s with bX:=r.2},r.1)
theorem zz256(h:SP s)(hm:MOK a s.bX){n:Int}(hn:0<=n/\n<=1000):sR s a n=ς (d9 s a n):=by
 simp only[sR,zz413 h.ok,zz286 h.win h.q hn,zz19 hm.acc.ok,zz177,SR hm,acH,d9]
 grind
theorem zz255(h:SP s)(hm:MOK a s.bX){n:Int}(hn:0<=n/\n<=1000):sm s a n=ς (d9 s a n):=by
 simp only[sm,zz455 h.ok,zz285 h.win h.q hn,Db hm.acc.ok,max_i,zz245 hm,acH,d9]
 grind
def AL(w:aV)(b:List Int):aV:=⟨w.bB+1,w.aF++[⟨w.bB,b⟩]⟩
theorem zz60(h:WOK w){b:List Int}(hn:w.bB<100000)(hl:w.aF.length<8)(hb:b.length<=60):WOK (AL w b):=by
 have h1:=h.n
 have h3:=h.f
 refine⟨by simp only[AL];omega,by simp[AL];omega,by simp[AL];omega,λk x hx=>?_⟩
 simp only[AL] at hx ⊢
 rw[abk,List.length_singleton]
 by_cases hk:k<w.aF.length
 .rw[zz327 hk] at hx
  have:=h.u k x hx
  omega
 grind
theorem send_s(h:WOK w){b:List Int}(hn:w.bB<100000)(hl:w.aF.length<8)(hb:b.length<=60):jq w b=ς (AL w b,⟨w.bB,b⟩,ζ):=by
 have h1:=h.n
 have hs:=zz60 h hn hl hb
 have e:(⟨WR (w.bB+1),w.aF++[(⟨w.bB,b⟩:ab)]⟩:aV)=AL w b:=by rw[bJ oaa];rfl
 simp only[jq,zz480 h.ok,abO,zz343 (by_:=1) (n:=b.length) oaa oaa,zz343 (by_:=32) (n:=(w.aF++[(⟨w.bB,b⟩:ab)]).length) oaa (by simp;omega),e,zz85 hs.ok,C8.2 hs,au]
theorem send_i(h:WOK w){b:List Int}(hn:w.bB<100000)(hl:w.aF.length<8)(hb:b.length<=60):qT w b=ς (AL w b,⟨w.bB,b⟩,ζ):=by
 have h1:=h.n
 have hs:=zz60 h hn hl hb
 have e:(⟨WR (w.bB+1),w.aF++[(⟨w.bB,b⟩:ab)]⟩:aV)=AL w b:=by rw[bJ oaa];rfl
 simp only[qT,zz44 h.ok,zz442 (show b.length<=1048576 by omega),zz343 (by_:=32) (n:=(w.aF++[(⟨w.bB,b⟩:ab)]).length) oaa (by simp;omega),e,zz172 hs.ok,C8.2 hs,au]
structure SG(s:ag)(a:aj):Prop where
 sp:SP s
 b1:∀p∈s.aS,okB p.bk
 b2:∀x∈s.aK.aF,okB x.bk
 mo:MOK a s.bX
def zz450(s:ag):Option bI:=bif leB s.aK.bB (s.aS.length:Int)&&ltB (s.aK.aF.length:Int) 8 then s.aS[(s.aK.bB-1).toNat]? else ξ
def iF:Nat->ag->aj->List aD->ag×aj×List aD
 |0,s,a,r=>(s,a,r)
 |k+1,s,a,r=>match zz450 s with
  |none=>(s,a,r)
  |some x=>
   let e:=d9 s a (x.bk.length:Int)
   bif ltB 0 (pu e.1 (x.bk.length:Int)) then(e.1,e.2,r)
   else iF k {e.1 with aK:=AL e.1.aK x.bk} e.2 (r++[zz375 e.1.bg e.1.ah e.1.aY ⟨e.1.aK.bB,x.bk⟩])
theorem tK(h:SP s){x:bI}(e:zz450 s=ς x):x∈s.aS/\ix s.aS (WR (s.aK.bB-1))=ς x/\s.aS[(s.aK.bB-1).toNat]?=ς x/\s.aK.bB<=s.aS.length/\s.aK.aF.length<8/\x.bk.length<=60:=by
 have hn:=h.win.n
 rw[zz450] at e
 cases h1:leB s.aK.bB (s.aS.length:Int)<;>cases h2:ltB (s.aK.aF.length:Int) 8<;>rw[h1,h2] at e<;>try cases e
 have h1:=y3 h1
 have h2:=zz369 h2
 have e:s.aS[(s.aK.bB-1).toNat]?=ς x:=e
 have hm:=zz326 e
 refine⟨hm,?_,e,h1,by omega,h.sd x hm⟩
 rw[bJ oaa,ix,leB_t.2 (show 0<=s.aK.bB-1 by omega)]
 exact e
theorem zz88(h:SP s)(e:zz450 s=ξ):(leB s.aK.bB (s.aS.length:Int)&&ltB (s.aK.aF.length:Int) 8)=false:=by
 have hn:=h.win.n
 cases h1:leB s.aK.bB (s.aS.length:Int)&&ltB (s.aK.aF.length:Int) 8
 .rfl
 rw[zz450,h1] at e
 rw[hV] at h1
 have h1:=y3 h1.1
 have e:s.aS[(s.aK.bB-1).toNat]?=none:=e
 rw[List.getElem?_eq_none_iff] at e
 omega
theorem zz473(h:SG s a){n:Int}(hn:0<=n/\n<=60):SG (d9 s a n).1 (d9 s a n).2:=by
 rw[d9]
 cases leB (pu s n) 0
 .obtain⟨h1,h2⟩:=zz28 h.mo (zz98 (pu s n) s.gB.eB)
  have hp:=h.sp.pd
  have hu:(kO a s.bX (zz98 (pu s n) s.gB.eB)).2.eH=s.bX.eH:=rfl
  exact⟨{h.sp with q:=h1.quo,pd:=by grind},h.b1,h.b2,h1⟩
 exact h
theorem zz59(h:SG s a){x:bI}(e:zz450 s=ς x)(hq:ltB 0 (pu s (x.bk.length:Int))=η):SG {s with aK:=AL s.aK x.bk} a:=by
 obtain⟨hm,_,hx,hn,hl,hb⟩:=tK h.sp e
 have hs:=h.sp.sl
 have hq:=zz412 hq
 have hnn:=h.sp.win.n
 have hpd:zz367 (s.aK.aF++[⟨s.aK.bB,x.bk⟩])<=s.bX.cP-s.bX.eH:=by
  have e1:zz367 (s.aK.aF++[⟨s.aK.bB,x.bk⟩])=zz367 s.aK.aF+x.bk.length:=by simp[zz367]
  rw[pu,zz98] at hq
  rw[e1]
  split at hq<;>omega
 refine⟨{h.sp with ok:=⟨h.sp.ok.1,h.sp.ok.2.1,(zz60 h.sp.win oaa hl hb).ok⟩,win:=zz60 h.sp.win oaa hl hb,nx:=by simp only[AL];omega,un:=λy hy=>?_,pd:=hpd},h.b1,λy hy=>?_,h.mo⟩
 .simp only[AL,aaH,abQ] at hy
  rcases hy with hy|rfl
  .exact h.sp.un y hy
  simp only[DI,hx,zz222];simp_all
 simp only[AL,aaH,abQ] at hy
 rcases hy with hy|rfl
 .exact h.b2 y hy
 exact h.b1 x hm
theorem zz432(s:ag)(a:aj)(n:Int):∃q,(d9 s a n).1={s with bX:=q}:=by
 rw[d9];cases leB (pu s n) 0
 .simp_all
 grind
theorem zz84:∀(k fu:Nat) (s:ag) (a:aj) (r:List aD),SG s a->k<=2->k<fu->r.length+k<=1000->
 iter uD fu ((2:Int)-(k:Nat),r,s,a)=ς ((iF k s a r).2.2,(iF k s a r).1,(iF k s a r).2.1)
 |0,fu,s,a,r,h,h1,h2,h3=>by
  cases fu with
  |zero=>omega
  |succ fu=>rw[iter];simp[uD,iF]
 |k+1,fu,s,a,r,h,h1,h2,h3=>by
  cases fu with
  |zero=>omega
  |succ fu=>
   have hlt:ltB ((2:Int)-((k+1:Nat):Int)) 2=true:=ltB_t.2 oaa
   have hc:(bif ltB (s.aS.length:Int) s.aK.bB then ς ζ else ς (leB 8 (s.aK.aF.length:Int)))=ς (!(leB s.aK.bB (s.aS.length:Int)&&ltB (s.aK.aF.length:Int) 8)):=by
    rw[zz420 (s.aS.length:Int),zz420 (s.aK.aF.length:Int)]
    cases leB s.aK.bB (s.aS.length:Int)<;>cases leB 8 (s.aK.aF.length:Int)<;>rfl
   rw[iter]
   simp only[uD,hlt,hc,iF,au]
   cases e:zz450 s with
   |none=>rw[zz88 h.sp e];rfl
   |some x=>
    obtain⟨hm,hx,_,hn,hl,hb⟩:=tK h.sp e
    have hcc:(leB s.aK.bB (s.aS.length:Int)&&ltB (s.aK.aF.length:Int) 8)=true:=by rw[leB_t.2 hn,ltB_t.2 oaa];rfl
    have he:=zz473 h (n:=(x.bk.length:Int)) oaa
    have hsl:=h.sp.sl
    have hnn:=h.sp.win.n
    simp only[hcc,hx,zz255 h.sp h.mo (n:=(x.bk.length:Int)) oaa,zz285 he.sp.win he.sp.q (n:=(x.bk.length:Int)) oaa,au]
    cases hq:ltB 0 (pu (d9 s a (x.bk.length:Int)).1 (x.bk.length:Int))
    .obtain⟨q,hk⟩:=zz432 s a (x.bk.length:Int)
     have e2:zz450 (d9 s a (x.bk.length:Int)).1=ς x:=by rw[hk];exact e
     have hg:=zz59 he e2 hq
     have hw:(d9 s a (x.bk.length:Int)).1.aK=s.aK:=by rw[hk]
     have hww:=he.sp.win
     simp only[send_i hww (b:=x.bk) (by grind) (by simp_all) hb,zz305 (x:=⟨(d9 s a (x.bk.length:Int)).1.aK.bB,x.bk⟩) (by grind) (by grind) (h.b1 x hm) (by grind),zz343 (by_:=64) (n:=(r++[zz375 (d9 s a (x.bk.length:Int)).1.bg (d9 s a (x.bk.length:Int)).1.ah (d9 s a (x.bk.length:Int)).1.aY ⟨(d9 s a (x.bk.length:Int)).1.aK.bB,x.bk⟩]).length) oaa (by simp;omega),bJ (n:=(2:Int)-((k+1:Nat):Int)+1) oaa,au]
     rw[show(2:Int)-((k+1:Nat):Int)+1=2-(k:Nat) by omega]
     exact zz84 k fu _ _ _ hg oaa oaa (by simp;omega)
    rfl
theorem GX(s0:ag):∀(k fu:Nat) (s:ag) (a:aj) (g:List aG) (r:List aD),SG s a->s.aS=s0.aS->s.bg=s0.bg->s.ah=s0.ah->s.aY=s0.aY->k<=2->k<fu->r.length+k<=1000->
 iter (uU s0) fu ((2:Int)-(k:Nat),⟨s,a,g,r⟩)=ς ⟨(iF k s a r).1,(iF k s a r).2.1,g,(iF k s a r).2.2⟩
 |0,fu,s,a,g,r,h,c1,c2,c3,c4,h1,h2,h3=>by
  cases fu with
  |zero=>omega
  |succ fu=>rw[iter];simp[uU,iF]
 |k+1,fu,s,a,g,r,h,c1,c2,c3,c4,h1,h2,h3=>by
  cases fu with
  |zero=>omega
  |succ fu=>
   have hlt:ltB ((2:Int)-((k+1:Nat):Int)) 2=true:=ltB_t.2 oaa
   have hc:(bif leB s.aK.bB (s0.aS.length:Int) then ς (ltB (s.aK.aF.length:Int) 8) else ς η)=ς (leB s.aK.bB (s.aS.length:Int)&&ltB (s.aK.aF.length:Int) 8):=by
    rw[<-c1]
    cases leB s.aK.bB (s.aS.length:Int)<;>rfl
   rw[iter]
   simp only[uU,hlt,hc,iF,au]
   cases e:zz450 s with
   |none=>rw[zz88 h.sp e];rfl
   |some x=>
    obtain⟨hm,hx,_,hn,hl,hb⟩:=tK h.sp e
    have hcc:(leB s.aK.bB (s.aS.length:Int)&&ltB (s.aK.aF.length:Int) 8)=true:=by rw[leB_t.2 hn,ltB_t.2 oaa];rfl
    have he:=zz473 h (n:=(x.bk.length:Int)) oaa
    have hsl:=h.sp.sl
    have hnn:=h.sp.win.n
    rw[c1] at hx
    simp only[hcc,hx,zz256 h.sp h.mo (n:=(x.bk.length:Int)) oaa,zz286 he.sp.win he.sp.q (n:=(x.bk.length:Int)) oaa,au]
    cases hq:ltB 0 (pu (d9 s a (x.bk.length:Int)).1 (x.bk.length:Int))
    .obtain⟨q,hk⟩:=zz432 s a (x.bk.length:Int)
     have e2:zz450 (d9 s a (x.bk.length:Int)).1=ς x:=by rw[hk];exact e
     have hg:=zz59 he e2 hq
     have hw:(d9 s a (x.bk.length:Int)).1.aK=s.aK:=by rw[hk]
     have hww:=he.sp.win
     have d1:(d9 s a (x.bk.length:Int)).1.bg=s0.bg:=by rw[hk];exact c2
     have d2:(d9 s a (x.bk.length:Int)).1.ah=s0.ah:=by rw[hk];exact c3
     have d3:(d9 s a (x.bk.length:Int)).1.aY=s0.aY:=by rw[hk];exact c4
     simp only[send_s hww (b:=x.bk) (by grind) (by simp_all) hb,zG,zz139 (x:=⟨(d9 s a (x.bk.length:Int)).1.aK.bB,x.bk⟩) (by grind) (by grind) (h.b1 x hm) (by grind),<-d1,<-d2,<-d3,zz343 (by_:=64) (n:=(r++[zz375 (d9 s a (x.bk.length:Int)).1.bg (d9 s a (x.bk.length:Int)).1.ah (d9 s a (x.bk.length:Int)).1.aY ⟨(d9 s a (x.bk.length:Int)).1.aK.bB,x.bk⟩]).length) oaa (by simp;omega),bJ (n:=(2:Int)-((k+1:Nat):Int)+1) oaa,au]
     rw[show(2:Int)-((k+1:Nat):Int)+1=2-(k:Nat) by omega]
     exact GX s0 k fu _ _ _ _ hg (by simp_all) d1 d2 d3 oaa oaa (by simp;omega)
    rfl
theorem zz250(h:SG s a)(hs:s.bz=1):Cc s a=ς ⟨(iF 2 s a []).1,(iF 2 s a []).2.1,[],(iF 2 s a []).2.2⟩:=by
 have:=zz84 2 FU s a [] h oaa (by have:=ie;omega) (by simp)
 rw[show(2:Int)-((2:Nat):Int)=0 by omega] at this
 simp only[Cc,zz455 h.sp.ok,Db h.mo.acc.ok,DE h.sp.ok,(zz419 h.sp.ok).2 h.sp,eqB_t.2 hs,this,au]
theorem zz251(h:SG s a)(hs:s.bz=1):zj s a=ς ⟨(iF 2 s a []).1,(iF 2 s a []).2.1,[],(iF 2 s a []).2.2⟩:=by
 have:=GX s 2 FU s a [] [] h rfl rfl rfl rfl oaa (by have:=ie;omega) (by simp)
 rw[show(2:Int)-((2:Nat):Int)=0 by omega] at this
 have hz:({cB with bb:=s,eN:=a}:bR)=⟨s,a,[],[]⟩:=rfl
 simp only[zj,t6,zE,zz413 h.sp.ok,zz19 h.mo.acc.ok,DF h.sp.ok,(zz419 h.sp.ok).2 h.sp,eqB_t.2 hs,hz,this,au]
theorem zz171:∀(k:Nat) (s:ag) (a:aj) (r:List aD),SG s a->SG (iF k s a r).1 (iF k s a r).2.1
 |0,s,a,r,h=>h
 |k+1,s,a,r,h=>by
  rw[iF]
  cases e:zz450 s with
  |none=>exact h
  |some x=>
   obtain⟨hm,hx,_,hn,hl,hb⟩:=tK h.sp e
   have he:=zz473 h (n:=(x.bk.length:Int)) oaa
   simp only
   cases hq:ltB 0 (pu (d9 s a (x.bk.length:Int)).1 (x.bk.length:Int))
   .obtain⟨q,hk⟩:=zz432 s a (x.bk.length:Int)
    exact zz171 k _ _ _ (zz59 he (by rw[hk];exact e) hq)
   exact he
theorem zz71(xs:List α):(xs.filter λ_=>ζ)=xs:=List.filter_eq_self.2 (by simp)
def zz20(s:ag):List aD:=bif eqB s.bz 1 then(s.aK.aF.take 2).map λx=>zz375 s.bg s.ah s.aY x else []
theorem OY(h:WOK s.aK)(hx:x∈s.aK.aF):1<=x.cX/\x.cX<s.aK.bB/\x.cX<=100000/\x.bk.length<=60:=by
 obtain⟨k,hk⟩:=aaP hx
 have hl:=(zz334.1 hk).1
 have:=h.u k x hk
 have h1:=h.f
 have h2:=h.n
 omega
theorem zz309(h:SG s a):qS s=ς (zz20 s):=by
 simp only[qS,zz20]
 cases eqB s.bz 1
 .rfl
 have hm:lV 2 (s.aK.aF.length:Int)=(((min 2 s.aK.aF.length:Nat)):Int):=by unfold lV;split<;>omega
 have hs:em s.aK.aF 0 (((min 2 s.aK.aF.length:Nat)):Int)=true:=by simp[em];omega
 have ht:s.aK.aF.take (min 2 s.aK.aF.length)=s.aK.aF.take 2:=by
  rcases Nat.le_total 2 s.aK.aF.length with h|h
  .simp_all
  grind
 have hrun:=eG (step:=me s (((min 2 s.aK.aF.length:Nat)):Int)) (s.aK.aF.take 2) (λi r=>((i:Int),r)) (zz425 64 (λ_=>ζ) (λx=>zz375 s.bg s.ah s.aY x)) ς (by simp;omega)
  (λi x r hx hi=>by
   have hxm:x∈s.aK.aF:=abe (zz326 hx)
   have hu:=OY h.sp.win hxm
   simp only[me,acI,ht,ct hi,bm,hx,zz305 (x:=x) oaa oaa (h.b2 x hxm) oaa,zz396 (show i<9223372036854775807 by grind),zz425,au]
   simp_all) (λr=>by simp[me,ht]) ([]:List aD)
 rw[zz433 oaa _ _ _ _ (by simp;omega)] at hrun
 have hrun:iter (me s (((min 2 s.aK.aF.length:Nat)):Int)) FU (0,[])=_:=hrun
 simp only[V7,hm,hs,hrun,abO,zz71,au]
theorem zz310(h:SG s a):oA s=ς (zz20 s):=by
 have key:∀(n:Nat) (fu k:Nat) (r:List aD),n=(s.aK.aF.take 2).length-k->k<=(s.aK.aF.take 2).length->n<fu->r.length+n<=100->eqB s.bz 1=ζ->
  iter (kj s) fu ((k:Int),r)=ς (r++((s.aK.aF.take 2).drop k).map λx=>zz375 s.bg s.ah s.aY x):=by
  intro n
  have hle:(s.aK.aF.take 2).length=min 2 s.aK.aF.length:=by simp
  induction n with
  |zero=>
   intro fu k r hn hk hf hr hs
   cases fu with
   |zero=>omega
   |succ fu=>
    have hk':k=(s.aK.aF.take 2).length:=by omega
    have hc:(bif ltB (k:Int) (s.aK.aF.length:Int) then(bif ltB (k:Int) 2 then ς (eqB s.bz 1) else ς η) else ς η)=ς false:=by
     by_cases h2:k<s.aK.aF.length
     .rw[ct h2,ltB_f.2 (show(2:Int)<=k by omega)];rfl
     rw[ltB_f.2 (show(s.aK.aF.length:Int)<=k by omega)];rfl
    rw[iter]
    simp only[kj,hc,au]
    simp_all
  |succ n ih=>
   intro fu k r hn hk hf hr hs
   cases fu with
   |zero=>omega
   |succ fu=>
    have hlt:k<(s.aK.aF.take 2).length:=by omega
    have hc:(bif ltB (k:Int) (s.aK.aF.length:Int) then(bif ltB (k:Int) 2 then ς (eqB s.bz 1) else ς η) else ς η)=ς true:=by
     rw[ct (show k<s.aK.aF.length by omega),ltB_t.2 (show(k:Int)<2 by omega),hs];rfl
    obtain⟨x,hx⟩:∃x,s.aK.aF[k]?=ς x:=⟨_,zz330 (show k<s.aK.aF.length by omega)⟩
    have hxm:=zz326 hx
    have hu:=OY h.sp.win hxm
    have hd:(s.aK.aF.take 2).drop k=x::(s.aK.aF.take 2).drop (k+1):=by
     rw[aby hlt];congr 1
     have:=(zz334.1 hx).2
     simpa using this
    rw[iter]
    simp only[kj,hc,bm,hx,zG,zz139 (x:=x) oaa oaa (h.b2 x hxm) oaa,zz343 (by_:=64) (n:=(r++[zz375 s.bg s.ah s.aY x]).length) oaa (by simp;omega),WRs (k:=k),au]
    rw[ih fu (k+1) _ oaa oaa oaa (by simp;omega) hs,hd]
    simp
 rw[oA,zz20]
 cases hs:eqB s.bz 1
 .have h0:iter (kj s) FU (0,[])=ς []:=by
   have:FU=(FU-1)+1:=by have:=ie;omega
   rw[this,iter]
   have hc:(bif ltB 0 (s.aK.aF.length:Int) then(bif ltB 0 2 then ς (eqB s.bz 1) else ς η) else ς η)=ς false:=by
    rw[hs];cases ltB 0 (s.aK.aF.length:Int)<;>cases ltB 0 2<;>rfl
   simp only[kj,hc,au]
  rw[h0];rfl
 have:=key _ FU 0 [] rfl oaa (by have:=ie;simp;omega) (by simp;omega) hs
 simp_all
def zz431(m:aZ)(a:Int):List Int:=(m.bp.zipIdx.filter λy=>eqB y.1.fF a).map λy=>(y.2:Int)
def Us(m:aZ):List Int:=(v0 m.bp.length).map λ(k:Nat)=>(k:Int)
def zz41(m:aZ)(a t:Int):List Int:=bif eqB t 1&&ltB 0 (((zz431 m a).length:Nat):Int) then zz431 m a else bif inR t 1 4 then Us m else []
theorem zz240{xs:List α}{y:α×Nat}(h:xs.zipIdx[k]?=ς y):xs[k]?=ς y.1/\y.2=k:=by
 grind
theorem zz265(h:m.bp.length<=1000)(a:Int):sQ m a=ς (zz431 m a):=by
 have hrun:=eG (step:=lh m a) m.bp.zipIdx (λi r=>((i:Int),r)) (zz425 8 (λy=>eqB y.1.fF a) (λy=>(y.2:Int))) ς (by simp;omega)
  (λi y r hy hi=>by
   obtain⟨hx,e⟩:=zz240 hy
   have hi:i<m.bp.length:=by simpa using hi
   simp only[lh,ct hi,bm,hx,WRs (k:=i),zz425,e,au]
   cases eqB y.1.fF a
   .rfl
   cases cW 8 (r++[(i:Int)]).length<;>rfl) (λr=>by simp[lh]) ([]:List Int)
 rw[zz433 oaa _ _ _ _ (by simp;omega)] at hrun
 rw[sQ,show iter (lh m a) FU (0,[])=_ from hrun]
 rfl
theorem area_i(h:m.bp.length<=1000)(a:Int):xa m a=ς (zz431 m a):=zz265 h a
theorem zz150(n:Nat):∀(v:List Int),v.length=n->(∀k:Nat,k<n->v[k]?=ς (k:Int))->v=(v0 n).map λ(k:Nat)=>(k:Int):=by
 intro v hv h
 apply acT
 grind
theorem all_i{L:Int×List Int->Option (ci (Int×List Int) (List Int))}(n:Nat)(hn:n<=1000)(hL:∀(k:Nat) (v:List Int),L ((k:Int),v)=bif ltB (k:Int) (n:Int) then(acE (ix v (k:Int)) λ_=>ς (.next (WR ((k:Int)+1),v.set ((k:Int)).toNat (k:Int)))) else ς (.done v)):
 iter L FU (0,aaI n 0)=ς ((v0 n).map λ(k:Nat)=>(k:Int)):=by
 have:Wp (iter L FU (0,aaI n 0)) (λr=>r=(v0 n).map λ(k:Nat)=>(k:Int)):=by
  refine Wp.iterF (λs=>∃i:Nat,i<=n/\s.1=(i:Int)/\s.2.length=n/\∀j:Nat,j<i->s.2[j]?=ς (j:Int)) (λs=>((n:Int)-s.1).toNat) ⟨0,by omega,rfl,by simp,by omega⟩ (by simp;omega) ?_
  rintro⟨v2,v3⟩ ⟨i,hi,rfl,h3,h4⟩
  simp only at h3 h4
  rw[hL]
  refine Wp.cond (λhlt=>?_) (λhlt=>?_)
  .have hlt:=zz369 hlt
   refine Wp.ix oaa oaa λx hx hxi=>Wp.some ?_
   rw[bJ oaa]
   refine⟨⟨i+1,by omega,by simp,by simp_all,λj hj=>?_⟩,by omega⟩
   grind
  have hlt:=zz412 hlt
  exact Wp.some (zz150 n v3 h3 λk hk=>h4 k oaa)
 obtain⟨r,hr,rfl⟩:=this.ex
 exact hr
theorem ZS(h:m.bp.length<=1000)(a t:Int):sr m a t=ς (zz41 m a t):=by
 have hmk:qj 8 (m.bp.length:Int) (m.bp.length:Int)=true:=ip oaa oaa
 have hr1:=all_i (L:=rG m) m.bp.length h (λk v=>by simp only[rG,adg,acI])
 have hr2:=all_i (L:=rH m) m.bp.length h (λk v=>by simp only[rH,adg,acI])
 simp only[sr,zz360,area_i h,hmk,acI,hr1,hr2,zz41,Us,au]
 cases h1:eqB t 1
 .grind
 have h1:=zz424 h1
 subst h1
 rw[show inR 1 1 4=ζ from by simp[inR,leB]]
 grind
theorem ZT(h:m.bp.length<=1000)(a t:Int):sS m a t=ς (zz41 m a t):=by
 simp only[sS,zz265 h,acH,zz41,Us]
 cases hb:inR t 1 4
 .have h0:iter (i9 m t) FU (0,[])=ς []:=by
   have:FU=(FU-1)+1:=by have:=ie;omega
   rw[this,iter]
   simp only[i9,zz355,hb,acH]
   cases ltB 0 (m.bp.length:Int)<;>rfl
  grind
 have hrun:=eG (step:=i9 m t) m.bp.zipIdx (λi r=>((i:Int),r)) (zz425 8 (λ_=>ζ) (λy=>(y.2:Int))) ς (by simp;omega)
  (λi y r hy hi=>by
   obtain⟨hx,e⟩:=zz240 hy
   have hi:i<m.bp.length:=by simpa using hi
   simp only[i9,ct hi,zz355,hb,WRs (k:=i),zz425,e,au]
   simp_all) (λr=>by simp[i9]) ([]:List Int)
 rw[zz433 oaa _ _ _ _ (by simp;omega)] at hrun
 have hall:(m.bp.zipIdx.filter λ_=>ζ).map (λy:dY×Nat=>(y.2:Int))=(v0 m.bp.length).map λ(k:Nat)=>(k:Int):=by
  rw[zz71]
  refine zz150 _ _ (by simp) λk hk=>?_
  simp[List.getElem?_zipIdx,zz330 hk]
 grind
def yp(p:cV)(m:aZ):cV×List Int:=
 bif ltB 0 p.eU then({p with eU:=p.eU-1},[]) else
  let t:=bif ltB p.eT 4 then p.eT+1 else 1
  (⟨p.fF,t,3⟩,zz41 m p.fF t)
structure POK(p:cV):Prop where
 a:0<=p.eT/\p.eT<=4
 w:0<=p.eU/\p.eU<=3
theorem aaz(hp:POK p)(h:m.bp.length<=1000):uV p m=ς (yp p m):=by
 have h1:=hp.a
 have h2:=hp.w
 simp only[uV,ZT h,acH,yp,bJ (n:=p.eU-1) oaa,bJ (n:=p.eT+1) oaa,z1]
theorem aay(hp:POK p)(h:m.bp.length<=1000):uF p m=ς (yp p m):=by
 have h1:=hp.a
 have h2:=hp.w
 simp only[uF,ZS h,acH,yp,bJ (n:=p.eU-1) oaa,bJ (n:=p.eT+1) oaa,z1]
def mR(m:aZ)(c:Int):Int:=bif eV m c then(match m.bp[c.toNat]? with|some x=>x.fF|none=>0) else 0
def zz42(c:Int):aG:={fc with bu:=7,bh:=c}
def zz114(s:ag)(a:aj)(m:aZ):bR:=
 let r:=yp {s.f6 with fF:=mR m s.bh} m
 ⟨{s with f6:=r.1},a,r.2.map zz42,[]⟩
theorem zz108{L:Int×List aG->Option (ci (Int×List aG) (List aG))}(xs:List Int)(hl:xs.length<=10000)(hL:∀(v:Int) (r:List aG),L (v,r)=bif ltB v (xs.length:Int) then(acE (ix xs v) λx10=>bif cW 88 (r++[{fc with bu:=7,bh:=x10}]).length then(ς (.next (WR (v+1),(r++[{fc with bu:=7,bh:=x10}])))) else ξ) else(ς (.done r))):
 iter L FU (0,[])=ς (xs.map zz42):=by
 have hrun:=eG (step:=L) xs (λi r=>((i:Int),r)) (zz425 88 (λ_=>ζ) zz42) ς oaa
  (λi x r hx hi=>by
   simp only[hL,ct hi,bm,hx,WRs (k:=i),zz425,zz42,au]
   simp_all) (λr=>by simp[hL]) ([]:List aG)
 rw[zz433 oaa _ _ _ _ (by simp;omega)] at hrun
 refine Eq.trans (show iter L FU (0,[])=_ from hrun) (by rw[zz71,abO])
theorem zz46(h:m.bp.length<=1000):(yp p m).2.length<=1000:=by
 have hc:(zz431 m p.fF).length<=1000:=by
  simp only[zz431,List.length_map]
  have:=adf (λy:dY×Nat=>eqB y.1.fF p.fF) m.bp.zipIdx
  simp at this;omega
 rw[yp];cases ltB 0 p.eU
 .simp only[cond_false,zz41]
  cases eqB (bif ltB p.eT 4 then p.eT+1 else 1) 1&&ltB 0 (((zz431 m p.fF).length:Nat):Int)
  .cases inR (bif ltB p.eT 4 then p.eT+1 else 1) 1 4<;>simp[Us];omega
  exact hc
 simp
theorem page_s(h:SP s)(ha:kr a)(hp:POK s.f6)(hm:1<=m.bp.length/\m.bp.length<=1000):zF s a m=ς (zz114 s a m):=by
 have hz:({cB with bb:=s,eN:=a}:bR)=⟨s,a,[],[]⟩:=rfl
 have hin:(bif eV m s.bh then(acE (ix m.bp s.bh) λx4=>ς x4.fF) else ς 0)=ς (mR m s.bh):=by
  rw[mR]
  cases hc:eV m s.bh
  .rfl
  obtain⟨d,_,h1,h2⟩:=zz22 hc
  simp_all
 have hpp:POK {s.f6 with fF:=mR m s.bh}:=⟨hp.a,hp.w⟩
 have hr:=zz108 (L:=D7 (yp {s.f6 with fF:=mR m s.bh} m)) _ (by have:=zz46 (p:={s.f6 with fF:=mR m s.bh}) hm.2;omega) (λv r=>rfl)
 simp only[zF,t6,zz413 h.ok,zz19 ha.ok,zz355,acH,bJ (n:=(m.bp.length:Int)-1) oaa,hz]
 rw[show inR s.bh 0 ((m.bp.length:Int)-1)=eV m s.bh from rfl,hin]
 simp only[acH,aaz hpp hm.2,hr,zz114]
theorem page_i(hp:POK s.f6)(hm:1<=m.bp.length/\m.bp.length<=1000):uH s a m=ς (zz114 s a m):=by
 have hin:(bif eV m s.bh then(acE (EA m s.bh) λr3=>ς r3) else ς 0)=ς (mR m s.bh):=by
  rw[mR]
  cases hc:eV m s.bh
  .rfl
  obtain⟨d,_,h1,h2⟩:=zz22 hc
  simp only[EA,zz443 (show m.bp.length<=1048576 by omega),hc,h1,h2,au]
 have hpp:POK {s.f6 with fF:=mR m s.bh}:=⟨hp.a,hp.w⟩
 have hr:=zz108 (L:=yS (yp {s.f6 with fF:=mR m s.bh} m)) _ (by have:=zz46 (p:={s.f6 with fF:=mR m s.bh}) hm.2;omega) (λv r=>rfl)
 simp only[uH,zz443 (show m.bp.length<=1048576 by omega),hin,acH,aay hpp hm.2,hr,zz114]
def ga(s:ag)(a:aj):aj×cY:=bif leB s.gB.eB s.bX.eH then zz384 a s.bX else(a,s.bX)
def zz92(s:ag):Bool:=ltB 0 (s.aK.aF.length:Int)
def zz374(s:ag):Int:=bif zz92 s then lV 5 (s.dQ+1) else 0
def zz393(s:ag):List aD×Int:=bif zz92 s&&ltB 0 s.dL then([],s.dL-1) else bif zz92 s then(zz20 s,3) else([],s.dL)
def QT(s:ag)(a:aj)(m:aZ):bR:=
 let g:=ga s a
 let t:=iF 2 {s with dQ:=zz374 s,dL:=(zz393 s).2,bX:=g.2} g.1 []
 ⟨t.1,t.2.1,[],(zz393 s).1++t.2.2⟩
def kn(s:ag)(a:aj)(m:aZ):bR:=
 bif !eqB s.bz 1 then⟨s,a,[],[]⟩ else bif ltB 4 (zz374 s) then zz114 {s with dQ:=zz374 s,bX:=(ga s a).2} (ga s a).1 m else QT s a m
theorem zz156(h:SG s a):MOK (ga s a).1 (ga s a).2/\(ga s a).2.cP-(ga s a).2.eH=s.bX.cP-s.bX.eH/\(ga s a).2.aO=s.bX.aO/\(ga s a).1.eR+(ga s a).2.eH=a.eR+s.bX.eH/\(ga s a).1.gm=a.gm/\(ga s a).1.bK=a.bK:=by
 rw[ga]
 cases leB s.gB.eB s.bX.eH
 .exact⟨h.mo,rfl,rfl,rfl,rfl,rfl⟩
 obtain⟨h1,h2,h3,h4⟩:=zz244 h.mo
 simp only[cond_true]
 exact⟨h1,by simp[zz384],rfl,by rw[h2];simp[zz384],h3,h4⟩
theorem zz38(h:SP s):0<=zz374 s/\zz374 s<=5:=by
 have:=h.qu
 rw[zz374];cases zz92 s
 .simp
 simp only[cond_true,lV];omega
theorem zz31(h:SP s):0<=(zz393 s).2/\(zz393 s).2<=3:=by
 have:=h.rt
 rw[zz393];cases zz92 s
 .exact this
 cases hb:ltB 0 s.dL
 .simp
 have:=zz369 hb
 simp;omega
theorem SG.upd(h:SG s a){q r:Int}(hq:0<=q/\q<=5)(hr:0<=r/\r<=3):SG {s with dQ:=q,dL:=r,bX:=(ga s a).2} (ga s a).1:=by
 obtain⟨h1,h2,_⟩:=zz156 h
 have hp:=h.sp.pd
 exact⟨{h.sp with q:=h1.quo,qu:=hq,rt:=hr,pd:=by simp_all},h.b1,h.b2,h1⟩
theorem zz241(s:ag):(zz20 s).length<=2:=by
 rw[zz20];grind
theorem Dw(s:ag):(zz393 s).1.length<=2:=by
 have:=zz241 s
 rw[zz393];grind
theorem zz10:∀(k:Nat) (s:ag) (a:aj) (r:List aD),(iF k s a r).2.2.length<=r.length+k
 |0,s,a,r=>by simp[iF]
 |k+1,s,a,r=>by
  rw[iF]
  cases zz450 s with
  |none=>simp
  |some x=>
   simp only
   cases ltB 0 (pu (d9 s a (x.bk.length:Int)).1 (x.bk.length:Int))
   .have:=zz10 k {(d9 s a (x.bk.length:Int)).1 with aK:=AL (d9 s a (x.bk.length:Int)).1.aK x.bk} (d9 s a (x.bk.length:Int)).2 (r++[zz375 (d9 s a (x.bk.length:Int)).1.bg (d9 s a (x.bk.length:Int)).1.ah (d9 s a (x.bk.length:Int)).1.aY ⟨(d9 s a (x.bk.length:Int)).1.aK.bB,x.bk⟩])
    grind
   simp_all
theorem aaB(h:SG s a)(hm:1<=m.bp.length/\m.bp.length<=1000)(hp:POK s.f6):sX s a m=ς (kn s a m):=by
 have hz:({cB with bb:=s,eN:=a}:bR)=⟨s,a,[],[]⟩:=rfl
 have hqu:=h.sp.qu
 have hrt:=h.sp.rt
 simp only[sX,zE,t6,zz413 h.sp.ok,zz19 h.mo.acc.ok,DF h.sp.ok,(zz419 h.sp.ok).2 h.sp,acH,hz,kn]
 cases hs:eqB s.bz 1
 .rfl
 have hst:=zz424 hs
 have hq:=zz38 h.sp
 have hr:=zz31 h.sp
 have hqq:∀(k:Int->Option bR),(acE (bif ltB 0 (s.aK.aF.length:Int) then(acE (GM 5 (WR (s.dQ+1))) λr9=>ς r9) else ς 0) k)=k (zz374 s):=λk=>by
  rw[zz374,zz92,bJ (n:=s.dQ+1) oaa,zz178]
  grind
 have hrr:∀(u:cY) (k:List aD×Int->Option bR),SG {s with dQ:=zz374 s,dL:=3,bX:=u} (ga s a).1->
  (acE (bif ltB 0 (s.aK.aF.length:Int) then ς (ltB 0 s.dL) else ς η) λ(v11:Bool)=>acE (bif v11 then(ς (([]:List aD),WR (s.dL-1))) else(acE (bif ltB 0 (s.aK.aF.length:Int) then(acE (oA {s with dQ:=zz374 s,dL:=3,bX:=u}) λr16=>ς (r16,3)) else(ς (([]:List aD),s.dL))) λx=>ς (x.1,x.2))) k)=k ((zz393 s).1,(zz393 s).2):=λu k hu=>by
  rw[zz393,zz92,bJ (n:=s.dL-1) oaa,zz310 hu]
  cases ltB 0 (s.aK.aF.length:Int)<;>cases ltB 0 s.dL<;>rfl
 have hl:cW 64 ((zz393 s).1++(iF 2 {s with dQ:=zz374 s,dL:=(zz393 s).2,bX:=(ga s a).2} (ga s a).1 []).2.2).length=true:=by
  have h1:=Dw s
  have h2:=zz10 2 {s with dQ:=zz374 s,dL:=(zz393 s).2,bX:=(ga s a).2} (ga s a).1 []
  simp only[ac1] at h2
  exact zz343 oaa (by simp;omega)
 have hu:=h.upd hq (show(0:Int)<=3/\(3:Int)<=3 by omega)
 have hv:=h.upd hq hr
 have hw:=h.upd hq h.sp.rt
 have hpp:POK ({s with dQ:=zz374 s,bX:=(ga s a).2}:ag).f6:=hp
 have e1:=page_s (s:={s with dQ:=zz374 s,bX:=(ga s a).2}) hw.sp hw.mo.acc hpp hm
 have e2:=zz251 hv hst
 rw[ga] at hu e1 e2 hl
 simp only[au]
 rw[QT,ga]
 cases hg:leB s.gB.eB s.bX.eH
 .rw[hg] at hu e1 e2 hl
  simp only[cond_false] at hu e1 e2 hl ⊢
  have hu':=hrr s.bX
  rw[ga,hg] at hu'
  rw[hqq]
  cases ltB 4 (zz374 s)
  .simp_all
  simp_all
 rw[hg] at hu e1 e2 hl
 simp only[cond_true] at hu e1 e2 hl ⊢
 have hu':=hrr (zz384 a s.bX).2
 rw[ga,hg] at hu'
 simp only[zz275 h.mo,acH]
 rw[hqq]
 cases ltB 4 (zz374 s)
 .simp_all
 simp_all
theorem zz248(x y:Int):lV x y=lV y x:=by unfold lV;omega
theorem aaA(h:SG s a)(hm:1<=m.bp.length/\m.bp.length<=1000)(hp:POK s.f6):sB s a m=ς (kn s a m):=by
 have hz:({cB with bb:=s,eN:=a}:bR)=⟨s,a,[],[]⟩:=rfl
 have hqu:=h.sp.qu
 have hrt:=h.sp.rt
 simp only[sB,zz455 h.sp.ok,Db h.mo.acc.ok,DE h.sp.ok,(zz419 h.sp.ok).2 h.sp,hz,kn,au]
 cases hs:eqB s.bz 1
 .rfl
 have hst:=zz424 hs
 have hq:=zz38 h.sp
 have hr:=zz31 h.sp
 have hu:=h.upd hq (show(0:Int)<=3/\(3:Int)<=3 by omega)
 have hv:=h.upd hq hr
 have hgr:(bif leB s.gB.eB s.bX.eH then(acE (o3 a s.bX) λr14=>ς ({s with bX:=r14.2},r14.1)) else ς (s,a))=ς ({s with bX:=(ga s a).2},(ga s a).1):=by
  rw[ga,W6 h.mo];cases leB s.gB.eB s.bX.eH<;>rfl
 have hqq:(bif ltB 0 (s.aK.aF.length:Int) then(acE (RX (WR (s.dQ+1)) 5) λr9=>ς r9) else ς 0)=ς (zz374 s):=by
  rw[zz374,zz92,bJ (n:=s.dQ+1) oaa,V7,zz248]
  cases ltB 0 (s.aK.aF.length:Int)<;>rfl
 have hl:cW 64 ((zz393 s).1++(iF 2 {s with dQ:=zz374 s,dL:=(zz393 s).2,bX:=(ga s a).2} (ga s a).1 []).2.2).length=true:=by
  have h1:=Dw s
  have h2:=zz10 2 {s with dQ:=zz374 s,dL:=(zz393 s).2,bX:=(ga s a).2} (ga s a).1 []
  simp only[ac1] at h2
  exact zz343 oaa (by simp;omega)
 have hpp:POK ({s with dQ:=zz374 s,bX:=(ga s a).2}:ag).f6:=hp
 have e1:=page_i (s:={s with dQ:=zz374 s,bX:=(ga s a).2}) (a:=(ga s a).1) hpp hm
 have e2:=zz250 hv hst
 simp only[hgr,hqq,au]
 cases ltB 4 (zz374 s)
 .simp only[cond_false,QT]
  have hrr2:∀(k:List aD×Int->Option bR),(acE (bif ltB 0 (s.aK.aF.length:Int) then ς (ltB 0 s.dL) else ς η) λ(v11:Bool)=>acE (bif v11 then(ς (([]:List aD),WR (s.dL-1))) else(acE (bif ltB 0 (s.aK.aF.length:Int) then(acE (qS {s with dQ:=zz374 s,dL:=3,bX:=(ga s a).2}) λr16=>ς (r16,3)) else(ς (([]:List aD),s.dL))) λx=>ς (x.1,x.2))) k)=k (zz393 s):=λk=>by
   rw[zz393,zz92,bJ (n:=s.dL-1) oaa,zz309 hu]
   cases ltB 0 (s.aK.aF.length:Int)<;>cases ltB 0 s.dL<;>rfl
  simp_all
 simp only[e1,au]
 rfl
structure RP(r:aM):Prop where
 ok:zz351 r
 v:zz379 r=ζ
 b1:∀x∈r.aA,okB x.bk
 b2:∀p∈r.bi,okB p.bk
structure DP(d:aC):Prop where
 card:ui d.dO=ζ
 st:0<=d.bz/\d.bz<=3
 ce:0<=d.bh/\d.bh<=5
 gn:0<=d.ah/\d.ah<=999999
 ep:0<=d.aY/\d.aY<=999999
 rk:0<=d.bg/\d.bg<=2147483646
 k:2<=d.bz->p6 d.bg=ζ
 wt:0<=d.eU/\d.eU<=3
 rc:RP d.bW
theorem DP.ok{d:aC}(h:DP d):zz349 d:=h.rc.ok
theorem DP.v{d:aC}(h:DP d):zz380 d=true:=by
 have:=h.st
 simp only[zz380,hV,bU]
 refine⟨h.card,h.st,h.ce,h.gn,h.ep,h.rk,?_,h.wt,h.rc.v⟩
 cases e:inR d.bz 2 3
 .rfl
 rw[bU] at e;rw[h.k e.1];rfl
theorem DP.of{d:aC}(h:zz380 d=ζ)(ok:zz349 d)(b1:∀x∈d.bW.aA,okB x.bk)(b2:∀p∈d.bW.bi,okB p.bk):DP d:=by
 simp only[zz380,hV,bU] at h
 obtain⟨h1,h2,h3,h4,h5,h6,h7,h8,h9⟩:=h
 refine⟨h1,h2,h3,h4,h5,h6,λe=>?_,h8,⟨ok,h9,b1,b2⟩⟩
 rw[bU.2 ⟨e,h2.2⟩] at h7;simp_all
theorem zz164{d:aC}(h:DP d):DP (zz397 d).bj:=by
 have hw:=h.wt
 rw[zz397]
 cases hb:ltB 0 d.eU
 .cases eqB d.bz 1
  .cases eqB d.bz 2&&!d.cj
   .exact h
   exact {h with wt:=⟨by simp,by simp⟩}
  exact {h with wt:=⟨by simp,by simp⟩}
 have:=zz369 hb
 exact {h with wt:=⟨by grind,by grind⟩}
theorem US{d:aC}(h:DP d):DP (dOn d).bj:=by
 rw[dOn]
 cases eqB d.bz 0
 .exact h
 exact {h with st:=⟨by simp,by simp⟩,wt:=⟨by simp,by simp⟩,k:=λe=>by simp at e}
theorem zz124{d:aC}(h:DP d):DP (yr d).bj:={h with wt:=⟨by simp[yr],by simp[yr]⟩}
theorem Fw{d:aC}(h:DP d)(c:Int):DP (vW d c).bj:=by
 have he:=h.ep
 rw[vW]
 cases h1:eqB c d.bh||!inR c 0 5
 .simp only[aaQ,acN] at h1
  have hc:=bU.1 h1.2
  cases h2:eqB d.bz 2&&ltB d.aY 999999
  .exact {h with ce:=hc}
  rw[hV] at h2
  have:=zz369 h2.2
  exact zz124 {h with ce:=hc,ep:=⟨by grind,by grind⟩}
 exact h
theorem zz162{d:aC}(h:DP d):DP (zz6 d):=by
 rw[zz6]
 cases e:eqB d.bz 2
 .exact h
 have e:=zz424 e
 exact {h with st:=⟨by simp,by simp⟩,k:=λ_=>h.k (by omega)}
theorem zz238{k r q:Int}(h0:0<=q)(h1:q<=999999):1<=(vec k r q).fA/\(vec k r q).fA<=2147483646:=by
 rw[vec,bU.2 ⟨h0,h1⟩];exact zz317 _ _
theorem zz8{m:aG}(h:zz391 m=ζ):(1<=m.bu/\m.bu<=8)/\(0<=m.bh/\m.bh<=5)/\(0<=m.ah/\m.ah<=999999)/\(0<=m.aY/\m.aY<=999999)/\0<=m.bZ/\m.bZ<=1000000000000:=by
 simp only[zz391,hV,bU] at h;exact h
theorem Y5{d:aC}(h:DP d){m:aG}(hm:zz391 m=ζ)(h1:d.bz=1):DP (JF d m).bj:=by
 obtain⟨_,_,hg,_⟩:=zz8 hm
 have hu:=zz198 d.dO.fA m.b8.ez m.b8.f7
 have hk:=zz238 (k:=d.dO.fA) (r:=m.b8.ez) hu.1 hu.2
 rw[JF]
 cases eqB (zz418 d.dO.fA d.dO.c8 m.b8) 0
 .exact h
 refine {h with card:=?_,gn:=hg,rk:=⟨by grind,by simp_all⟩,k:=λe=>by simp_all}
 have hc:=h.card
 simp only[ui,hV] at hc ⊢
 exact⟨hc.1,hc.2.1,bU.2 hu⟩
theorem zz125{d:aC}(h:DP d)(m:aG):DP (zz435 d m).bj:=by
 have he:=h.ep
 rw[zz435]
 cases h1:!zz391 m||(!eqB m.bh d.bh||eqB d.bz 0)
 .have hm:zz391 m=true:=by revert h1;cases zz391 m<;>simp
  obtain⟨_,_,hg,hep,_⟩:=zz8 hm
  simp only[cond_false]
  cases h2:eqB m.bu 2&&eqB d.bz 1
  .simp only[cond_false]
   cases h4:eqB m.bu 4&&(eqB d.bz 1&&(p6 d.bg&&(eqB m.ah d.ah&&zz414 d.bg m)))
   .simp only[cond_false]
    cases h6:eqB m.bu 6&&(eqB d.bz 2&&(eqB m.ah d.ah&&(eqB m.aY d.aY&&zz414 d.bg m)))
    .simp only[cond_false]
     cases h7:eqB m.bu 7&&(eqB d.bz 3&&ltB d.aY 999999)
     .simp only[cond_false]
      cases h8:eqB m.bu 7&&eqB d.bz 2
      .exact h
      exact zz124 h
     simp only[hV] at h7
     have h3:=zz424 h7.2.1
     have:=zz369 h7.2.2
     exact zz124 {h with st:=⟨by simp,by simp⟩,ep:=⟨by grind,by grind⟩,k:=λ_=>h.k (by omega)}
    exact {h with}
   simp only[hV] at h4
   exact {h with st:=⟨by simp,by simp⟩,ep:=hep,k:=λ_=>h4.2.2.1}
  rw[hV] at h2
  exact Y5 h hm (zz424 h2.2)
 exact h
theorem zz69:∀(xs:List ab) (n:Int) (dl:List bI),∃t d,xs=t++d/\zz382 xs n dl=⟨n+t.length,d,dl++t.map λx=>⟨x.bk⟩⟩/\(∀(k:Nat) (x:ab),t[k]?=ς x->x.cX=n+k)/\((∃y ys,d=y::ys/\(y.cX≠n+t.length\/24<=dl.length+t.length))\/d=[])/\(t≠[]->dl.length+t.length<=24)
 |[],n,dl=>⟨[],[],rfl,by simp[zz382],by simp,.inr rfl,by simp⟩
 |x::xs,n,dl=>by
  rw[zz382]
  by_cases h:x.cX=n/\dl.length<24
  .rw[if_pos h]
   obtain⟨t,d,e1,e2,e3,e4,e5⟩:=zz69 xs (n+1) (dl++[⟨x.bk⟩])
   refine⟨x::t,d,by rw[e1];rfl,?_,λk y hy=>?_,?_,λ_=>?_⟩
   .rw[e2];simp;omega
   .cases k with
    |zero=>simp_all
    |succ k=>grind
   .grind
   simp only[aaS]
   by_cases ht:t=[]
   .grind
   grind
  rw[if_neg h]
  refine⟨[],x::xs,rfl,by simp,by simp,.inl ⟨x,xs,rfl,?_⟩,by simp⟩
  grind
structure RcV(r:aM):Prop where
 n:r.bB=(r.bi.length:Int)+1
 l:r.bi.length<=24
 d:∀p∈r.bi,p.bk.length<=60
 pl:r.aA.length<=8
 pr:∀x∈r.aA,r.bB+1<=x.cX/\x.cX<=r.bB+7/\x.bk.length<=60
 po:r.aA.Pairwise λx y=>x.cX<y.cX
theorem Xd:zz379 r=ζ↔RcV r:=by
 constructor
 .intro h
  have hl:=lG h
  simp only[zz379,hV,AO,aaM,zz427,eO] at h
  obtain⟨h1,h2,h3,h4,h5⟩:=h
  have hp:∀(k:Nat) (x:ab),r.aA[k]?=ς x->(r.bB+1<=x.cX/\x.cX<=r.bB+7)/\ku ab.cX r.aA k x=ζ/\x.bk.length<=60:=λk x hx=>by
   have:=h5 k x hx
   simp only[Cu,hV,bU,zz427] at this
   rw[bJ (n:=r.bB+1) oaa,bJ (n:=r.bB+8) oaa,bJ (n:=r.bB+8-1) oaa] at this
   grind
  refine⟨hl.1,hl.2.1,h3,hl.2.2,λx hx=>?_,zz117 λk x hx=>(hp k x hx).2.1⟩
  obtain⟨k,hk⟩:=aaP hx
  grind
 rintro⟨h1,h2,h3,h4,h5,h6⟩
 simp only[zz379,hV,AO,aaM,zz427,eO]
 refine⟨eqB_t.2 (by rw[bJ oaa];exact h1),leB_t.2 oaa,h3,leB_t.2 oaa,λk x hx=>?_⟩
 have:=h5 x (zz326 hx)
 simp only[Cu,hV,bU,zz427]
 rw[bJ (n:=r.bB+1) oaa,bJ (n:=r.bB+8) oaa,bJ (n:=r.bB+8-1) oaa]
 exact⟨by omega,EH h6 hx,this.2.2⟩
theorem Pc{α:Type}{key:α->Int}:∀{xs:List α} {a b:Int},(xs.Pairwise λx y=>key x<key y)->(∀x∈xs,a<=key x/\key x<=b)->(xs.length:Int)<=max 0 (b-a+1)
 |[],a,b,_,_=>by simp;omega
 |x::xs,a,b,h,hr=>by
  have hx:=hr x (by simp)
  have ih:=Pc (xs:=xs) (a:=key x+1) (b:=b) (acM.1 h).2 λy hy=>⟨by have:=(acM.1 h).1 y hy;omega,(hr y (by simp[hy])).2⟩
  grind
theorem dw_ge{x:ab}:∀{xs:List ab},(xs.Pairwise λa b=>a.cX<b.cX)->∀y∈xs.dropWhile (before x.cX),x.cX<=y.cX
 |[],_,y,hy=>by simp at hy
 |z::xs,h,y,hy=>by
  rw[adh] at hy
  cases hb:before x.cX z<;>rw[hb] at hy
  .have hz:=zz412 hb
   rcases aaK.1 hy with e|hy
   .simp_all
   have:=(acM.1 h).1 y hy;omega
  exact dw_ge (acM.1 h).2 y hy
theorem zz298{α:Type}(p:α->Bool):∀(xs:List α) (y:α),y∈xs.takeWhile p->p y=ζ
 |[],y,h=>by simp at h
 |x::xs,y,h=>by
  rw[acY] at h
  cases hp:p x<;>rw[hp] at h
  .simp at h
  rcases aaK.1 h with e|h
  .simp_all
  exact zz298 p xs y h
theorem tw_lt{q:Int}{xs:List ab}:∀y∈xs.takeWhile (before q),y.cX<q:=λy hy=>zz369 (show ltB y.cX q=ζ from zz298 (before q) xs y hy)
theorem zz269{xs:List ab}(h:xs.Pairwise λa b=>a.cX<b.cX)(hn:∀y∈xs,y.cX≠x.cX):(zz381 x xs).Pairwise λa b=>a.cX<b.cX:=by
 have e:=ac2 (p:=before x.cX) (l:=xs)
 rw[<-e,acS] at h
 obtain⟨h1,h2,h3⟩:=h
 rw[zz381,acl,acS]
 refine⟨h1,acM.2 ⟨λy hy=>?_,h2⟩,λa ha b hb=>?_⟩
 .have hm:y∈xs:=ac4 _ hy
  have:=hn y hm
  have hge:x.cX<=y.cX:=by
   have hs:xs.Pairwise λa b=>a.cX<b.cX:=by rw[<-e,acS];exact⟨h1,h2,h3⟩
   exact dw_ge hs y hy
  omega
 rcases aaH.1 hb with hb|hb
 .simp at hb;subst hb;exact tw_lt a ha
 simp_all
theorem zz86{y:ab}{xs:List ab}:y∈zz381 x xs↔y=x\/y∈xs:=by
 rw[zz381]
 constructor
 .intro h
  simp only[aaH,abQ] at h
  rcases h with(h|h)|h
  .exact .inr (ade _ h)
  .exact .inl h
  exact .inr (ac4 _ h)
 rintro(h|h)
 .simp[h]
 rw[<-ac2 (p:=before x.cX) (l:=xs)] at h
 grind
theorem OV(h:RcV r)(hl:zz437 r x=η):
 ∃t d,zz381 x r.aA=t++d/\(∀(k:Nat) (y:ab),t[k]?=ς y->y.cX=r.bB+k)/\(zz395 r x).bB=r.bB+t.length/\(zz395 r x).bi=r.bi++t.map (λy=>⟨y.bk⟩)/\RcV (zz395 r x)/\
  ((zz395 r x).aA=d\/(zz395 r x).aA=[])/\r.bi.length+t.length<=24/\(x.cX=r.bB->t≠[]):=by
 obtain⟨t,d,e1,e2,e3,e4,e5⟩:=zz69 (zz381 x r.aA) r.bB r.bi
 have hl2:=hl
 simp only[zz437,aaQ,acN] at hl
 obtain⟨l1,l2,l3,l4,l5⟩:=hl
 have l2:=zz412 l2
 rw[bU] at l3
 have l5:=zz472 l5
 have hn:∀y∈r.aA,y.cX≠x.cX:=λy hy=>by
  simp_all
 have hasc:=zz269 h.po hn
 have hrng:∀y∈zz381 x r.aA,r.bB<=y.cX/\y.cX<=r.bB+7/\y.bk.length<=60:=λy hy=>by
  rcases zz86.1 hy with rfl|hy
  .omega
  have:=h.pr y hy;omega
 have hlen:=Pc (key:=ab.cX) hasc (a:=r.bB) (b:=r.bB+7) λy hy=>⟨(hrng y hy).1,(hrng y hy).2.1⟩
 have htl:r.bi.length+t.length<=24:=by
  by_cases ht:t=[]
  .grind
  exact e5 ht
 have hd:∀y∈d,r.bB+t.length<=y.cX:=λy hy=>by
  by_cases ht:t=[]
  .simp_all
  obtain⟨k,hk⟩:∃k,t.length=k+1:=⟨t.length-1,by have:=List.length_pos_iff.2 ht;omega⟩
  grind
 have hdl:(r.bi++t.map λy=>(⟨y.bk⟩:bI)).length=r.bi.length+t.length:=by simp
 have hdata:∀p∈r.bi++t.map λy=>(⟨y.bk⟩:bI),p.bk.length<=60:=λp hp=>by
  rcases aaH.1 hp with hp|hp
  .exact h.d p hp
  obtain⟨y,hy,rfl⟩:=abN.1 hp
  simp_all
 have hnx:=h.n
 have hsome:x.cX=r.bB->t≠[]:=λe ht=>by
  subst ht
  simp only[abO] at e1
  rcases e4 with⟨y,ys,e,h4⟩|e
  .simp only[ac1] at h4
   have hy:y.cX<=x.cX:=by
    have hx:x∈d:=by rw[<-e1];exact zz86.2 (.inl rfl)
    rw[e] at hx
    rcases aaK.1 hx with e'|hx
    .simp_all
    rw[e1,e] at hasc
    have:=(acM.1 hasc).1 x hx
    omega
   grind
  have:(zz381 x r.aA).length=0:=by rw[e1,e];rfl
  rw[zz468] at this;omega
 refine⟨t,d,e1,e3,?_⟩
 rw[zz395,hl2]
 simp only[cond_false,e2,hdl]
 cases h24:leB 24 ((r.bi.length+t.length:Nat):Int)
 .have h24:=zz472 h24
  simp only[cond_false]
  refine⟨θ,θ,⟨by grind,by simp_all,hdata,?_,λy hy=>?_,?_⟩,.inl trivial,htl,hsome⟩
  .grind
  .have h1:=hrng y (by simp_all)
   have h2:=hd y hy
   refine⟨?_,by grind,h1.2.2⟩
   simp only
   rcases e4 with⟨z,zs,e,h4⟩|e
   .have hz:=hd z (by rw[e];simp)
    have hzn:z.cX≠r.bB+t.length:=by rcases h4 with h4|h4;exact h4;omega
    rw[e] at hy
    rcases aaK.1 hy with e'|hy'
    .grind
    rw[e1,e,acS] at hasc
    have:=(acM.1 hasc.2.1).1 y hy'
    omega
   simp_all
  grind
 have h24:=y3 h24
 simp only[cond_true]
 exact⟨θ,θ,⟨by grind,by simp_all,hdata,by simp,by simp,.nil⟩,.inr trivial,htl,hsome⟩
theorem M3(h:RP r)(hx:okB x.bk):RP (zz395 r x):=by
 cases hl:zz437 r x
 .have hv:=Xd.1 h.v
  obtain⟨t,d,e1,e3,e4,e5,e6,e7,e8,e9⟩:=OV hv hl
  have hb:∀y∈t++d,okB y.bk:=λy hy=>by
   rw[<-e1] at hy
   rcases zz86.1 hy with rfl|hy
   .exact hx
   exact h.b1 y hy
  refine⟨M4 h.ok x,Xd.2 e6,λy hy=>?_,λp hp=>?_⟩
  .grind
  rw[e5] at hp
  rcases aaH.1 hp with hp|hp
  .exact h.b2 p hp
  grind
 rw[zz395,hl];exact h
theorem zz278(root g e:Int)(x:aD):okB (yl root g e x).1.bk:=by
 rw[yl];split
 .exact zz308 _ _
 intro y hy;simp[bY] at hy
theorem zz213{d:aC}(h:DP d)(x:aD):DP (zz434 d x).bj:=by
 simp only[zz434]
 cases eqB d.bz 2&&(yl d.bg d.ah d.aY x).2
 .exact h
 exact {h with rc:=M3 h.rc (zz278 _ _ _ _)}
theorem zz313:jO ev=true:=by decide+kernel
theorem Iw{k:Int}:∀{xs:List ab} {f:Int},(∀(i:Nat) (x:ab),xs[i]?=ς x->x.cX=f+i)->(xs.filter λx=>leB k x.cX)=xs.drop (k-f).toNat
 |[],f,_=>by simp
 |x::xs,f,h=>by
  have hx:x.cX=f:=by have:=h 0 x rfl;simpa using this
  have ih:=Iw (k:=k) (xs:=xs) (f:=f+1) λi y hy=>by have:=h (i+1) y (by simp_all);omega
  rw[adl,hx]
  by_cases hk:k<=f
  .rw[leB_t.2 hk,if_pos rfl,ih,show(k-f).toNat=0 by omega,show(k-(f+1)).toNat=0 by omega];rfl
  rw[leB_f.2 oaa,if_neg (by simp),ih,show(k-f).toNat=(k-(f+1)).toNat+1 by omega];rfl
theorem Ru(h:WOK w){k:Int}(hk:ltB w.bB k=η):zz388 w k=⟨w.bB,w.aF.drop (k-(w.bB-w.aF.length)).toNat⟩:=by
 rw[zz388,hk,Iw (f:=w.bB-w.aF.length) λi x hx=>(h.u i x hx).1];rfl
theorem Fb(h:WOK w)(k:Int):WOK (zz388 w k):=by
 cases hk:ltB w.bB k
 .have hl:=h.l
  have hf:=h.f
  have hn:=h.n
  rw[Ru h hk]
  generalize (k-(w.bB-w.aF.length)).toNat=m
  refine⟨hn,by simp;omega,by simp;omega,λi x hx=>?_⟩
  simp only at hx ⊢
  rw[List.getElem?_drop] at hx
  have hi:=(zz334.1 hx).1
  have:=h.u _ x hx
  grind
 rw[zz388,hk];exact h
theorem Fc(w:aV)(k:Int):∀x∈(zz388 w k).aF,x∈w.aF:=λx hx=>by
 rw[zz388] at hx;grind
theorem Ur(h:WOK w)(k:Int):0<=zz367 (zz388 w k).aF/\zz367 (zz388 w k).aF<=zz367 w.aF:=by
 have h1:=xY λx hx=>h.d x (Fc w k x hx)
 refine⟨h1.1,?_⟩
 cases hk:ltB w.bB k
 .have:=zz129 h hk
  have h2:=xY (xs:=w.aF.filter λx=>ltB x.cX k) λx hx=>h.d x (acX.1 hx).1
  omega
 rw[zz388,hk];simp_all
theorem NH{n:Int}(h:0<=n/\n<=q.cP-q.eH):uw q n={q with eH:=q.eH+n}:=by rw[uw,bU.2 h];rfl
theorem zz247(h:SG s a)(k:Int):SG (zz403 s k) a/\(zz403 s k).bX={s.bX with eH:=s.bX.eH+(zz367 s.aK.aF-zz367 (zz388 s.aK k).aF)}:=by
 have hs:=Ur h.sp.win k
 have hp:=h.sp.pd
 have hq:=h.sp.q
 have e:(zz403 s k).bX={s.bX with eH:=s.bX.eH+(zz367 s.aK.aF-zz367 (zz388 s.aK k).aF)}:=NH ⟨by omega,by omega⟩
 have hu:=hq.u
 have hg:=hq.g
 have hq':QOK (zz403 s k).bX:=by rw[e];exact⟨hq.i,by grind,by grind,hq.m⟩
 refine⟨⟨{h.sp with ok:=⟨h.sp.ok.1,h.sp.ok.2.1,(Fb h.sp.win k).ok⟩,win:=Fb h.sp.win k,q:=hq',qu:=⟨by simp[zz403],by simp[zz403]⟩,nx:=?_,un:=λx hx=>h.sp.un x (Fc _ _ x hx),pd:=?_},h.b1,λx hx=>h.b2 x (Fc _ _ x hx),⟨h.mo.acc,hq',?_⟩⟩,e⟩
 .have:(zz403 s k).aK.bB=s.aK.bB:=by simp only[zz403,zz388];cases ltB s.aK.bB k<;>rfl
  rw[this];exact h.sp.nx
 .rw[e];simp only[zz403];omega
 rw[e];exact h.mo.res
theorem zz220(h:SG s a)(m:aG):SG (zz83 s m).bb a:=by
 have hr:=Kt h.sp.rcd
 simp only[zz83]
 cases he:eqB s.bT.cX 999999
 .have he:=zz186 he
  have hk:=zz238 (k:=s.bT.fA) (r:=zz93 s.bT.ID (s.bT.cX+1)) (q:=s.bT.cX+1) oaa oaa
  refine⟨{h.sp with rcd:=?_,k2:=λ_=>?_,ps:=⟨by grind,by grind⟩},h.b1,h.b2,h.mo⟩
  .have hc:=h.sp.rcd
   simp only[zz429,hV] at hc
   simp only[cond_false,zz429,hV]
   exact⟨hc.1,hc.2.1,bU.2 oaa⟩
  exact bU.2 hk
 exact h
theorem zz219(h:SG s a){c:Int}(hc:0<=c/\c<=5)(hp:0<s.bG)(he:s.aY<999999):SG (zz477 s c) a:=by
 have hk:=h.sp.k2 hp
 have hkr:=bU.1 hk
 have hep:=h.sp.ep
 exact⟨{h.sp with page:=zz313,st:=⟨by simp[zz477],by simp[zz477]⟩,k1:=λ_=>hk,k2:=λe=>by simp[zz477] at e,ps:=⟨by simp[zz477],by simp[zz477]⟩,gn:=h.sp.ps,ep:=⟨by simp only[zz477];omega,by simp only[zz477];omega⟩,rk:=⟨by simp only[zz477];omega,by simp only[zz477];omega⟩,ce:=hc,qu:=⟨by simp[zz477],by simp[zz477]⟩},h.b1,h.b2,h.mo⟩
theorem zz304(h:SG s a){m:aG}(hm:zz391 m=ζ):SG (zo s m).bb a:=by
 obtain⟨_,hc,_⟩:=zz8 hm
 rw[zo]
 cases hb:leB s.bG 0||(!eqB m.ah s.bG||(!eqB m.bZ s.aA.vP||leB 999999 s.aY))
 .simp only[aaQ] at hb
  exact zz219 h hc (zz472 hb.1) (zz472 hb.2.2.2)
 exact h
theorem zz303(h:SG s a){m:aG}(hm:zz391 m=ζ):SG (CF s m).bb a:=by
 obtain⟨_,hc,_,he,_⟩:=zz8 hm
 rw[CF]
 cases !wj s m||(ltB m.aY s.aY||(eqB m.aY s.aY&&!eqB m.bh s.bh))
 .exact⟨{h.sp with page:=zz313,ep:=he,ce:=hc,qu:=⟨by simp[xF],by simp[xF]⟩,rt:=⟨by simp[xF],by simp[xF]⟩},h.b1,h.b2,h.mo⟩
 exact h
theorem Z8(h:SG s a)(m:aG):SG (zz137 s m).bb a:=by
 rw[zz137]
 cases !wj s m||ltB s.aK.bB m.bZ
 .exact(zz247 h m.bZ).1
 exact h
theorem sUp_SG(h:SG s a)(m:aG):SG (sUp s m).bb a:=by
 rw[sUp]
 cases hm:zz391 m
 .exact h
 cases eqB m.bu 1
 .cases eqB m.bu 3
  .cases eqB m.bu 5
   .cases eqB m.bu 8
    .exact h
    exact Z8 h m
   exact zz303 h hm
  exact zz304 h hm
 exact zz220 h m
theorem zz301(h:SG s a):SG (zz394 s) a:=
 ⟨{h.sp with page:=zz313,k2:=λe=>by simp[zz394] at e,ps:=⟨by simp[zz394],by simp[zz394]⟩,qu:=⟨by simp[zz394],by simp[zz394]⟩,rt:=⟨by simp[zz394],by simp[zz394]⟩},h.b1,h.b2,h.mo⟩
theorem zz221(h:SG s a){b:List Int}(hb:okB b):SG (yy s b).1 a:=by
 rw[yy]
 cases h1:leB 24 (s.aS.length:Int)||ltB 60 (b.length:Int)
 .simp only[aaQ] at h1
  have h2:=zz472 h1.1
  have h3:=zz412 h1.2
  have hnx:=h.sp.nx
  refine⟨{h.sp with ok:=⟨h.sp.ok.1,⟨by simp;omega,λp hp=>?_⟩,h.sp.ok.2.2⟩,sl:=by simp;omega,sd:=λp hp=>?_,nx:=by simp;omega,un:=λx hx=>?_},λp hp=>?_,h.b2,h.mo⟩
  .rcases aaH.1 hp with hp|hp
   .exact h.sp.ok.2.1.2 p hp
   simp at hp;subst hp;exact⟨by grind,λ_ _=>trivial⟩
  .rcases aaH.1 hp with hp|hp
   .exact h.sp.sd p hp
   grind
  .have hu:=h.sp.un x hx
   have hs:=OY h.sp.win hx
   simp only[DI,cond_false] at hu ⊢
   rw[zz327 oaa]
   exact hu
  rcases aaH.1 hp with hp|hp
  .exact h.b1 p hp
  simp_all
 exact h
theorem zz297(ha:0<=p.fF/\p.fF<=2)(hp:POK p)(m:aZ):jO (yp p m).1=true:=by
 have h1:=hp.a
 have h2:=hp.w
 rw[yp]
 simp only[jO,hV,bU]
 cases hb:ltB 0 p.eU
 .simp only[cond_false]
  refine⟨ha,?_,by omega⟩
  cases hc:ltB p.eT 4
  .simp
  have:=zz369 hc
  grind
 have:=zz369 hb
 grind
theorem Gt(h:jO p=ζ):POK p:=by
 simp only[jO,hV,bU] at h;exact⟨h.2.1,h.2.2⟩
theorem Rx(h:zz410 m=ζ)(c:Int):0<=mR m c/\mR m c<=2:=by
 rw[mR]
 cases hc:eV m c
 .simp
 obtain⟨d,_,_,h2⟩:=zz22 hc
 simp only[zz410,hV,eO] at h
 have:=h.2 _ d h2
 simp only[C5,hV,bU] at this
 simp_all
theorem Xq(h:SG s a)(hm:zz410 m=ζ):SG (kn s a m).bb (kn s a m).eN:=by
 rw[kn]
 cases eqB s.bz 1
 .exact h
 simp only[au]
 have hq:=zz38 h.sp
 cases ltB 4 (zz374 s)
 .exact zz171 2 _ _ _ (h.upd hq (zz31 h.sp))
 have h1:=h.upd hq h.sp.rt
 have hp:=Gt h.sp.page
 exact⟨{h1.sp with page:=zz297 (p:={s.f6 with fF:=mR m s.bh}) (Rx hm _) ⟨hp.a,hp.w⟩ m},h1.b1,h1.b2,h1.mo⟩
structure FP(nd nc:Nat)(f:bA):Prop where
 d:0<=f.bj/\f.bj<nd
 c:0<=f.bh/\f.bh<nc
 b:okB f.ct.bL.bk
 ok:ke f
structure MP(nc:Nat)(i:Nat)(d:aC)(s:ag)(a:aj):Prop where
 dp:DP d
 dc:d.bh<nc
 sg:SG s a
 sc:s.bh<nc
 si:s.bX.aO=i
 ids:zz96 d s=ζ
structure NP(B:Int)(n:ae):Prop where
 map:zz410 n.d7=ζ
 mok:eZ n.d7
 core:kw n.fP=ζ
 up:n.fP.fj≠0
 ld:n.ax.length<=4
 ls:n.aJ.length=n.ax.length
 la:n.bD.length=n.ax.length
 m:∀(i:Nat) d s a,n.ax[i]?=ς d->n.aJ[i]?=ς s->n.bD[i]?=ς a->MP n.d7.bp.length i d s a
 fl:n.aT.length<=200
 fs:∀f∈n.aT,FP n.ax.length n.d7.bp.length f
 dn:inR n.cF 0 (WR ((mD .i64 1 (n.d7.bp.length:Int))-1))=ζ
 nw:0<=n.lV/\n.lV<=100000
 lo:0<=n.Lost/\n.Lost<=B
theorem zz401(h:zz410 m=ζ):1<=m.bp.length/\m.bp.length<=6:=by
 simp only[zz410,hV,bU] at h;omega
theorem NP.at_(h:NP B n){i:Nat}(hi:i<n.ax.length):∃d s a,n.ax[i]?=ς d/\n.aJ[i]?=ς s/\n.bD[i]?=ς a/\MP n.d7.bp.length i d s a:=by
 have h1:=h.ls
 have h2:=h.la
 obtain⟨d,hd⟩:∃d,n.ax[i]?=ς d:=⟨_,zz330 hi⟩
 obtain⟨s,hs⟩:∃s,n.aJ[i]?=ς s:=⟨_,zz330 (show i<n.aJ.length by omega)⟩
 obtain⟨a,ha⟩:∃a,n.bD[i]?=ς a:=⟨_,zz330 (show i<n.bD.length by omega)⟩
 exact⟨d,s,a,hd,hs,ha,h.m i d s a hd hs ha⟩
theorem NP.mono{B':Int}(h:NP B n)(hb:B<=B'):NP B' n:={h with lo:=⟨h.lo.1,by have:=h.lo.2;omega⟩}
def fK(n:ae)(f:bA):ae:=bif leB 200 (n.aT.length:Int) then {n with Lost:=WR (n.Lost+1)} else {n with aT:=n.aT++[f]}
theorem zz37(hf:ke f):iU n f=ς (fK n f):=by
 simp only[iU,zz154 hf,acH,fK]
 cases hb:leB 200 (n.aT.length:Int)
 .have:=zz472 hb
  rw[zz343 oaa (by simp;omega)];rfl
 rfl
theorem zz36(hf:ke f):uI n f=ς (fK n f):=by
 simp only[uI,Ix hf,acH,fK]
 cases hb:leB 200 (n.aT.length:Int)
 .have:=zz472 hb
  rw[zz343 oaa (by simp;omega)];rfl
 rfl
theorem Bu(h:NP B n)(hf:FP n.ax.length n.d7.bp.length f)(hB:B<4611686018427387904):NP (B+1) (fK n f):=by
 have hl:=h.lo
 rw[fK]
 cases hb:leB 200 (n.aT.length:Int)
 .have hb:=zz472 hb
  refine {h.mono (show B<=B+1 by omega) with fl:=by simp;omega,fs:=λg hg=>?_}
  rcases aaH.1 hg with hg|hg
  .exact h.fs g hg
  simp_all
 exact {h.mono (show B<=B+1 by omega) with lo:=by simp only[cond_true];rw[bJ oaa];omega}
theorem pw(n:ae)(f:bA):(fK n f).ax=n.ax/\(fK n f).aJ=n.aJ/\(fK n f).bD=n.bD/\(fK n f).d7=n.d7/\(fK n f).cF=n.cF/\(fK n f).fP=n.fP/\(fK n f).lV=n.lV:=by
 rw[fK];grind
def i7(n:ae)(l:List bA):ae:=l.foldl fK n
theorem it:∀(l:List bA) (n:ae),(i7 n l).ax=n.ax/\(i7 n l).aJ=n.aJ/\(i7 n l).bD=n.bD/\(i7 n l).d7=n.d7/\(i7 n l).cF=n.cF/\(i7 n l).fP=n.fP/\(i7 n l).lV=n.lV
 |[],n=>⟨rfl,rfl,rfl,rfl,rfl,rfl,rfl⟩
 |f::l,n=>by
  have h1:=pw n f
  have h2:=it l (fK n f)
  have e:i7 n (f::l)=i7 (fK n f) l:=rfl
  simp_all
theorem zz481:∀(l:List bA) {B:Int} {n:ae},NP B n->(∀f∈l,FP n.ax.length n.d7.bp.length f)->B+l.length<4611686018427387904->NP (B+l.length) (i7 n l)
 |[],B,n,h,_,_=>by simpa [i7] using h
 |f::l,B,n,h,hf,hB=>by
  simp only[aaS] at hB ⊢
  have h1:=Bu h (hf f (by simp)) oaa
  have hk:=pw n f
  have:=zz481 l h1 (λg hg=>by simp_all) oaa
  rw[show B+((l.length+1:Nat):Int)=B+1+(l.length:Int) by omega]
  exact this
theorem zz447(g:ae->bA->Option ae){α:Type}(mk:α->bA)(hg:∀n x,g n (mk x)=ς (fK n (mk x))):∀(l:List α) (n:ae),lU (λ(n:ae) x=>acE (g n (mk x)) λr=>ς (ci.next (ρ:=ae) r)) ς l n=ς (i7 n (l.map mk))
 |[],n=>rfl
 |x::l,n=>by rw[lU,hg];exact zz447 g mk hg l _
def zz358(i:Int)(up:Bool)(m:aG):bA:=⟨i,up,η,m.bh,m,fg⟩
def zz421(i c:Int)(x:aD):bA:=⟨i,η,ζ,c,fc,x⟩
theorem zz56:zz402 fg:=⟨by decide,λ_ _=>trivial⟩
theorem zz34(i:Int)(up:Bool)(m:aG):ke (zz358 i up m):=zz56
theorem zz196(n:ae)(i:Int)(up:Bool){l:List aG}(hl:l.length<=1048576):mz n i up l=ς (i7 n (l.map (zz358 i up))):=by
 have:=eG (step:=mA i up l) l (λk n=>((k:Int),n)) (λn x=>acE (iU n (zz358 i up x)) λr=>ς (.next r)) ς oaa
  (λk x n hx hk=>by
   simp only[mA,ct hk,bm,hx,WRs (k:=k),zz358,au]
   simp_all) (λn=>by simp[mA]) n
 rw[zz447 iU (zz358 i up) (λn x=>zz37 (zz34 i up x))] at this
 rw[mz,show iter (mA i up l) FU (0,n)=_ from this];rfl
theorem zz262(n:ae)(i:Int){l:List aG}(hl:l.length<=1048576):lA n i l=ς (i7 n (l.map (zz358 i η))):=by
 have:=eG (step:=jY i l) l (λk n=>((k:Int),n)) (λn x=>acE (uI n (zz358 i η x)) λr=>ς (.next r)) ς oaa
  (λk x n hx hk=>by
   simp only[jY,ct hk,bm,hx,WRs (k:=k),au]
   rw[show({fE with bj:=i,bh:=x.bh,a8:=x}:bA)=zz358 i η x from rfl]
   simp_all) (λn=>by simp[jY]) n
 rw[zz447 uI (zz358 i η) (λn x=>zz36 (zz34 i η x))] at this
 rw[lA,show iter (jY i l) FU (0,n)=_ from this];rfl
def fP(n:ae)(i:Nat)(r:a9):ae:=i7 {n with ax:=n.ax.set i r.bj} (r.c9.map (zz358 i ζ))
theorem zz463{i:Nat}(hi:i<n.ax.length){r:a9}(hr:r.c9.length<=1048576):jF n (i:Int) r=ς (fP n i r):=by
 simp only[jF,bm,zz330 hi,acH,acI,zz196 _ _ _ hr,fP]
theorem zz462{i:Nat}(hi:i<n.ax.length){r:a9}(hr:r.c9.length<=1048576):gK n (i:Int) r=ς (fP n i r):=by
 have:=eG (step:=nL (i:Int) r) r.c9 (λk n=>((k:Int),n)) (λn x=>acE (uI n (zz358 i ζ x)) λr=>ς (.next r)) ς oaa
  (λk x n hx hk=>by
   simp only[nL,ct hk,bm,hx,WRs (k:=k),zz358,au]
   simp_all) (λn=>by simp[nL]) {n with ax:=n.ax.set i r.bj}
 rw[zz447 uI (zz358 (i:Int) ζ) (λn x=>zz36 (zz34 _ ζ x))] at this
 simp only[gK,bm,zz330 hi,acH,acI,fP]
 simp_all
theorem zz140{nd nc:Nat}{i:Nat}(hi:i<nd){up:Bool}{m:aG}(hm:0<=m.bh/\m.bh<nc):FP nd nc (zz358 i up m):=
 ⟨by simp only[zz358];omega,hm,λx hx=>by simp[zz358,fg,kq] at hx,zz34 _ _ _⟩
theorem zz57{xs:List α}{i j:Nat}{x y:α}(h:(xs.set i x)[j]?=ς y):(i=j/\x=y)\/(i≠j/\xs[j]?=ς y):=by
 grind
theorem NP.setM(h:NP B n){i:Nat}{d:aC}(hm:MP n.d7.bp.length i d s a):
 NP B {n with ax:=n.ax.set i d,aJ:=n.aJ.set i s,bD:=n.bD.set i a}:=by
 have h1:=h.ls
 have h2:=h.la
 refine {h with ld:=by simpa using h.ld,ls:=by simp_all,la:=by simp_all,m:=λj d' s' a' hd hs ha=>?_,fs:=λf hf=>by rw[List.length_set];exact h.fs f hf}
 rcases zz57 hd with⟨e1,e2⟩|⟨e1,e2⟩<;>rcases zz57 hs with⟨e3,e4⟩|⟨e3,e4⟩<;>rcases zz57 ha with⟨e5,e6⟩|⟨e5,e6⟩<;>first|omega|skip
 .simp_all
 exact h.m j d' s' a' e2 e4 e6
theorem zz411{xs:List α}{i:Nat}{x:α}(h:xs[i]?=ς x):xs.set i x=xs:=by
 apply acT
 grind
theorem NP.setD(h:NP B n){i:Nat}{d:aC}(hs:n.aJ[i]?=ς s)(ha:n.bD[i]?=ς a)(hm:MP n.d7.bp.length i d s a):NP B {n with ax:=n.ax.set i d}:=by
 have:=h.setM hm
 rwa [zz411 hs,zz411 ha] at this
theorem NP.setS(h:NP B n){i:Nat}{d:aC}(hd:n.ax[i]?=ς d)(ha:n.bD[i]?=ς a)(hm:MP n.d7.bp.length i d s a):NP B {n with aJ:=n.aJ.set i s}:=by
 have:=h.setM hm
 rwa [zz411 hd,zz411 ha] at this
structure DK(c:Int)(d:aC)(r:a9):Prop where
 id:r.bj.dO.ID=d.dO.ID
 key:r.bj.dO.fA=d.dO.fA
 cell:r.bj.bh=c
 sg:∀m∈r.c9,m.bh=c
 len:r.c9.length<=1
theorem DK.none(d:aC):DK d.bh d ⟨d,[]⟩:=⟨rfl,rfl,rfl,by simp,by simp⟩
theorem Y4(d:aC):DK d.bh d (yr d):=⟨rfl,rfl,rfl,by simp[yr,yg,zz439],by simp[yr]⟩
theorem Lw{d d':aC}(h:d'.dO=d.dO):DK d'.bh d (yr d'):=⟨by rw[<-h];rfl,by rw[<-h];rfl,rfl,by simp[yr,yg,zz439],by simp[yr]⟩
theorem Fy(d:aC):DK d.bh d (zz397 d):=by
 rw[zz397]
 cases ltB 0 d.eU<;>cases eqB d.bz 1<;>cases eqB d.bz 2&&!d.cj<;>exact⟨rfl,rfl,rfl,by simp[zz66,yg,zz439],by simp⟩
theorem zz184(d:aC):DK d.bh d (dOn d):=by
 rw[dOn];cases eqB d.bz 0<;>exact⟨rfl,rfl,rfl,by simp[zz66],by simp⟩
theorem Ez(d:aC)(m:aG):DK d.bh d (zz435 d m):=by
 rw[zz435]
 cases !zz391 m||(!eqB m.bh d.bh||eqB d.bz 0)
 .simp only[cond_false]
  cases eqB m.bu 2&&eqB d.bz 1
  .simp only[cond_false]
   cases eqB m.bu 4&&(eqB d.bz 1&&(p6 d.bg&&(eqB m.ah d.ah&&zz414 d.bg m)))
   .simp only[cond_false]
    cases eqB m.bu 6&&(eqB d.bz 2&&(eqB m.ah d.ah&&(eqB m.aY d.aY&&zz414 d.bg m)))
    .simp only[cond_false]
     cases eqB m.bu 7&&(eqB d.bz 3&&ltB d.aY 999999)
     .simp only[cond_false]
      cases eqB m.bu 7&&eqB d.bz 2
      .exact .none d
      exact Y4 d
     exact Lw (d:=d) (d':={d with bz:=2,aY:=d.aY+1}) rfl
    exact⟨rfl,rfl,rfl,by simp,by simp⟩
   exact⟨rfl,rfl,rfl,by simp,by simp⟩
  simp only[cond_true,JF]
  cases eqB (zz418 d.dO.fA d.dO.c8 m.b8) 0<;>exact⟨rfl,rfl,rfl,by simp,by simp⟩
 exact .none d
theorem zz67(d:aC)(x:aD):DK d.bh d (zz434 d x):=by
 simp only[zz434]
 cases eqB d.bz 2&&(yl d.bg d.ah d.aY x).2
 .exact .none d
 exact⟨rfl,rfl,rfl,by simp[Y3,zz439],by simp⟩
theorem zz163(d:aC)(c:Int):DK d.bh d (vW d c)\/(0<=c/\c<=5)/\DK c d (vW d c):=by
 rw[vW]
 cases h:eqB c d.bh||!inR c 0 5
 .simp only[aaQ,acN] at h
  right;refine⟨bU.1 h.2,?_⟩
  simp only[cond_false]
  cases eqB d.bz 2&&ltB d.aY 999999
  .exact⟨rfl,rfl,rfl,by simp,by simp⟩
  exact Lw (d:=d) (d':={d with bh:=c,aY:=d.aY+1}) rfl
 exact .inl (.none d)
structure SK(c:Int)(s:ag)(r:bN):Prop where
 id:r.bb.bT.ID=s.bT.ID
 key:r.bb.bT.fA=s.bT.fA
 si:r.bb.bX.aO=s.bX.aO
 cell:r.bb.bh=s.bh\/r.bb.bh=c
 sg:∀m∈r.c9,m.bh=c
 len:r.c9.length<=1
 sub:r.bb.aS=s.aS
theorem SK.none(c:Int)(s:ag):SK c s ⟨s,[]⟩:=⟨rfl,rfl,rfl,.inl rfl,by simp,by simp,rfl⟩
theorem KM(s:ag)(m:aG):SK m.bh s (sUp s m):=by
 rw[sUp]
 cases zz391 m
 .exact .none _ s
 simp only[au]
 cases eqB m.bu 1
 .simp only[cond_false]
  cases eqB m.bu 3
  .simp only[cond_false]
   cases eqB m.bu 5
   .simp only[cond_false]
    cases eqB m.bu 8
    .exact .none _ s
    simp only[cond_true,zz137]
    cases !wj s m||ltB s.aK.bB m.bZ
    .refine⟨rfl,rfl,?_,.inl rfl,by simp,by simp,rfl⟩
     simp only[cond_false,zz403,uw]
     grind
    exact .none _ s
   simp only[cond_true,CF]
   cases !wj s m||(ltB m.aY s.aY||(eqB m.aY s.aY&&!eqB m.bh s.bh))
   .exact⟨rfl,rfl,rfl,.inr rfl,by simp[Ao,zz439,xF],by simp,rfl⟩
   exact .none _ s
  simp only[cond_true,zo]
  cases leB s.bG 0||(!eqB m.ah s.bG||(!eqB m.bZ s.aA.vP||leB 999999 s.aY))
  .exact⟨rfl,rfl,rfl,.inr rfl,by simp[Ao,zz439,zz477],by simp,rfl⟩
  exact .none _ s
 simp only[cond_true,zz83]
 cases eqB s.bT.cX 999999
 .exact⟨rfl,rfl,rfl,.inl rfl,by simp,by simp,rfl⟩
 exact .none _ s
theorem MP.dev{nc i:Nat}{d:aC}(h:MP nc i d s a){c:Int}{r:a9}(hk:DK c d r)(hd:DP r.bj)(hc:c<nc):MP nc i r.bj s a:=by
 refine⟨hd,by rw[hk.cell];exact hc,h.sg,h.sc,h.si,?_⟩
 have:=h.ids
 simp only[zz96,hk.id,hk.key] at this ⊢;exact this
theorem MP.ses{nc i:Nat}{d:aC}(h:MP nc i d s a){c:Int}{r:bN}(hk:SK c s r)(hs:SG r.bb a)(hc:c<nc):MP nc i d r.bb a:=by
 refine⟨h.dp,h.dc,hs,?_,by rw[hk.si];exact h.si,?_⟩
 .rcases hk.cell with e|e<;>rw[e]
  .exact h.sc
  exact hc
 have:=h.ids
 simp only[zz96,hk.id,hk.key] at this ⊢;exact this
theorem zz422(h:NP B n){i:Nat}{d:aC}(hd:n.ax[i]?=ς d){c:Int}{r:a9}(hk:DK c d r)(hr:DP r.bj)(hc:c<n.d7.bp.length)(hB:B+1<4611686018427387904):NP (B+1) (fP n i r):=by
 have hi:=(zz334.1 hd).1
 obtain⟨d',s,a,h1,h2,h3,hm⟩:=h.at_ hi
 rw[hd] at h1;cases h1
 have hn:=h.setD h2 h3 (hm.dev hk hr hc)
 have hl:=hk.len
 have:=zz481 (r.c9.map (zz358 i ζ)) hn (λf hf=>by
  obtain⟨m,hm',rfl⟩:=abN.1 hf
  rw[show({n with ax:=n.ax.set i r.bj}:ae).ax.length=n.ax.length by simp]
  refine zz140 hi ?_
  rw[hk.sg m hm',<-hk.cell];exact⟨hr.ce.1,by rw[hk.cell];exact hc⟩) (by simp;omega)
 exact this.mono (by simp;omega)
def Bw(n:ae)(i:Nat)(r:bN):ae:=i7 {n with aJ:=n.aJ.set i r.bb} (r.c9.map (zz358 i η))
theorem SL(h:NP B n){i:Nat}(hs:n.aJ[i]?=ς s){c:Int}{r:bN}(hk:SK c s r)(hr:∀a,SG s a->SG r.bb a)(hc:0<=c/\c<n.d7.bp.length)(hB:B+1<4611686018427387904):NP (B+1) (Bw n i r):=by
 have hi:=(zz334.1 hs).1
 have hls:=h.ls
 obtain⟨d,s',a,h1,h2,h3,hm⟩:=h.at_ (show i<n.ax.length by omega)
 rw[hs] at h2;cases h2
 have hn:=h.setS h1 h3 (hm.ses hk (hr a hm.sg) hc.2)
 have hl:=hk.len
 have:=zz481 (r.c9.map (zz358 i η)) hn (λf hf=>by
  obtain⟨m,hm',rfl⟩:=abN.1 hf
  refine zz140 (show i<n.ax.length by omega) ?_
  rw[hk.sg m hm'];exact hc) (by simp;omega)
 exact this.mono (by simp;omega)
def zz368(n:ae)(k:Nat):ae:={n with aT:=n.aT.take k++n.aT.drop (k+1)}
theorem Eu(h:NP B n)(k:Nat):NP B (zz368 n k):=by
 have:=h.fl
 refine {h with fl:=by simp[zz368];omega,fs:=λf hf=>?_}
 have:f∈n.aT:=by
  simp only[zz368,aaH] at hf
  rcases hf with hf|hf
  .grind
  grind
 exact h.fs f this
theorem zz236(hl:n.aT.length<=200)(hf:n.aT[k]?=ς f):zK n (k:Int)=ς (f,zz368 n k):=by
 have hk:=(zz334.1 hf).1
 have a1:em n.aT 0 (k:Int)=true:=by simp[em];omega
 have a2:em n.aT ((k+1:Nat):Int) (n.aT.length:Int)=true:=by simp[em];omega
 have a3:cW 176 (n.aT.take k).length=true:=zz343 oaa (by simp;omega)
 have a4:cW 176 (n.aT.take k++n.aT.drop (k+1)).length=true:=zz343 oaa (by simp;omega)
 simp only[zK,bm,hf,a1,WRs (k:=k),a2,abO,acI,a3,a4,zz368,au]
theorem zz235(hl:n.aT.length<=200)(hf:n.aT[k]?=ς f):qW n (k:Int)=ς (f,zz368 n k):=by
 have hk:=(zz334.1 hf).1
 have a0:qj 176 0 (n.aT.length:Int)=true:=by simp only[qj,decide_eq_true_eq];omega
 have a1:em n.aT 0 (k:Int)=true:=by simp[em];omega
 have a2:em n.aT ((k+1:Nat):Int) (n.aT.length:Int)=true:=by simp[em];omega
 have a3:cW 176 (n.aT.take k).length=true:=zz343 oaa (by simp;omega)
 have a4:cW 176 (n.aT.take k++n.aT.drop (k+1)).length=true:=zz343 oaa (by simp;omega)
 have a5:(aaI (0:Int).toNat fE)=[]:=rfl
 simp only[qW,bm,hf,a0,a1,WRs (k:=k),a2,a5,abO,acI,a3,a4,zz368,au]
def zz87(n:ae)(c:Int):Bool:=eV n.d7 c&&eqB (AC .i64 (Eb .i64 n.cF c) 1) 0
theorem zz270(hm:1<=n.d7.bp.length/\n.d7.bp.length<=6)(c:Int):wv n c=ς (zz87 n c):=by
 have hmin:lV (n.d7.bp.length:Int) 6=(n.d7.bp.length:Int):=by unfold lV;split<;>omega
 simp only[wv,zz178,hmin,zz355,acH,bJ (n:=(n.d7.bp.length:Int)-1) oaa,zz87]
 rw[show inR c 0 ((n.d7.bp.length:Int)-1)=eV n.d7 c from rfl]
 cases hc:eV n.d7 c
 .rfl
 have:=bU.1 (show inR c 0 ((n.d7.bp.length:Int)-1)=ζ from hc)
 rw[leB_t.2 this.1];rfl
theorem VO(hm:1<=n.d7.bp.length/\n.d7.bp.length<=6)(c:Int):vZ n c=ς (zz87 n c):=by
 simp only[vZ,zz443 (show n.d7.bp.length<=1048576 by omega),acH,zz87]
 cases hc:eV n.d7 c
 .rfl
 have:=bU.1 (show inR c 0 ((n.d7.bp.length:Int)-1)=ζ from hc)
 rw[leB_t.2 this.1,ltB_t.2 (show c<6 by omega)];rfl
def zz97(n:ae):ae:={n with Lost:=WR (n.Lost+1)}
theorem zz121(h:NP B n)(hB:B<4611686018427387904):NP (B+1) (zz97 n):=by
 have hl:=h.lo
 exact {h.mono (show B<=B+1 by omega) with lo:=by simp only[zz97];rw[bJ oaa];omega}
def zz363(n:ae)(k:Nat):ae:=match n.aT[k]? with
 |none=>n
 |some f=>
  let n1:=zz368 n k
  let i:=f.bj.toNat
  bif !zz87 n1 f.bh then zz97 n1 else
  bif f.ey then(bif f.dB||!eqB f.a8.bh f.bh then n1 else match n1.aJ[i]? with
   |none=>n1
   |some s=>Bw n1 i (sUp s f.a8))
  else match n1.ax[i]? with
   |none=>n1
   |some d=>bif !eqB d.bh f.bh then zz97 n1 else fP n1 i (bif f.dB then zz434 d f.ct else zz435 d f.a8)
theorem zz24(h:NP B n)(k:Nat)(hB:B+1<4611686018427387904):NP (B+1) (zz363 n k):=by
 rw[zz363]
 cases hf:n.aT[k]? with
 |none=>exact h.mono oaa
 |some f=>
  have hp:=h.fs f (zz326 hf)
  have h1:=Eu h k
  simp only
  cases zz87 (zz368 n k) f.bh
  .exact zz121 h1 oaa
  simp only[au]
  cases f.ey
  .simp only[cond_false]
   cases hd:(zz368 n k).ax[f.bj.toNat]? with
   |none=>exact h1.mono oaa
   |some d=>
    have hdi:=(zz334.1 hd).1
    obtain⟨d',s,a,e1,e2,e3,hm⟩:=h1.at_ hdi
    rw[hd] at e1;cases e1
    simp only
    cases eqB d.bh f.bh
    .exact zz121 h1 oaa
    simp only[au]
    cases f.dB
    .exact zz422 h1 hd (Ez d f.a8) (zz125 hm.dp _) hm.dc hB
    exact zz422 h1 hd (zz67 d f.ct) (zz213 hm.dp _) hm.dc hB
  simp only[cond_true]
  cases he:f.dB||!eqB f.a8.bh f.bh
  .simp only[cond_false]
   simp only[aaQ,acN] at he
   have he:=zz424 he.2
   cases hs:(zz368 n k).aJ[f.bj.toNat]? with
   |none=>exact h1.mono oaa
   |some s=>exact SL h1 hs (KM s f.a8) (λa ha=>sUp_SG ha _) (by rw[he];exact hp.c) hB
  exact h1.mono oaa
theorem NN(i:Int)(h:0<=i):i=(i.toNat:Int):=by omega
theorem zz230(h:NP B n)(hk:k<n.aT.length):vf n (k:Int)=ς (zz363 n k):=by
 obtain⟨f,hf⟩:∃f,n.aT[k]?=ς f:=⟨_,zz330 hk⟩
 have hp:=h.fs f (zz326 hf)
 have h1:=Eu h k
 have hls:=h1.ls
 have hdd:=hp.d
 obtain⟨d,s,a,e1,e2,e3,hm⟩:=h1.at_ (show f.bj.toNat<(zz368 n k).ax.length by simp only[zz368];omega)
 have hdev:=NN f.bj hdd.1
 have hix:ix (zz368 n k).aJ f.bj=ς s:=by rw[hdev,bm];exact e2
 have hixd:ix (zz368 n k).ax f.bj=ς d:=by rw[hdev,bm];exact e1
 have hdl:=(zz334.1 e1).1
 have hp1:jF (zz368 n k) f.bj (zz434 d f.ct)=ς (fP (zz368 n k) f.bj.toNat (zz434 d f.ct)):=by
  rw[hdev];exact zz463 oaa (by have:=(zz67 d f.ct).len;omega)
 have hp2:jF (zz368 n k) f.bj (zz435 d f.a8)=ς (fP (zz368 n k) f.bj.toNat (zz435 d f.a8)):=by
  rw[hdev];exact zz463 oaa (by have:=(Ez d f.a8).len;omega)
 have hp3:∀n',mz n' f.bj η (sUp s f.a8).c9=ς (i7 n' ((sUp s f.a8).c9.map (zz358 (f.bj.toNat:Int) η))):=λn'=>by
  rw[<-hdev];exact zz196 _ _ _ (by have:=(KM s f.a8).len;omega)
 simp only[vf,zz236 h.fl hf,zz270 (zz401 h1.map),hix,hixd,up_s hm.sg.sp,rad_s hm.dp.ok (show zz225 f.ct from hp.b),zz292 hm.dp.ok hm.dp.card hm.dp.ep,hp1,hp2,hp3,acH,zz363,hf,e1,e2,Bw,zz97]
 grind
theorem Iq(h:NP B n)(hk:k<n.aT.length):yN n (k:Int)=ς (zz363 n k):=by
 obtain⟨f,hf⟩:∃f,n.aT[k]?=ς f:=⟨_,zz330 hk⟩
 have hp:=h.fs f (zz326 hf)
 have h1:=Eu h k
 have hls:=h1.ls
 have hdd:=hp.d
 obtain⟨d,s,a,e1,e2,e3,hm⟩:=h1.at_ (show f.bj.toNat<(zz368 n k).ax.length by simp only[zz368];omega)
 have hdev:=NN f.bj hdd.1
 have hix:ix (zz368 n k).aJ f.bj=ς s:=by rw[hdev,bm];exact e2
 have hixd:ix (zz368 n k).ax f.bj=ς d:=by rw[hdev,bm];exact e1
 have hdl:=(zz334.1 e1).1
 have hp1:gK (zz368 n k) f.bj (zz434 d f.ct)=ς (fP (zz368 n k) f.bj.toNat (zz434 d f.ct)):=by
  rw[hdev];exact zz462 oaa (by have:=(zz67 d f.ct).len;omega)
 have hp2:gK (zz368 n k) f.bj (zz435 d f.a8)=ς (fP (zz368 n k) f.bj.toNat (zz435 d f.a8)):=by
  rw[hdev];exact zz462 oaa (by have:=(Ez d f.a8).len;omega)
 have hp3:∀n',lA n' f.bj (sUp s f.a8).c9=ς (i7 n' ((sUp s f.a8).c9.map (zz358 (f.bj.toNat:Int) η))):=λn'=>by
  rw[<-hdev];exact zz262 _ _ (by have:=(KM s f.a8).len;omega)
 simp only[yN,zz235 h.fl hf,VO (zz401 h1.map),hix,hixd,up_i hm.sg.sp,rad_i hm.dp.ok (show zz225 f.ct from hp.b),sig_i hm.dp.ok hm.dp.card hm.dp.ep,hp1,hp2,hp3,acH,zz363,hf,e1,e2,Bw,zz97]
 grind
theorem zz385(n:ae)(i:Nat)(r:a9):(fP n i r).ax.length=n.ax.length/\(fP n i r).d7=n.d7/\(fP n i r).aJ=n.aJ/\(fP n i r).bD=n.bD/\(fP n i r).lV=n.lV:=by
 have:=it (r.c9.map (zz358 i ζ)) {n with ax:=n.ax.set i r.bj}
 rw[fP,this.1,this.2.1,this.2.2.1,this.2.2.2.1,this.2.2.2.2.2.2];simp
def zz399:Nat->Nat->ae->ae
 |0,_,n=>n
 |c+1,i,n=>match n.ax[i]? with
  |none=>n
  |some d=>zz399 c (i+1) (fP n i (zz397 d))
theorem zz45{L:Int×ae->Option (ci (Int×ae) ae)}(N:Nat)(hN:N<=4)(hL:∀(i:Nat) (n:ae),n.ax.length=N->(i<N->∀d,n.ax[i]?=ς d->DP d->L ((i:Int),n)=ς (.next (((i+1:Nat):Int),fP n i (zz397 d))))/\(N<=i->L ((i:Int),n)=ς (.done n))):
 ∀(c i:Nat) {B:Int} (n:ae) (fu:Nat),NP B n->i+c=N->n.ax.length=N->c<fu->B+c<4611686018427387904->iter L fu ((i:Int),n)=ς (zz399 c i n)/\NP (B+c) (zz399 c i n)/\(zz399 c i n).ax.length=N/\(zz399 c i n).d7=n.d7
 |0,i,B,n,fu,h,h1,h2,h3,hB=>by
  cases fu with
  |zero=>omega
  |succ fu=>
   rw[iter,(hL i n h2).2 oaa]
   exact⟨rfl,by simpa [zz399] using h,h2,rfl⟩
 |c+1,i,B,n,fu,h,h1,h2,h3,hB=>by
  cases fu with
  |zero=>omega
  |succ fu=>
   obtain⟨d,s,a,e1,e2,e3,hm⟩:=h.at_ (show i<n.ax.length by omega)
   have hp:=zz422 h e1 (Fy d) (zz164 hm.dp) hm.dc oaa
   have hk:=zz385 n i (zz397 d)
   rw[iter,(hL i n h2).1 oaa d e1 hm.dp,zz399,e1]
   simp only
   have ih:=zz45 N hN hL c (i+1) (fP n i (zz397 d)) fu hp oaa oaa oaa oaa
   grind
def zz469(x:aD):Prop:=okB x.bL.bk/\x.bL.bk.length<=60
theorem zz454(k g e:Int)(h:x.bk.length<=60):zz469 (zz375 k g e x):=⟨zz126 _ _,by simp[zz375,Xt];exact h⟩
theorem Lf(h:WOK s.aK):∀x∈zz20 s,zz469 x:=by
 rw[zz20];cases eqB s.bz 1
 .simp
 intro x hx
 obtain⟨y,hy,rfl⟩:=abN.1 hx
 exact zz454 _ _ _ (h.d y (abe hy))
theorem RQ(s:ag)(a:aj)(n:Int):(d9 s a n).1.bX.aO=s.bX.aO:=by rw[d9];cases leB (pu s n) 0<;>rfl
theorem GV:∀(k:Nat) (s:ag) (a:aj) (r:List aD),SG s a->(∀x∈r,zz469 x)->
 (iF k s a r).1.bT=s.bT/\(iF k s a r).1.bh=s.bh/\(iF k s a r).1.bX.aO=s.bX.aO/\(iF k s a r).1.aS=s.aS/\∀x∈(iF k s a r).2.2,zz469 x
 |0,s,a,r,h,hr=>⟨rfl,rfl,rfl,rfl,hr⟩
 |k+1,s,a,r,h,hr=>by
  rw[iF]
  cases e:zz450 s with
  |none=>simp_all
  |some x=>
   obtain⟨hm,hx,_,hn,hl,hb⟩:=tK h.sp e
   have he:=zz473 h (n:=(x.bk.length:Int)) oaa
   obtain⟨q,hk⟩:=zz432 s a (x.bk.length:Int)
   have hid:=RQ s a (x.bk.length:Int)
   simp only
   cases hq:ltB 0 (pu (d9 s a (x.bk.length:Int)).1 (x.bk.length:Int))
   .simp only[cond_false]
    have ih:=GV k {(d9 s a (x.bk.length:Int)).1 with aK:=AL (d9 s a (x.bk.length:Int)).1.aK x.bk} (d9 s a (x.bk.length:Int)).2
     (r++[zz375 (d9 s a (x.bk.length:Int)).1.bg (d9 s a (x.bk.length:Int)).1.ah (d9 s a (x.bk.length:Int)).1.aY ⟨(d9 s a (x.bk.length:Int)).1.aK.bB,x.bk⟩])
     (zz59 he (by rw[hk];exact e) hq) (λy hy=>by
      rcases aaH.1 hy with hy|hy
      .exact hr y hy
      simp at hy;subst hy;exact zz454 _ _ _ hb)
    simp_all
   simp_all
theorem WG{a t:Int}:∀c∈zz41 m a t,0<=c/\c<m.bp.length:=by
 intro c hc
 have h1:∀c∈zz431 m a,0<=c/\c<m.bp.length:=λc hc=>by
  obtain⟨y,hy,rfl⟩:=abN.1 hc
  grind
 have h2:∀c∈Us m,0<=c/\c<m.bp.length:=λc hc=>by
  obtain⟨k,hk,rfl⟩:=abN.1 hc
  simp_all
 rw[zz41] at hc;grind
structure TK(nc:Nat)(s:ag)(a:aj)(t:bR):Prop where
 rcd:t.bb.bT=s.bT
 cell:t.bb.bh=s.bh
 si:t.bb.bX.aO=s.bX.aO
 sub:t.bb.aS=s.aS
 pg:∀m∈t.lW,0<=m.bh/\m.bh<nc
 pl:t.lW.length<=1000
 rd:∀x∈t.ct,zz469 x
 rl:t.ct.length<=4
theorem GU(h:SG s a)(hm:m.bp.length<=1000):TK m.bp.length s a (kn s a m):=by
 rw[kn]
 cases eqB s.bz 1
 .exact⟨rfl,rfl,rfl,rfl,by simp,by simp,by simp,by simp⟩
 simp only[au]
 have hg:=zz156 h
 have hq:=zz38 h.sp
 cases ltB 4 (zz374 s)
 .simp only[cond_false,QT]
  have hk:=GV 2 _ _ [] (h.upd hq (zz31 h.sp)) (by simp)
  have hl:=zz10 2 {s with dQ:=zz374 s,dL:=(zz393 s).2,bX:=(ga s a).2} (ga s a).1 []
  have hr:=Dw s
  refine⟨hk.1,hk.2.1,hk.2.2.1.trans hg.2.2.1,hk.2.2.2.1,by simp,by simp,λx hx=>?_,by grind⟩
  rcases aaH.1 hx with hx|hx
  .rw[zz393] at hx;revert hx
   cases zz92 s
   .simp
   cases ltB 0 s.dL
   .exact Lf h.sp.win x
   simp
  simp_all
 simp only[cond_true,zz114]
 refine⟨rfl,rfl,hg.2.2.1,rfl,λx hx=>?_,by have:=zz46 (p:={s.f6 with fF:=mR m s.bh}) hm;simp_all,by simp,by simp⟩
 obtain⟨c,hc,rfl⟩:=abN.1 hx
 simp only[zz42]
 rw[yp] at hc;revert hc
 cases ltB 0 s.f6.eU
 .exact WG c
 simp
def zz451(n:ae)(i:Nat)(t:bR):ae:=
 i7 (i7 {n with aJ:=n.aJ.set i t.bb,bD:=n.bD.set i t.eN} (t.lW.map (zz358 i η))) (t.ct.map (zz421 i t.bb.bh))
theorem ZY{nd nc i:Nat}(hi:i<nd){c:Int}(hc:0<=c/\c<nc){x:aD}(hx:zz469 x):FP nd nc (zz421 i c x):=
 ⟨by simp only[zz421];omega,hc,hx.1,⟨by have:=hx.2;simp only[zz421];omega,λ_ _=>trivial⟩⟩
theorem zz110(n:ae)(i:Nat)(t:bR):(zz451 n i t).ax=n.ax/\(zz451 n i t).d7=n.d7/\(zz451 n i t).aJ.length=n.aJ.length/\(zz451 n i t).lV=n.lV:=by
 have h1:=it (t.lW.map (zz358 i η)) {n with aJ:=n.aJ.set i t.bb,bD:=n.bD.set i t.eN}
 have h2:=it (t.ct.map (zz421 i t.bb.bh)) (i7 {n with aJ:=n.aJ.set i t.bb,bD:=n.bD.set i t.eN} (t.lW.map (zz358 i η)))
 rw[zz451,h2.1,h2.2.1,h2.2.2.2.1,h2.2.2.2.2.2.2,h1.1,h1.2.1,h1.2.2.2.1,h1.2.2.2.2.2.2];simp
theorem WM(h:NP B n){i:Nat}(hs:n.aJ[i]?=ς s)(ha:n.bD[i]?=ς a){t:bR}(hk:TK n.d7.bp.length s a t)(hg:SG t.bb t.eN)(hB:B+2000<4611686018427387904):NP (B+2000) (zz451 n i t):=by
 have hi:=(zz334.1 hs).1
 have hls:=h.ls
 obtain⟨d,s',a',h1,h2,h3,hm⟩:=h.at_ (show i<n.ax.length by omega)
 rw[hs] at h2;cases h2
 rw[ha] at h3;cases h3
 have hmp:MP n.d7.bp.length i d t.bb t.eN:=by
  refine⟨hm.dp,hm.dc,hg,by rw[hk.cell];exact hm.sc,by rw[hk.si];exact hm.si,?_⟩
  have:=hm.ids
  simp only[zz96,hk.rcd] at this ⊢;exact this
 have hn:=h.setM hmp
 rw[zz411 h1] at hn
 have hpl:=hk.pl
 have hrl:=hk.rl
 have k1:=it (t.lW.map (zz358 i η)) {n with aJ:=n.aJ.set i t.bb,bD:=n.bD.set i t.eN}
 have p1:=zz481 (t.lW.map (zz358 i η)) hn (λf hf=>by
  obtain⟨m,hm',rfl⟩:=abN.1 hf
  exact zz140 (show i<n.ax.length by omega) (hk.pg m hm')) (by simp;omega)
 have p2:=zz481 (t.ct.map (zz421 i t.bb.bh)) p1 (λf hf=>by
  obtain⟨x,hx,rfl⟩:=abN.1 hf
  rw[k1.1,k1.2.2.2.1]
  exact ZY (show i<n.ax.length by omega) (by rw[hk.cell];exact⟨hm.sg.sp.ce.1,hm.sc⟩) (hk.rd x hx)) (by simp;omega)
 exact p2.mono (by simp;omega)
def uf:Nat->Nat->ae->ae
 |0,_,n=>n
 |c+1,i,n=>match n.aJ[i]?,n.bD[i]? with
  |some s,ς a=>uf c (i+1) (zz451 n i (kn s a n.d7))
  |_,_=>n
theorem zz47{L:Int×ae->Option (ci (Int×ae) ae)}(N:Nat)(hN:N<=4)(hL:∀(i:Nat) (n:ae),n.aJ.length=N->(i<N->∀s a,n.aJ[i]?=ς s->n.bD[i]?=ς a->SG s a->zz410 n.d7=ζ->L ((i:Int),n)=ς (.next (((i+1:Nat):Int),zz451 n i (kn s a n.d7))))/\(N<=i->L ((i:Int),n)=ς (.done n))):
 ∀(c i:Nat) {B:Int} (n:ae) (fu:Nat),NP B n->i+c=N->n.aJ.length=N->c<fu->B+2000*c<4611686018427387904->iter L fu ((i:Int),n)=ς (uf c i n)/\NP (B+2000*c) (uf c i n)/\(uf c i n).ax=n.ax/\(uf c i n).d7=n.d7
 |0,i,B,n,fu,h,h1,h2,h3,hB=>by
  cases fu with
  |zero=>omega
  |succ fu=>
   rw[iter,(hL i n h2).2 oaa]
   exact⟨rfl,by simpa [uf] using h,rfl,rfl⟩
 |c+1,i,B,n,fu,h,h1,h2,h3,hB=>by
  cases fu with
  |zero=>omega
  |succ fu=>
   have hls:=h.ls
   obtain⟨d,s,a,e1,e2,e3,hm⟩:=h.at_ (show i<n.ax.length by omega)
   have hml:=zz401 h.map
   have hp:=WM h e2 e3 (GU hm.sg oaa) (Xq hm.sg h.map) oaa
   have hk:=zz110 n i (kn s a n.d7)
   rw[iter,(hL i n h2).1 oaa s a e2 e3 hm.sg h.map,uf,e2,e3]
   simp only
   have ih:=zz47 N hN hL c (i+1) (zz451 n i (kn s a n.d7)) fu hp oaa oaa oaa oaa
   grind
def zz449(n:ae):Bool×ae:=
 bif leB 100000 n.lV then(η,n) else
  let n1:=zz399 n.ax.length 0 {n with lV:=n.lV+1}
  (ζ,uf n1.aJ.length 0 n1)
theorem zz3{B:Int}{n:ae}(h:NP B n)(hB:B+10000<4611686018427387904):CS n=ς (zz449 n)/\L1 n=ς (zz449 n)/\NP (B+10000) (zz449 n).2:=by
 have hnw:=h.nw
 have hld:=h.ld
 rw[zz449,CS,L1]
 cases hb:leB 100000 n.lV
 .have hb:=zz472 hb
  simp only[cond_false]
  have h1:NP B {n with lV:=n.lV+1}:={h with nw:=by grind}
  rw[bJ (n:=n.lV+1) oaa]
  have rs:=zz45 (L:=vg) n.ax.length hld (λi n' hn'=>⟨λhi d hd hp=>by
   simp only[vg,hn',ct hi,bm,hd,XP hp.ok hp.wt.2,zz463 (show i<n'.ax.length by omega) (show(zz397 d).c9.length<=1048576 by have:=(Fy d).len;omega),WRs (k:=i),au],λhi=>by
   simp only[vg,hn',ltB_f.2 (show(n.ax.length:Int)<=(i:Int) by omega),cond_false]⟩) n.ax.length 0 _ FU h1 oaa rfl (by have:=ie;omega) oaa
  have ri:=zz45 (L:=Ce n) n.ax.length hld (λi n' hn'=>⟨λhi d hd hp=>by
   simp only[Ce,ct hi,bm,hd,tick_i hp.ok hp.wt.2,zz462 (show i<n'.ax.length by omega) (show(zz397 d).c9.length<=1048576 by have:=(Fy d).len;omega),WRs (k:=i),au],λhi=>by
   simp only[Ce,ltB_f.2 (show(n.ax.length:Int)<=(i:Int) by omega),cond_false]⟩) n.ax.length 0 _ FU h1 oaa rfl (by have:=ie;omega) oaa
  rw[show((0:Nat):Int)=0 from rfl] at rs ri
  have h2:=(rs).2.1
  have hls:=h2.ls
  have hl2:=h2.ld
  generalize zz399 n.ax.length 0 {n with lV:=n.lV+1}=n1 at*
  have radS:∀(n':ae) (i:Nat) (t:bR),(∀x∈t.ct,zz469 x)->t.ct.length<=4->iter (oD (i:Int) t) FU (0,n')=ς (i7 n' (t.ct.map (zz421 i t.bb.bh))):=λn' i t ht hl=>by
   have:=eG (step:=oD (i:Int) t) t.ct (λk n=>((k:Int),n)) (λn x=>acE (iU n (zz421 i t.bb.bh x)) λr=>ς (.next r)) ς oaa
    (λk x n hx hk=>by
     simp only[oD,ct hk,bm,hx,WRs (k:=k),zz421,au]
     simp_all) (λn=>by simp[oD]) n'
   refine Eq.trans (show iter (oD (i:Int) t) FU (0,n')=_ from this) ?_
   clear this
   have key:∀(l:List aD) (n':ae),(∀x∈l,zz469 x)->lU (λ(n:ae) x=>acE (iU n (zz421 i t.bb.bh x)) λr=>ς (ci.next (ρ:=ae) r)) ς l n'=ς (i7 n' (l.map (zz421 i t.bb.bh))):=by
    intro l
    induction l with
    |nil=>intro n' _;rfl
    |cons x l ih=>intro n' hx;rw[lU,zz37 (f:=zz421 i t.bb.bh x) ⟨by have:=(hx x (by simp)).2;simp only[zz421];omega,λ_ _=>trivial⟩];exact ih _ λy hy=>hx y (by simp[hy])
   simp_all
  have radI:∀(n':ae) (i:Nat) (t:bR),(∀x∈t.ct,zz469 x)->t.ct.length<=4->iter (wb (i:Int) t) FU (0,n')=ς (i7 n' (t.ct.map (zz421 i t.bb.bh))):=λn' i t ht hl=>by
   have:=eG (step:=wb (i:Int) t) t.ct (λk n=>((k:Int),n)) (λn x=>acE (uI n (zz421 i t.bb.bh x)) λr=>ς (.next r)) ς oaa
    (λk x n hx hk=>by
     simp only[wb,ct hk,bm,hx,WRs (k:=k),zz421,au]
     simp_all) (λn=>by simp[wb]) n'
   refine Eq.trans (show iter (wb (i:Int) t) FU (0,n')=_ from this) ?_
   clear this
   have key:∀(l:List aD) (n':ae),(∀x∈l,zz469 x)->lU (λ(n:ae) x=>acE (uI n (zz421 i t.bb.bh x)) λr=>ς (ci.next (ρ:=ae) r)) ς l n'=ς (i7 n' (l.map (zz421 i t.bb.bh))):=by
    intro l
    induction l with
    |nil=>intro n' _;rfl
    |cons x l ih=>intro n' hx;rw[lU,zz36 (f:=zz421 i t.bb.bh x) ⟨by have:=(hx x (by simp)).2;simp only[zz421];omega,λ_ _=>trivial⟩];exact ih _ λy hy=>hx y (by simp[hy])
   simp_all
  have ss:=zz47 (L:=vh) n1.aJ.length oaa (λi n' hn'=>⟨λhi s a hs ha hg hm=>by
   have hml:=zz401 hm
   have hk:=GU hg (m:=n'.d7) oaa
   simp only[vh,hn',ct hi,bm,hs,ha,aaB hg (m:=n'.d7) oaa (Gt hg.sp.page),acI,zz196 _ _ _ (show(kn s a n'.d7).lW.length<=1048576 by have:=hk.pl;omega),radS _ i _ hk.rd hk.rl,zz451,WRs (k:=i),au],λhi=>by
   simp only[vh,hn',ltB_f.2 (show(n1.aJ.length:Int)<=(i:Int) by omega),cond_false]⟩) n1.aJ.length 0 n1 FU h2 oaa rfl (by have:=ie;omega) oaa
  have si:=zz47 (L:=Cf n1) n1.aJ.length oaa (λi n' hn'=>⟨λhi s a hs ha hg hm=>by
   have hml:=zz401 hm
   have hk:=GU hg (m:=n'.d7) oaa
   simp only[Cf,ct hi,bm,hs,ha,aaA hg (m:=n'.d7) oaa (Gt hg.sp.page),acI,zz262 _ _ (show(kn s a n'.d7).lW.length<=1048576 by have:=hk.pl;omega),radI _ i _ hk.rd hk.rl,zz451,WRs (k:=i),au],λhi=>by
   simp only[Cf,ltB_f.2 (show(n1.aJ.length:Int)<=(i:Int) by omega),cond_false]⟩) n1.aJ.length 0 n1 FU h2 oaa rfl (by have:=ie;omega) oaa
  rw[show((0:Nat):Int)=0 from rfl] at ss si
  rw[rs.1]
  rw[ri.1]
  simp only[acH]
  rw[ss.1]
  rw[si.1]
  exact⟨rt,rt,(ss).2.1.mono oaa⟩
 exact⟨rt,rt,h.mono oaa⟩
def zz2(p:bE)(k:Int):Bool:=kw p&&(inR k 0 (p.fy-1)&&eqB (AC .i64 (Eb .i64 p.fj k) 1) 1)
theorem lc{p:bE}(h:kw p=ζ):1<=p.fy/\p.fy<=6:=by
 simp only[kw,hV,bU] at h;exact h.1
theorem Ra(p:bE)(k:Int):rh p k=ς (zz2 p k):=by
 simp only[rh,zz199,zz355,acH,zz2]
 cases hp:kw p
 .rfl
 have:=lc hp
 rw[bJ (n:=p.fy-1) oaa]
 cases hk:inR k 0 (p.fy-1)
 .rfl
 rw[leB_t.2 (bU.1 hk).1];rfl
theorem zz218(p:bE)(k:Int):qQ p k=ς (zz2 p k):=by
 simp only[qQ,zz147,zz360,acH,zz2]
 cases hp:kw p
 .rfl
 have:=lc hp
 rw[bJ (n:=p.fy-1) oaa]
 cases hk:inR k 0 (p.fy-1)
 .rfl
 rw[leB_t.2 (bU.1 hk).1];rfl
def zz426(p:bE)(k:Int)(up:Bool):bE:=
 bif !kw p||!inR k 0 (p.fy-1) then p else⟨p.fy,bif up then bOr .i64 p.fj (mD .i64 1 k) else wW .i64 p.fj (mD .i64 1 k)⟩
theorem aai(p:bE)(k:Int)(up:Bool):sW p k up=ς (zz426 p k up):=by
 simp only[sW,zz199,zz355,acH,zz426]
 cases hp:kw p
 .rfl
 have:=lc hp
 rw[bJ (n:=p.fy-1) oaa]
 cases hk:inR k 0 (p.fy-1)
 .rfl
 rw[leB_t.2 (bU.1 hk).1];grind
theorem aah(p:bE)(k:Int)(up:Bool):sx p k up=ς (zz426 p k up):=by
 simp only[sx,zz147,zz360,acH,zz426]
 cases hp:kw p
 .rfl
 have:=lc hp
 rw[bJ (n:=p.fy-1) oaa]
 cases hk:inR k 0 (p.fy-1)
 .rfl
 rw[leB_t.2 (bU.1 hk).1];grind
theorem zz266:∀c∈v0 7,∀d∈v0 (2^c),∀i∈v0 c,
 (inR (Jv .i64 (d:Int) (mD .i64 1 (i:Int))) 0 (WR (mD .i64 1 (c:Int)-1))&&(inR (bOr .i64 (d:Int) (mD .i64 1 (i:Int))) 0 (WR (mD .i64 1 (c:Int)-1))&&inR (wW .i64 (d:Int) (mD .i64 1 (i:Int))) 0 (WR (mD .i64 1 (c:Int)-1))))=true:=by decide+kernel
theorem shl_eq:∀c∈v0 7,WR (mD .i64 1 (c:Int)-1)=((2^c:Nat):Int)-1:=by decide+kernel
theorem zz223{c:Nat}(hc:c<=6){d k:Int}(hd:inR d 0 (WR (mD .i64 1 (c:Int)-1))=ζ)(hk:0<=k/\k<c):
 inR (Jv .i64 d (mD .i64 1 k)) 0 (WR (mD .i64 1 (c:Int)-1))=ζ/\inR (bOr .i64 d (mD .i64 1 k)) 0 (WR (mD .i64 1 (c:Int)-1))=ζ/\inR (wW .i64 d (mD .i64 1 k)) 0 (WR (mD .i64 1 (c:Int)-1))=true:=by
 have hd':=bU.1 hd
 rw[shl_eq c (acQ.2 oaa)] at hd'
 have:=zz266 c (acQ.2 oaa) d.toNat (acQ.2 oaa) k.toNat (acQ.2 oaa)
 grind
theorem Xw{p:bE}(h:kw p=ζ)(k:Int)(up:Bool):kw (zz426 p k up)=ζ/\(zz426 p k up).fy=p.fy:=by
 rw[zz426,h]
 cases hk:inR k 0 (p.fy-1)
 .simp_all
 have hk:=bU.1 hk
 have hp:=lc h
 simp only[kw,hV] at h
 have hm:=zz223 (c:=p.fy.toNat) oaa (d:=p.fj) (k:=k) (by grind) oaa
 rw[show(p.fy.toNat:Int)=p.fy by omega] at hm
 simp only[acP,kw,hV,au]
 grind
def wt(a b:Int):Int:=acF (WR (zz350 17 [a,b]*zz350 17 [a,b])) 2147483647
theorem wt_s(a b:Int):jp a b=ς (wt a b):=by simp[jp,eu,wt]
theorem wt_i(a b:Int):lN a b=ς (wt a b):=by simp[lN,et,wt]
theorem wt_nn(a b:Int):0<=wt a b:=by
 have h:=zz390 17 [a,b]
 unfold hM at h
 have h2:0<=zz350 17 [a,b]*zz350 17 [a,b]:=Int.mul_nonneg h.1 h.1
 have h3:zz350 17 [a,b]*zz350 17 [a,b]<=2147483647*2147483647:=Int.mul_le_mul oaa oaa h.1 oaa
 rw[wt,bJ oaa]
 grind
def zz9(p:bE)(i v:Int)(k:Int):Int:=bif zz2 p k&&(ltB v 0||ltB (wt v i) (wt k i)) then k else v
def Th(p:bE)(i:Int):Nat->Nat->Int->Int
 |0,_,v=>v
 |c+1,k,v=>Th p i c (k+1) (zz9 p i v k)
def sel(p:bE)(i:Int):Int:=Th p i p.fy.toNat 0 (-1)
theorem I3{p:bE}(h:kw p=ζ)(i:Int):∀(c k fu:Nat) (v:Int),k+c=p.fy.toNat->c<fu->iter (mK p i) fu (v,(k:Int))=ς (Th p i c k v)
 |0,k,fu,v,h1,h2=>by
  have hp:=lc h
  cases fu with
  |zero=>omega
  |succ fu=>rw[iter];simp[mK,ltB_f.2 (show p.fy<=(k:Int) by omega),Th]
 |c+1,k,fu,v,h1,h2=>by
  have hp:=lc h
  cases fu with
  |zero=>omega
  |succ fu=>
   have hc:(bif ltB (k:Int) p.fy then ς (ltB (k:Int) 6) else ς η)=ς true:=by rw[ltB_t.2 (show(k:Int)<p.fy by omega),ltB_t.2 (show(k:Int)<6 by omega)];rfl
   have hs:(acE (bif zz2 p k then(bif ltB v 0 then ς ζ else ς (ltB (wt v i) (wt k i))) else ς η) λ(v12:Bool)=>acE (bif v12 then ς (k:Int) else ς v) λ(v15:Int)=>ς (ci.next (ρ:=Int) (v15,WR ((k:Int)+1))))=ς (.next (zz9 p i v k,((k+1:Nat):Int))):=by
    rw[zz396 oaa,zz9]
    cases zz2 p k<;>cases ltB v 0<;>cases ltB (wt v i) (wt k i)<;>rfl
   rw[iter]
   simp only[mK,hc,Ra,wt_s,hs,au]
   exact I3 h i c (k+1) fu _ oaa oaa
def JB(i v:Int):Int:=bif ltB v 0 then-1 else wt v i
theorem I2{p:bE}(h:kw p=ζ)(i:Int):∀(c k fu:Nat) (v:Int),k+c=p.fy.toNat->c<fu->iter (jW p i) fu (v,JB i v,(k:Int))=ς (Th p i c k v)
 |0,k,fu,v,h1,h2=>by
  have hp:=lc h
  cases fu with
  |zero=>omega
  |succ fu=>rw[iter];simp[jW,ltB_f.2 (show p.fy<=(k:Int) by omega),Th]
 |c+1,k,fu,v,h1,h2=>by
  have hp:=lc h
  cases fu with
  |zero=>omega
  |succ fu=>
   have hs:jW p i (v,JB i v,(k:Int))=ς (.next (zz9 p i v k,JB i (zz9 p i v k),((k+1:Nat):Int))):=by
    simp only[jW,ltB_t.2 (show(k:Int)<p.fy by omega),zz218,wt_i,WRs (k:=k),zz9,au]
    have hw:=wt_nn k i
    have hk:JB i (k:Int)=wt k i:=by rw[JB,ltB_f.2 (show(0:Int)<=k by omega)];rfl
    have hb:ltB (JB i v) (wt k i)=(ltB v 0||ltB (wt v i) (wt k i)):=by
     rw[JB];cases ltB v 0
     .rfl
     simp only[cond_true,ada];exact ltB_t.2 oaa
    rw[hb]
    cases zz2 p k<;>cases ltB v 0||ltB (wt v i) (wt k i)<;>simp[hk]
   rw[iter,hs]
   exact I2 h i c (k+1) fu _ oaa oaa
theorem sel_s{p:bE}(h:kw p=ζ)(i:Int):nz p i=ς (sel p i):=by
 have hp:=lc h
 have:=I3 h i p.fy.toNat 0 FU (-1) oaa (by have:=ie;omega)
 rw[show((0:Nat):Int)=0 from rfl] at this
 rw[nz,this];rfl
theorem sel_i{p:bE}(h:kw p=ζ)(i:Int):mX p i=ς (sel p i):=by
 have hp:=lc h
 have:=I2 h i p.fy.toNat 0 FU (-1) oaa (by have:=ie;omega)
 rw[show((0:Nat):Int)=0 from rfl,show JB i (-1)= -1 from by simp[JB,ltB]] at this
 simp only[mX,zz147,h,this,sel,au]
def zz14(p q:bE):Nat->Nat->List ag->List ag
 |0,_,l=>l
 |c+1,i,l=>zz14 p q c (i+1) (bif eqB (sel p i) (sel q i) then l else match l[i]? with
  |some s=>l.set i (zz394 s)
  |none=>l)
def zz416(n:ae)(k:Int)(up:Bool):Bool×ae:=
 let q:=zz426 n.fP k up
 bif !inR k 0 (n.fP.fy-1)||(booB (zz2 n.fP k) up||eqB q.fj 0) then(η,n) else(ζ,{n with aJ:=zz14 n.fP q n.aJ.length 0 n.aJ,fP:=q})
theorem vY(p q:bE):∀(c i:Nat) (l:List ag) (j:Nat),(zz14 p q c i l)[j]?=l[j]?\/∃s,l[j]?=ς s/\(zz14 p q c i l)[j]?=ς (zz394 s)
 |0,i,l,j=>.inl rfl
 |c+1,i,l,j=>by
  rw[zz14]
  cases eqB (sel p i) (sel q i)
  .simp only[cond_false]
   cases hi:l[i]? with
   |none=>exact vY p q c (i+1) l j
   |some s=>
    simp only
    by_cases e:i=j
    .subst e
     have hg:(l.set i (zz394 s))[i]?=ς (zz394 s):=by simp[(zz334.1 hi).1]
     rcases vY p q c (i+1) (l.set i (zz394 s)) i with h|⟨t,h1,h2⟩
     .simp_all
     rw[hg] at h1;cases h1;exact .inr ⟨s,hi,h2⟩
    have hg:(l.set i (zz394 s))[j]?=l[j]?:=by rw[acf,if_neg e]
    rcases vY p q c (i+1) (l.set i (zz394 s)) j with h|⟨t,h1,h2⟩
    .simp_all
    grind
  exact vY p q c (i+1) l j
theorem zz120(p q:bE):∀(c i:Nat) (l:List ag),(zz14 p q c i l).length=l.length
 |0,i,l=>rfl
 |c+1,i,l=>by
  rw[zz14,zz120]
  grind
theorem FN{L:Int×List ag->Option (ci (Int×List ag) (List ag))}{p q:bE}(N:Nat)(hL:∀(i:Nat) (l:List ag),l.length=N->(i<N->(∀s∈l,dS s)->L ((i:Int),l)=ς (.next (((i+1:Nat):Int),bif eqB (sel p i) (sel q i) then l else match l[i]? with|some s=>l.set i (zz394 s)|none=>l)))/\(N<=i->L ((i:Int),l)=ς (.done l))):
 ∀(c i fu:Nat) (l:List ag),i+c=N->l.length=N->(∀s∈l,dS s)->c<fu->iter L fu ((i:Int),l)=ς (zz14 p q c i l)
 |0,i,fu,l,h1,h2,h3,h4=>by
  cases fu with
  |zero=>omega
  |succ fu=>rw[iter,(hL i l h2).2 oaa];rfl
 |c+1,i,fu,l,h1,h2,h3,h4=>by
  cases fu with
  |zero=>omega
  |succ fu=>
   rw[iter,(hL i l h2).1 oaa h3,zz14]
   simp only
   refine FN N hL c (i+1) fu _ oaa ?_ (λs hs=>?_) oaa
   .grind
   revert hs
   cases eqB (sel p i) (sel q i)
   .simp only[cond_false]
    cases hi:l[i]? with
    |none=>exact h3 s
    |some t=>
     intro hs
     rcases List.mem_or_eq_of_mem_set hs with hs|rfl
     .exact h3 s hs
     exact h3 t (zz326 hi)
   exact h3 s
theorem zz174(h:NP B n)(k:Int)(up:Bool):xQ n k up=ς (zz416 n k up)/\(∀e:dJ,e.da=k->eqB e.bu 12=up->o9 n e=ς (zz416 n k up))/\NP B (zz416 n k up).2:=by
 have hp:=lc h.core
 have hls:=h.ls
 have hq:=Xw h.core k up
 have hok:∀s∈n.aJ,dS s:=λs hs=>by
  obtain⟨i,hi⟩:=aaP hs
  have hlt:=(zz334.1 hi).1
  obtain⟨d,s',a,e1,e2,e3,hm⟩:=h.at_ (show i<n.ax.length by omega)
  rw[hi] at e2;cases e2;exact hm.sg.sp.ok
 have hl4:=h.ld
 have r1:=FN (L:=qO n (zz426 n.fP k up)) (p:=n.fP) (q:=zz426 n.fP k up) n.aJ.length (λi l hl=>⟨λhi hl3=>by
  obtain⟨s,hs⟩:∃s,l[i]?=ς s:=⟨_,zz330 oaa⟩
  simp only[qO,hl,ct hi,sel_s h.core,sel_s hq.1,bm,hs,fail_s (hl3 s (zz326 hs)),acI,WRs (k:=i),au]
  grind,λhi=>by
  simp only[qO,hl,ltB_f.2 (show(n.aJ.length:Int)<=(i:Int) by omega),cond_false]⟩) n.aJ.length 0 FU n.aJ oaa rfl hok (by have:=ie;omega)
 have r2:=FN (L:=lO n (zz426 n.fP k up)) (p:=n.fP) (q:=zz426 n.fP k up) n.aJ.length (λi l hl=>⟨λhi hl3=>by
  obtain⟨s,hs⟩:∃s,l[i]?=ς s:=⟨_,zz330 oaa⟩
  simp only[lO,ct hi,sel_i h.core,sel_i hq.1,bm,hs,fail_i (hl3 s (zz326 hs)),acI,WRs (k:=i),au]
  grind,λhi=>by
  simp only[lO,ltB_f.2 (show(n.aJ.length:Int)<=(i:Int) by omega),cond_false]⟩) n.aJ.length 0 FU n.aJ oaa rfl hok (by have:=ie;omega)
 rw[show((0:Nat):Int)=0 from rfl] at r1 r2
 refine⟨?_,λe he hu=>?_,?_⟩
 .simp only[xQ,aai,zz355,Ra,r1,acH,bJ (n:=n.fP.fy-1) oaa,zz416]
  grind
 .simp only[o9,he,hu,aah,zz360,zz218,r2,acH,bJ (n:=n.fP.fy-1) oaa,zz416]
  grind
 simp only[zz416]
 cases hb:!inR k 0 (n.fP.fy-1)||(booB (zz2 n.fP k) up||eqB (zz426 n.fP k up).fj 0)
 .simp only[aaQ] at hb
  refine {h with core:=hq.1,up:=zz186 hb.2.2,ls:=by simp only[cond_false];rw[zz120];exact hls,m:=λi d s a hd hs ha=>?_}
  simp only[cond_false] at hd hs ha ⊢
  rcases vY n.fP (zz426 n.fP k up) n.aJ.length 0 n.aJ i with e|⟨t,e1,e2⟩
  .rw[e] at hs;exact h.m i d s a hd hs ha
  rw[e2] at hs;cases hs
  have hm:=h.m i d t a hd e1 ha
  exact⟨hm.dp,hm.dc,zz301 hm.sg,hm.sc,hm.si,hm.ids⟩
 exact h
end Go.AM
