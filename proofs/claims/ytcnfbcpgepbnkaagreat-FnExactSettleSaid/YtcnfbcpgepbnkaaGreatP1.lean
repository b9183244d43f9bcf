/- A part. -/
import Derived.Test.YtcnfbcpgepbnkaaGreatL
set_option linter.unusedVariables false
set_option linter.unusedSimpArgs false
set_option maxHeartbeats 4000000
open Option renaming some->ς,none->ξ
open Bool renaming true->ζ,false->η
open True renaming intro->θ
open Option renaming bind_some->aeW,bind->aeP,map_some->afb
open List renaming getElem?_eq_getElem->hV,getElem?_eq_some_iff->f5,mem_of_getElem?->v0,nil_append->adT,mem_append->aau,replicate->aal,length_cons->acn,pairwise_cons->ae2,getElem?_of_mem->ac7,takeWhile_append_dropWhile->afe,getElem?_mapIdx->aeS,pairwise_append->ae7,mem_cons->aa2,getElem_mem->ae5,all_eq_true->aa4,takeWhile_cons->ae9,ext_getElem?->ae6,mem_singleton->ad9,take_of_length_le->aff,cons_append->ade,dropWhile_subset->afn,foldl_cons->afg,length->ae8,getElem?_set->afc,take_add_one->afi,append_assoc->afj,drop_eq_getElem_cons->adI,rel_of_pairwise_cons->afs,range->f6,length_nil->afk,getElem?_eq_none->aft,drop_left->afo,drop_drop->ad4,takeWhile_subset->afu,length_filter_le->afv,length_replicate->afw,dropWhile_cons->afx,length_append->ads,mem_map->adP,drop_length->afB,length_take->ad0,filter_cons->afC,mem_filter->afl,take_left->afr
open Bool renaming and_eq_true->f4,eq_iff_iff->aeY,or_eq_false_iff->adc,not_eq_false'->afa,and_true->ae3,not_eq_true'->ac8,true_and->afp,or_self->afq,and_false->afm,false_and->afF,false_or->adD,or_false->afd
open Int renaming toNat_natCast->aeX,tmod_eq_emod_of_nonneg->ae1,add_assoc->aeZ,reduceAdd->ae0,tmod->aeQ,add_emod_right->afy,emod_lt_of_pos->afz,emod_eq_of_lt->afA,natCast_mul->afD,emod_nonneg->afE
open Nat renaming add_sub_cancel->ae4,mul_le_mul->afh,le_refl->abk,zero_le->abm,le_trans->acR
namespace Go.AM
variable{σ τ ρ α β:Type}{a b:Int}{x:List Go.AM.D}
theorem gP:9223372036854775808<=FU:=by unfold FU;omega
def lB{α σ ρ:Type}(body:σ->α->Option (bJ σ ρ))(fin:σ->Option ρ):List α->σ->Option ρ
 |[],s=>fin s
 |x::xs,s=>match body s x with
  |some (.next s')=>lB body fin xs s'
  |some (.done r)=>ς r
  |none=>ξ
def DQ(f:σ->τ):Option (bJ σ ρ)->Option (bJ τ ρ)
 |some (.next s)=>ς (.next (f s))
 |some (.done r)=>ς (.done r)
 |none=>ξ
@[simp] theorem stepM_next (f:σ->τ) (s:σ):DQ (ρ:=ρ) f (ς (.next s))=ς (.next (f s)):=rfl
@[simp] theorem stepM_done (f:σ->τ) (r:ρ):DQ f (ς (.done r))=ς (.done r):=rfl
@[simp] theorem stepM_none (f:σ->τ):DQ (ρ:=ρ) f ξ=none:=rfl
@[simp] theorem stepM_cond (f:σ->τ) (b:Bool) (x y:Option (bJ σ ρ)):DQ f (bif b then x else y)=bif b then DQ f x else DQ f y:=by cases b<;>rfl
@[simp] theorem stepM_bind (f:σ->τ) (o:Option α) (k:α->Option (bJ σ ρ)):DQ f (aeP o k)=aeP o (λa=>DQ f (k a)):=by cases o<;>rfl
@[simp] theorem dn_some (r:ρ):dn (σ:=σ) (ς r)=ς (.done r):=rfl
@[simp] theorem dn_none {ρ:Type}:dn (σ:=σ) (ρ:=ρ) ξ=none:=rfl
theorem eg{step:τ->Option (bJ τ ρ)}(xs:List α)(mk:Nat->σ->τ)(body:σ->α->Option (bJ σ ρ))(fin:σ->Option ρ)(hl:xs.length<=9223372036854775806)(hs:∀(k:Nat) (x:α) (s:σ),xs[k]?=ς x->k<xs.length->step (mk k s)=DQ (mk (k+1)) (body s x))(he:∀s,step (mk xs.length s)=dn (fin s))(s0:σ):iter step FU (mk 0 s0)=lB body fin xs s0:=by
 have key:∀(m n:Nat) (s:σ) (k:Nat),m=xs.length-k->k<=xs.length->m<n->iter step n (mk k s)=lB body fin (xs.drop k) s:=by
  intro m
  induction m with
  |zero=>
   intro n s k hm hk hn
   cases n with
   |zero=>omega
   |succ n=>
    have:k=xs.length:=by omega
    subst this
    rw[afB,lB,iter,he]
    cases fin s<;>rfl
  |succ m ih=>
   intro n s k hm hk hn
   cases n with
   |zero=>omega
   |succ n=>
    have hlt:k<xs.length:=by omega
    rw[adI hlt,lB,iter,hs k xs[k] s (hV hlt) hlt]
    cases hb:body s xs[k] with
    |none=>rfl
    |some o=>
     cases o with
     |done r=>rfl
     |next s'=>exact ih n s' (k+1) oaa oaa oaa
 have:=key (xs.length-0) FU s0 0 rfl (abm _) (by have:=gP;omega)
 simp_all
theorem bz(xs:List α)(k:Nat):ix xs (k:Int)=xs[k]?:=by simp[ix,leB]
theorem bY{n:Int}(h: -9223372036854775808<=n/\n<=9223372036854775807):WR n=n:=Uh h
theorem lW{k:Nat}(h:k<9223372036854775807):WR ((k:Int)+1)=((k+1:Nat):Int):=by rw[bY oaa];omega
theorem WRs{k:Nat}(h:k<9223372036854775807:=by omega):WR ((k:Int)+1)=((k+1:Nat):Int):=lW h
theorem rt{p:Prop}(h:p:=by first|rfl|trivial):p:=h
theorem ci{a b:Nat}(h:a<b):ltB (a:Int) (b:Int)=true:=by simp[ltB,h]
theorem bZ(a:Int):ltB a a=false:=by simp[ltB]
theorem bT(a:Int):eqB a a=true:=by simp[eqB]
theorem KI{step:Int×List β->Option (bJ (Int×List β) (List β))}(f:α->β)(z:β)(xs:List α)(hl:xs.length<=9223372036854775806)(hs:∀(k:Nat) (x:α) (v:List β),xs[k]?=ς x->v.length=xs.length->step ((k:Int),v)=ς (.next (((k+1:Nat):Int),v.set k (f x))))(he:∀v,step ((xs.length:Nat),v)=ς (.done v)):iter step FU (0,aal xs.length z)=ς (xs.map f):=by
 have key:∀(m n:Nat) (k:Nat),m=xs.length-k->k<=xs.length->m<n->iter step n ((k:Int),(xs.take k).map f++aal (xs.length-k) z)=ς (xs.map f):=by
  intro m
  induction m with
  |zero=>
   intro n k hm hk hn
   cases n with
   |zero=>omega
   |succ n=>
    have:k=xs.length:=by omega
    subst this
    rw[iter,he]
    simp
  |succ m ih=>
   intro n k hm hk hn
   cases n with
   |zero=>omega
   |succ n=>
    have hlt:k<xs.length:=by omega
    rw[iter,hs k xs[k] _ (hV hlt) (by simp;omega)]
    have e:((xs.take k).map f++aal (xs.length-k) z).set k (f xs[k])=(xs.take (k+1)).map f++aal (xs.length-(k+1)) z:=by
     apply ae6
     intro j
     rw[afc]
     by_cases hj:k=j
     .grind
     grind
    grind
 have:=key (xs.length-0) FU 0 rfl (abm _) (by have:=gP;omega)
 simp_all
attribute [local simp] bZ bT bz
def okL(ok:α->Prop)(xs:List α):Prop:=xs.length<=1048576/\∀x∈xs,ok x
def p5(pre:α->Prop)(xs:List α):Prop:=xs.length<=9223372036854775807/\∀x∈xs,pre x
theorem BK{α ρ:Type}{body:Unit->α->Option (bJ Unit ρ)}{fin:Unit->Option ρ}:∀(xs:List α),(∀x∈xs,body () x=ς (.next ()))->lB body fin xs ()=fin ()
 |[],_=>rfl
 |x::xs,h=>by rw[lB,h x (by simp)];exact BK xs (λy hy=>h y (by simp[hy]))
def Sz(f:α->Int->Option Int)(ok pre:α->Prop):Prop:=
 ∀a left,pre a->0<=left->left<=1048576->∃r,f a left=ς r/\r<=1048576/\((ltB r 0=ζ/\r= -1)\/(ltB r 0=η/\0<=r/\ok a))
theorem Ox{r:Int}(h:r<0):ltB r 0=true:=by simp[ltB,h]
theorem Ow{r:Int}(h:0<=r):ltB r 0=false:=by simp_all
theorem M1{pre:α->Prop}{f:List α->Int->Option Int}(hf:∀xs left,f xs left=bif ltB (WR (left-(xs.length:Int))) 0 then ς (-1) else ς (WR (left-(xs.length:Int)))):Sz f (okL λ_=>True) (p5 pre):=by
 intro xs left hp h0 h1
 have:=hp.1
 rw[hf,bY oaa]
 by_cases hc:left<xs.length
 .refine⟨-1,by rw[Ox oaa];rfl,by omega,.inl ⟨Ox oaa,rfl⟩⟩
 refine⟨left-xs.length,by rw[Ow oaa];rfl,by omega,.inr ⟨Ow oaa,by omega,by omega,λ_ _=>trivial⟩⟩
theorem ym{e:α->Int->Option Int}{ok pre:α->Prop}{f:List α->Int->Option Int}{L:List α->Int×Int->Option (bJ (Int×Int) Int)}(he:Sz e ok pre)(hf:∀xs left,f xs left=bif ltB (WR (left-(xs.length:Int))) 0 then ς (-1) else iter (L xs) FU (WR (left-(xs.length:Int)),0))(hL:∀xs v1 v2,L xs (v1,v2)=bif ltB v2 (xs.length:Int) then(aeP (ix xs v2) λx=>aeP (e x v1) λr=>bif ltB r 0 then dn (ς (-1)) else ς (.next (r,WR (v2+1)))) else dn (ς v1)):
 Sz f (okL ok) (p5 pre):=by
 intro xs left hp h0 h1
 have hl:=hp.1
 rw[hf,bY oaa]
 by_cases hc:left<xs.length
 .exact⟨-1,by rw[Ox oaa];rfl,by omega,.inl ⟨Ox oaa,rfl⟩⟩
 rw[Ow oaa]
 have hfor:=eg (step:=L xs) xs (λk (s:Int)=>(s,(k:Int))) (λs x=>aeP (e x s) λr=>bif ltB r 0 then ς (.done (-1)) else ς (.next r)) (λs=>ς s) oaa
  (λk x s hx hk=>by simp[hL,ci hk,hx,lW (show k<9223372036854775807 by omega)]) (λs=>by simp[hL]) (left-xs.length)
 have key:∀(ys:List α) (s:Int),(∀y∈ys,pre y)->0<=s->s<=1048576->∃r,lB (λs x=>aeP (e x s) λr=>bif ltB r 0 then ς (.done (-1)) else ς (.next r)) (λs=>ς s) ys s=ς r/\r<=1048576/\((ltB r 0=ζ/\r= -1)\/(ltB r 0=η/\0<=r/\∀y∈ys,ok y)):=by
  intro ys
  induction ys with
  |nil=>intro s _ h2 h3;exact⟨s,rfl,h3,.inr ⟨Ow h2,h2,by simp⟩⟩
  |cons y ys ih=>
   intro s hy h2 h3
   obtain⟨r,k1,k2,k3⟩:=he y s (hy y (by simp)) h2 h3
   rw[lB,k1]
   grind
 obtain⟨r,m1,m2,m3⟩:=key xs (left-xs.length) hp.2 oaa oaa
 refine⟨r,by simp_all,m2,?_⟩
 rcases m3 with m3|⟨m3,m4,m5⟩
 .exact .inl m3
 exact .inr ⟨m3,m4,by omega,m5⟩
theorem qI{ok:α->Prop}{t:α->Option α}(z:α){f:List α->Option (List α)}{L:List α->Int×List α->Option (bJ (Int×List α) (List α))}{by_:Nat}(hby:by_<=100000)(ht:∀a,ok a->t a=ς a)(hf:∀xs,f xs=bif jh by_ (xs.length:Int) (xs.length:Int) then(aeP (iter (L xs) FU (0,aal ((xs.length:Int)).toNat z)) λv=>ς v) else ξ)(hL:∀xs v1 v2,L xs (v1,v2)=bif ltB v1 (xs.length:Int) then(aeP (ix xs v1) λx=>aeP (t x) λr=>aeP (ix v2 v1) λ_=>ς (.next (WR (v1+1),v2.set v1.toNat r))) else ς (.done v2)):
 ∀xs,okL ok xs->f xs=ς xs:=by
 intro xs hx
 have hl:=hx.1
 have:=KI (step:=L xs) id z xs oaa
  (λk x v hx' hv=>by
   have hk:=(f5.1 hx').1
   simp[hL,ci hk,hx',ht x (hx.2 x (v0 hx')),lW (show k<9223372036854775807 by omega),hV (show k<v.length by omega)])
  (λv=>by simp[hL])
 simp only[List.map_id] at this
 have hm:jh by_ (xs.length:Int) (xs.length:Int)=true:=by
  simp only[jh,decide_eq_true_eq]
  have h1:by_*xs.length<=100000*1048576:=afh hby hl
  have h2:((by_*xs.length:Nat):Int)<=104857600000:=by omega
  rw[afD] at h2
  omega
 simp_all
theorem qf{ok:α->Prop}{e:α->α->Option Bool}{f:List α->List α->Option Bool}{L:List α->List α->Int->Option (bJ Int Bool)}(he:∀a,ok a->e a a=ς ζ)(hf:∀xs ys,f xs ys=bif !eqB (xs.length:Int) (ys.length:Int) then ς η else iter (L xs ys) FU 0)(hL:∀xs ys v1,L xs ys v1=bif ltB v1 (xs.length:Int) then(aeP (ix xs v1) λx=>aeP (ix ys v1) λy=>aeP (e x y) λr=>bif !r then dn (ς η) else ς (.next (WR (v1+1)))) else dn (ς ζ)):
 ∀xs,okL ok xs->f xs xs=ς true:=by
 intro xs hx
 have hl:=hx.1
 have:=eg (step:=L xs xs) xs (λk (_:Unit)=>(k:Int)) (λ_ x=>aeP (e x x) λr=>bif !r then ς (.done η) else ς (.next ())) (λ_=>ς ζ) oaa
  (λk x s hx' hk=>by simp[hL,ci hk,hx',lW (show k<9223372036854775807 by omega)]) (λs=>by simp[hL]) ()
 rw[hf,bT]
 simp only[Bool.not_true,cond_false]
 refine Eq.trans (show iter (L xs xs) FU 0=_ from this) ?_
 exact BK xs (λx hx'=>by simp[he x (hx.2 x hx')])
def tv(by_:Nat)(p:α->Bool)(f:α->β)(acc:List β)(x:α):Option (bJ (List β) (List β)):=
 bif p x then(bif c8 by_ (acc++[f x]).length then ς (.next (acc++[f x])) else ξ) else ς (.next acc)
theorem uH{α β:Type}{by_:Nat}(hb:by_<=100000)(p:α->Bool)(f:α->β):∀(xs:List α) (acc:List β),acc.length+xs.length<=1048576->lB (tv by_ p f) ς xs acc=ς (acc++(xs.filter p).map f)
 |[],acc,h=>by simp[lB]
 |x::xs,acc,h=>by
  simp only[acn] at h
  rw[lB]
  cases hp:p x with
  |false=>
   rw[List.filter_cons_of_neg (by simp[hp])]
   simpa [tv,hp] using uH hb p f xs acc oaa
  |true=>
   have ha:c8 by_ (acc++[f x]).length=true:=by
    have h1:(acc++[f x]).length*by_<=1048577*100000:=afh (by simp;omega) hb
    simp only[c8,decide_eq_true_eq]
    refine⟨by omega,by simp;omega⟩
   rw[List.filter_cons_of_pos (by simp[hp])]
   simp only[tv,hp,ha,cond_true]
   rw[uH hb p f xs (acc++[f x]) (by simp;omega)]
   simp
theorem cy{by_ n:Nat}(hb:by_<=100000)(hn:n<=1048577):c8 by_ n=true:=by
 have h1:n*by_<=1048577*100000:=afh hn hb
 simp only[c8,decide_eq_true_eq]
 omega
def B8(n:Int):Prop:=0<=n/\n<=255
theorem aar{n:Int}(h:(Lit.int .u8 n).wf=ζ):B8 n:=by
 simp[Lit.wf,IntKind.min,IntKind.max,IntKind.signed,IntKind.bits] at h
 exact⟨by omega,by omega⟩
theorem wc{L:Int->Option (bJ Int Int)}(xs:List α)(p:α->Bool)(hl:xs.length<=9223372036854775806)(hs:∀(k:Nat) (x:α),xs[k]?=ς x->k<xs.length->L (k:Int)=bif p x then ς (.done (k:Int)) else ς (.next ((k+1:Nat):Int)))(he:L (xs.length:Int)=ς (.done (-1))):
 iter L FU 0=ς (oR p 0 xs):=by
 have key:∀(m n:Nat) (k:Nat),m=xs.length-k->k<=xs.length->m<n->iter L n (k:Int)=ς (oR p k (xs.drop k)):=by
  intro m
  induction m with
  |zero=>
   intro n k hm hk hn
   cases n with
   |zero=>omega
   |succ n=>
    have:k=xs.length:=by omega
    subst this
    rw[iter,he,afB,oR]
  |succ m ih=>
   intro n k hm hk hn
   cases n with
   |zero=>omega
   |succ n=>
    have hlt:k<xs.length:=by omega
    rw[iter,hs k xs[k] (hV hlt) hlt,X1 hlt]
    cases p xs[k] with
    |true=>rfl
    |false=>grind
 have:=key (xs.length-0) FU 0 rfl (abm _) (by have:=gP;omega)
 simp_all
theorem Eo{α:Type}(p:α->Bool):∀(xs:List α) (i:Nat),oR p (i:Int) xs= -1/\(∀x∈xs,p x=η)\/∃j:Nat,oR p (i:Int) xs=((i+j:Nat):Int)/\∃x,xs[j]?=ς x/\p x=ζ/\∀y∈xs.take j,p y=η
 |[],i=>.inl ⟨rfl,by simp⟩
 |x::xs,i=>by
  rw[oR]
  cases hp:p x with
  |true=>exact .inr ⟨0,by simp,x,rfl,hp,by simp⟩
  |false=>
   rcases Eo p xs (i+1) with⟨h1,h2⟩|⟨j,h1,y,h2,h3,h4⟩
   .simp_all
   refine .inr ⟨j+1,?_,y,by simp_all,h3,by simp_all⟩
   grind
theorem Nn{L:Int->Option (bJ Int Bool)}(xs:List α)(p:α->Bool)(hl:xs.length<=9223372036854775806)(hs:∀(k:Nat) (x:α),xs[k]?=ς x->k<xs.length->L (k:Int)=bif p x then ς (.done ζ) else ς (.next ((k+1:Nat):Int)))(he:L (xs.length:Int)=ς (.done η)):
 iter L FU 0=ς (xs.any p):=by
 have:=eg (step:=L) xs (λk (_:Unit)=>(k:Int)) (λ_ x=>bif p x then ς (.done ζ) else ς (.next ())) (λ_=>ς η) hl
  (λk x s hx hk=>by simp_all) (λs=>by rw[he];rfl) ()
 refine Eq.trans (show iter L FU 0=_ from this) ?_
 have key:∀xs:List α,lB (λ(_:Unit) x=>bif p x then ς (bJ.done ζ) else ς (.next ())) (λ_=>ς η) xs ()=ς (xs.any p):=by
  intro xs
  induction xs with
  |nil=>rfl
  |cons x xs ih=>rw[lB];grind
 exact key xs
theorem WQ{L:Int->Option (bJ Int Bool)}(xs:List α)(p:α->Bool)(hl:xs.length<=9223372036854775806)(hs:∀(k:Nat) (x:α),xs[k]?=ς x->k<xs.length->L (k:Int)=bif p x then ς (.next ((k+1:Nat):Int)) else ς (.done η))(he:L (xs.length:Int)=ς (.done ζ)):
 iter L FU 0=ς (xs.all p):=by
 have:=eg (step:=L) xs (λk (_:Unit)=>(k:Int)) (λ_ x=>bif p x then ς (.next ()) else ς (.done η)) (λ_=>ς ζ) hl
  (λk x s hx hk=>by simp_all) (λs=>by rw[he];rfl) ()
 refine Eq.trans (show iter L FU 0=_ from this) ?_
 have key:∀xs:List α,lB (λ(_:Unit) x=>bif p x then ς (.next ()) else ς (bJ.done η)) (λ_=>ς ζ) xs ()=ς (xs.all p):=by
  intro xs
  induction xs with
  |nil=>rfl
  |cons x xs ih=>rw[lB];grind
 exact key xs
def Mk(f:α->Int->Option Int)(ok:α->Prop)(B:Int):Prop:=
 ∀a k,ok a->0<=k->k+B<=9223372036854775807->∃k',f a k=ς k'/\k<=k'/\k'<=k+B
theorem qx{f:List α->Int->Option Int}{L:List α->Int×Int->Option (bJ (Int×Int) Int)}{ok:α->Prop}{B:Int}(hb:0<=b)(hB:1048576*b<=B)(hf:∀xs k,f xs k=aeP (iter (L xs) FU (k,0)) λr=>ς r)(he:∀xs k,L xs (k,(xs.length:Int))=ς (.done k))(hs:∀(xs:List α) (k:Int) (i:Nat) (x:α),xs[i]?=ς x->i<xs.length->xs.length<=1048576->ok x->0<=k->k+b<=9223372036854775807->∃k',L xs (k,(i:Int))=ς (.next (k',((i+1:Nat):Int)))/\k<=k'/\k'<=k+b):
 Mk f (okL ok) B:=by
 intro xs k hok h0 h1
 have key:∀(m n i:Nat) (k:Int),m=xs.length-i->i<=xs.length->m<n->0<=k->k+m*b<=9223372036854775807->∃k',iter (L xs) n (k,(i:Int))=ς k'/\k<=k'/\k'<=k+m*b:=by
  intro m
  induction m with
  |zero=>
   intro n i k hm hi hn hk hkb
   cases n with
   |zero=>omega
   |succ n=>
    have:i=xs.length:=by omega
    subst this
    exact⟨k,by rw[iter,he],by omega,by omega⟩
  |succ m ih=>
   intro n i k hm hi hn hk hkb
   cases n with
   |zero=>omega
   |succ n=>
    have hlt:i<xs.length:=by omega
    have hmul:((m+1:Nat):Int)*b=m*b+b:=by rw[Int.natCast_add,Int.add_mul];simp
    have hmb:0<=(m:Int)*b:=Int.mul_nonneg oaa hb
    rw[hmul] at hkb
    obtain⟨k1,e1,l1,u1⟩:=hs xs k i xs[i] (hV hlt) hlt hok.1 (hok.2 _ (ae5 hlt)) hk oaa
    obtain⟨k2,e2,l2,u2⟩:=ih n (i+1) k1 oaa oaa oaa oaa oaa
    exact⟨k2,by rw[iter,e1];exact e2,by omega,by omega⟩
 have hlb:(xs.length:Int)*b<=1048576*b:=Int.mul_le_mul_of_nonneg_right (by have:=hok.1;omega) hb
 obtain⟨k',e,l,u⟩:=key xs.length FU 0 k oaa oaa (by have:=gP;have:=hok.1;omega) h0 oaa
 grind
theorem allK{L:Int->Option (bJ Int Bool)}(xs:List α)(p:Nat->α->Bool)(c:Option Bool)(hl:xs.length<=9223372036854775806)(hs:∀(k:Nat) (x:α),xs[k]?=ς x->k<xs.length->L (k:Int)=bif p k x then ς (.next ((k+1:Nat):Int)) else ς (.done η))(he:L (xs.length:Int)=dn c):
 iter L FU 0=bif xs.zipIdx.all (λy=>p y.2 y.1) then c else ς false:=by
 have:=eg (step:=L) xs.zipIdx (λk (_:Unit)=>(k:Int)) (λ_ y=>bif p y.2 y.1 then ς (.next ()) else ς (.done η)) (λ_=>c) (by simp_all)
  (λk y s hy hk=>by
   have hk':k<xs.length:=by simpa using hk
   have:y=(xs[k],k):=by rw[hV hk] at hy;simpa using hy.symm
   simp_all) (λs=>by simp_all) ()
 refine Eq.trans (show iter L FU 0=_ from this) ?_
 have key:∀ys:List (α×Nat),lB (λ(_:Unit) y=>bif p y.2 y.1 then ς (.next ()) else ς (bJ.done η)) (λ_=>c) ys ()=bif ys.all (λy=>p y.2 y.1) then c else ς false:=by
  intro ys
  induction ys with
  |nil=>rfl
  |cons x xs ih=>rw[lB];grind
 exact key _
def inR(n a b:Int):Bool:=leB a n&&leB n b
theorem cT{n:Int}:inR n a b=ζ↔a<=n/\n<=b:=by simp[inR,leB]
theorem Cu{n:Nat}(h:n<=1048576):WR ((n:Int)-1)=(n:Int)-1:=bY oaa
theorem ix_in{xs:List α}{i:Int}(h0:0<=i)(h1:i<xs.length):∃x,x∈xs/\ix xs i=ς x:=by
 obtain⟨k,rfl⟩:=Int.eq_ofNat_of_zero_le h0
 have hk:k<xs.length:=by omega
 exact⟨xs[k],ae5 hk,by rw[bz,hV hk]⟩
def rgI(k:IntKind)(n:Int):Prop:=(Lit.int k n).wf=ζ
theorem WT.rg{k:IntKind}{n:Int}(h:WT (.i k) (.i k n)):rgI k n:=by
 cases h with|i h=>exact h
theorem R5{α:Type}{e:List Sh}{f:α->List D}:∀{xs:List α},WTL e (xs.map f)->∀x∈xs,WTs e (f x)
 |[],_,x,hx=>by cases hx
 |y::ys,h,x,hx=>by
  cases h with
  |cons h1 h2=>
   rcases aa2.1 hx with rfl|hx
   .exact h1
   exact R5 h2 x hx
theorem WT.rl{e:List Sh}{f:α->List D}{xs:List α}(h:WT (.l e) (.l (xs.map f))):∀x∈xs,WTs e (f x):=by
 cases h with|l hl h=>exact R5 h
def Wp(m:Option α)(Q:α->Prop):Prop:=match m with
 |some a=>Q a
 |none=>False
theorem Wp.ex{m:Option α}{Q:α->Prop}(h:Wp m Q):∃a,m=ς a/\Q a:=by
 cases m with
 |none=>exact h.elim
 |some a=>exact⟨a,rfl,h⟩
theorem Wp.of{m:Option α}{Q:α->Prop}{a:α}(h:m=ς a)(q:Q a):Wp m Q:=by subst h;exact q
theorem Wp.some{α:Type}{a:α}{Q:α->Prop}(h:Q a):Wp (ς a) Q:=h
theorem Wp.bind{m:Option α}{k:α->Option β}{Q:β->Prop}(h:Wp m (λa=>Wp (k a) Q)):Wp (aeP m k) Q:=by
 cases m with
 |none=>exact h.elim
 |some a=>exact h
theorem Wp.mono{m:Option α}{P Q:α->Prop}(h:Wp m P)(k:∀a,P a->Q a):Wp m Q:=by
 cases m with
 |none=>exact h.elim
 |some a=>exact k a h
theorem Wp.call{m:Option α}{k:α->Option β}{P:α->Prop}{Q:β->Prop}(h:Wp m P)(hk:∀a,P a->Wp (k a) Q):Wp (aeP m k) Q:=Wp.bind (h.mono hk)
theorem Wp.eq{m:Option α}{k:α->Option β}{a:α}{Q:β->Prop}(h:m= .some a)(hk:Wp (k a) Q):Wp (aeP m k) Q:=by subst h;exact hk
theorem Wp.cond{b:Bool}{x y:Option α}{Q:α->Prop}(h1:b=ζ->Wp x Q)(h0:b=η->Wp y Q):Wp (bif b then x else y) Q:=by
 cases b
 .exact h0 rfl
 exact h1 rfl
theorem Wp.ok{b:Bool}{x:Option α}{Q:α->Prop}(hb:b=ζ)(h:Wp x Q):Wp (bif b then x else ξ) Q:=by subst hb;exact h
theorem Wp.iter{step:σ->Option (bJ σ ρ)}{Q:ρ->Prop}(I:σ->Prop)(μ:σ->Nat)(h:∀x,I x->Wp (step x) (λs=>match s with| .next x'=>I x'/\μ x'<μ x| .done r=>Q r)):
 ∀(n:Nat) (x:σ),I x->μ x<n->Wp (AM.iter step n x) Q
 |0,_,_,h=>by omega
 |n+1,x,hI,hn=>by
  obtain⟨s,e,hs⟩:=(h x hI).ex
  rw[AM.iter,e]
  cases s with
  |next x'=>exact Wp.iter I μ h n x' hs.1 (by have:=hs.2;omega)
  |done r=>exact hs
theorem Wp.iterF{step:σ->Option (bJ σ ρ)}{Q:ρ->Prop}(I:σ->Prop)(μ:σ->Nat){x:σ}(hI:I x)(hn:μ x<=1000000000000)(h:∀x,I x->Wp (step x) (λs=>match s with| .next x'=>I x'/\μ x'<μ x| .done r=>Q r)):Wp (AM.iter step FU x) Q:=
 Wp.iter I μ h FU x hI (by have:=gP;omega)
theorem Wp.dn{m:Option ρ}{Q:bJ σ ρ->Prop}(h:Wp m (λr=>Q (.done r))):Wp (AM.dn m) Q:=by
 cases m with
 |none=>exact h.elim
 |some r=>exact h
theorem Wp.ix{xs:List α}{i:Int}{k:α->Option β}{Q:β->Prop}(h0:0<=i)(h1:i<xs.length)(hk:∀x,x∈xs->xs[i.toNat]?= .some x->Wp (k x) Q):Wp (aeP (AM.ix xs i) k) Q:=by
 have hl:i.toNat<xs.length:=by omega
 have hx:xs[i.toNat]?= .some xs[i.toNat]:=hV hl
 refine Wp.eq (a:=xs[i.toNat]) ?_ (hk _ (ae5 hl) hx)
 unfold AM.ix
 rw[show leB 0 i=ζ from by simp[leB,h0]]
 exact hx
theorem zv(h:ltB a b=ζ):a<b:=ltB_t.1 h
theorem Dc(h:ltB a b=η):b<=a:=ltB_f.1 h
theorem BU(h:leB a b=ζ):a<=b:=leB_t.1 h
theorem FQ(h:leB a b=η):b<a:=leB_f.1 h
theorem CH(h:eqB a b=ζ):a=b:=eqB_t.1 h
theorem XA(h:eqB a b=η):a≠b:=eqB_f.1 h
theorem uz{b n:Nat}(h:n*b<=140737488355328)(h':n<=9223372036854775807):c8 b n=true:=by simp[c8,h,h']
def sG(a:cZ):Prop:=okL (λ_=>True) a.b7
def zL(a:cZ):Prop:=p5 (λ_=>True) a.b7
theorem ac4(h0:WTs [.i .i64,.l [.i .i64]] x):∃a:cZ,x=de a/\zL a:=by
 obtain⟨n0,r0,rfl,w0,h1⟩:=h0.gi
 obtain⟨y1,r1,rfl,l1,w1,h2⟩:=h1.gl
 obtain⟨n1,rfl,p1⟩:=jm (f:=eI) (p:=(λ_=>True)) (λx h=>by obtain⟨n,r,rfl,w,h⟩:=h.gi;obtain rfl:=h.gn;exact⟨n,rfl,θ⟩) w1
 obtain rfl:=h2.gn
 exact⟨⟨n0,n1⟩,rfl,⟨by simpa using l1,p1⟩⟩
theorem O1:Sz Gw (okL (λ_=>True)) (p5 (λ_=>True)):=M1 (λ_ _=>rfl)
theorem YX:Sz Gv sG zL:=by
 intro a left hp h0 h1
 unfold Gv
 obtain⟨r0,a0,b0,c0⟩:=O1 a.b7 left hp h0 h1
 rcases c0 with⟨c0,rfl⟩|⟨c0,d0,e0⟩
 .exact⟨-1,by simp[a0,c0],by omega,.inl ⟨c0,rfl⟩⟩
 exact⟨r0,by simp[a0,c0],b0,.inr ⟨c0,d0,e0⟩⟩
theorem Vv:Sz Ia (okL sG) (p5 zL):=ym YX (λ_ _=>rfl) (λ_ _ _=>rfl)
theorem O8:∀xs,okL (λ_=>True) xs->Gy xs=ς xs:=qI (0:Int) (by decide) (t:=λa=>ς a) (λ_ _=>rfl) (λ_=>rfl) (λ_ _ _=>rfl)
theorem YY:∀a,sG a->Gx a=ς a:=λa h=>by simp[Gx,O8 _ h]
theorem Vw:∀xs,okL sG xs->If xs=ς xs:=qI (⟨0,[]⟩:cZ) (by decide) YY (λ_=>rfl) (λ_ _ _=>rfl)
theorem OT:∀xs,okL (λ_=>True) xs->Gt xs xs=ς true:=qf (e:=λx y=>ς (eqB x y)) (λ_ _=>by simp[bT]) (λ_ _=>rfl) (λ_ _ _=>rfl)
theorem YU:∀a,sG a->Gs a a=ς true:=λa h=>by simp[Gs,bT,strB,booB,OT _ h]
theorem Vt:∀xs,okL sG xs->H1 xs xs=ς true:=qf YU (λ_ _=>rfl) (λ_ _ _=>rfl)
theorem Tz:Mk uY (okL (λ_=>True)) 1048576:=by
 refine qx (L:=o6) (b:=1) (by decide) (by decide) (λ_ _=>rfl) (λxs k=>by simp[o6,bZ]) (λxs k i x hx hi hl hok h0 h1=>?_)
 skip
 refine⟨k+1,?_,by omega,by omega⟩
 have hw:∀n:Int,0<=n->n<=9223372036854775807->WR n=n:=λn h h'=>bY oaa
 simp(disch:=omega) only[o6,ci hi,bz,hx,WRs (k:=i),aeW,cond_true,hw,aeZ,ae0]
theorem Y2:Mk xz (okL sG) 1099512676352:=by
 refine qx (L:=np) (b:=1048577) (by decide) (by decide) (λ_ _=>rfl) (λxs k=>by simp[np,bZ]) (λxs k i x hx hi hl hok h0 h1=>?_)
 skip
 obtain⟨k0,e0,l0,u0⟩:=Tz x.b7 (k+1) hok oaa oaa
 refine⟨k0,?_,by omega,by omega⟩
 have hw:∀n:Int,0<=n->n<=9223372036854775807->WR n=n:=λn h h'=>bY oaa
 simp(disch:=omega) only[np,ci hi,bz,hx,WRs (k:=i),aeW,cond_true,hw,aeZ,ae0,e0]
def ji(a:aU):Prop:=okL sG a.bh
def Fl(a:aU):Prop:=p5 zL a.bh
theorem OY:Sz xH ji Fl:=by
 intro a left hp h0 h1
 unfold xH
 obtain⟨r0,a0,b0,c0⟩:=Vv a.bh left hp h0 h1
 rcases c0 with⟨c0,rfl⟩|⟨c0,d0,e0⟩
 .exact⟨-1,by simp[a0,c0],by omega,.inl ⟨c0,rfl⟩⟩
 exact⟨r0,by simp[a0,c0],b0,.inr ⟨c0,d0,e0⟩⟩
theorem O5:∀a,ji a->xM a=ς a:=λa h=>by simp[xM,Vw _ h]
theorem OQ:∀a,ji a->xo a a=ς true:=λa h=>by simp[xo,bT,strB,booB,Vt _ h]
theorem Rd:Mk o5 ji 1099512676352:=by
 intro a k h h0 h1
 obtain⟨k0,e0,l0,u0⟩:=Y2 a.bh k h oaa oaa
 exact⟨k0,by simp only[o5,e0,aeW],by omega,by omega⟩
def dg(a:ab):Prop:=okL (λ_=>True) a.be
def fg(a:ab):Prop:=p5 B8 a.be
theorem vx(h0:WTs [.i .i64,.l [.i .u8]] x):∃a:ab,x=an a/\fg a:=by
 obtain⟨n0,r0,rfl,w0,h1⟩:=h0.gi
 obtain⟨y1,r1,rfl,l1,w1,h2⟩:=h1.gl
 obtain⟨n1,rfl,p1⟩:=jm (f:=eU8) (p:=B8) (λx h=>by obtain⟨n,r,rfl,w,h⟩:=h.gi;obtain rfl:=h.gn;exact⟨n,rfl,aar w⟩) w1
 obtain rfl:=h2.gn
 exact⟨⟨n0,n1⟩,rfl,⟨by simpa using l1,p1⟩⟩
def fQ(a:aP):Prop:=okL (λ_=>True) a.be
def lK(a:aP):Prop:=p5 B8 a.be
theorem Jq(h0:WTs [.l [.i .u8]] x):∃a:aP,x=b9 a/\lK a:=by
 obtain⟨y0,r0,rfl,l0,w0,h1⟩:=h0.gl
 obtain⟨n0,rfl,p0⟩:=jm (f:=eU8) (p:=B8) (λx h=>by obtain⟨n,r,rfl,w,h⟩:=h.gi;obtain rfl:=h.gn;exact⟨n,rfl,aar w⟩) w0
 obtain rfl:=h1.gn
 exact⟨⟨n0⟩,rfl,⟨by simpa using l0,p0⟩⟩
def dM(a:aB):Prop:=okL dg a.aA/\okL fQ a.aY
def vb(a:aB):Prop:=p5 fg a.aA/\p5 lK a.aY
def dD(a:aF):Prop:=dM a.ct
def t9(a:aF):Prop:=vb a.ct
theorem V6(h0:WTs [.i .i64,.i .i64,.i .i64,.i .i64,.i .i64,.i .i64,.i .i64,.i .i64,.i .i64,.b,.i .i64,.i .i64,.l [.i .i64,.l [.i .u8]],.l [.l [.i .u8]]] x):∃a:aF,x=bG a/\t9 a:=by
 obtain⟨n0,r0,rfl,w0,h1⟩:=h0.gi
 obtain⟨n1,r1,rfl,w1,h2⟩:=h1.gi
 obtain⟨n2,r2,rfl,w2,h3⟩:=h2.gi
 obtain⟨n3,r3,rfl,w3,h4⟩:=h3.gi
 obtain⟨n4,r4,rfl,w4,h5⟩:=h4.gi
 obtain⟨n5,r5,rfl,w5,h6⟩:=h5.gi
 obtain⟨n6,r6,rfl,w6,h7⟩:=h6.gi
 obtain⟨n7,r7,rfl,w7,h8⟩:=h7.gi
 obtain⟨n8,r8,rfl,w8,h9⟩:=h8.gi
 obtain⟨n9,r9,rfl,h10⟩:=h9.gb
 obtain⟨n10,r10,rfl,w10,h11⟩:=h10.gi
 obtain⟨n11,r11,rfl,w11,h12⟩:=h11.gi
 obtain⟨y12,r12,rfl,l12,w12,h13⟩:=h12.gl
 obtain⟨n12,rfl,p12⟩:=jm (f:=an) (p:=fg) (λ_ h=>vx h) w12
 obtain⟨y13,r13,rfl,l13,w13,h14⟩:=h13.gl
 obtain⟨n13,rfl,p13⟩:=jm (f:=b9) (p:=lK) (λ_ h=>Jq h) w13
 obtain rfl:=h14.gn
 exact⟨⟨⟨⟨n0,n1⟩,n2,n3⟩,n4,n5,n6,n7,n8,n9,n10,⟨n11,n12,n13⟩⟩,rfl,⟨⟨by simpa using l12,p12⟩,⟨by simpa using l13,p13⟩⟩⟩
theorem EE:Sz zt (okL (λ_=>True)) (p5 B8):=M1 (λ_ _=>rfl)
theorem Cb:Sz lh dg fg:=by
 intro a left hp h0 h1
 unfold lh
 obtain⟨r0,a0,b0,c0⟩:=EE a.be left hp h0 h1
 rcases c0 with⟨c0,rfl⟩|⟨c0,d0,e0⟩
 .exact⟨-1,by simp[a0,c0],by omega,.inl ⟨c0,rfl⟩⟩
 exact⟨r0,by simp[a0,c0],b0,.inr ⟨c0,d0,e0⟩⟩
theorem rW:Sz kf (okL dg) (p5 fg):=ym Cb (λ_ _=>rfl) (λ_ _ _=>rfl)
theorem O2:Sz xJ fQ lK:=by
 intro a left hp h0 h1
 unfold xJ
 obtain⟨r0,a0,b0,c0⟩:=EE a.be left hp h0 h1
 rcases c0 with⟨c0,rfl⟩|⟨c0,d0,e0⟩
 .exact⟨-1,by simp[a0,c0],by omega,.inl ⟨c0,rfl⟩⟩
 exact⟨r0,by simp[a0,c0],b0,.inr ⟨c0,d0,e0⟩⟩
theorem Dr:Sz u5 (okL fQ) (p5 lK):=ym O2 (λ_ _=>rfl) (λ_ _ _=>rfl)
theorem Ds:Sz mj dM vb:=by
 intro a left hp h0 h1
 unfold mj
 obtain⟨r0,a0,b0,c0⟩:=rW a.aA left hp.1 h0 h1
 rcases c0 with⟨c0,rfl⟩|⟨c0,d0,e0⟩
 .exact⟨-1,by simp[a0,c0],by omega,.inl ⟨c0,rfl⟩⟩
 obtain⟨r1,a1,b1,c1⟩:=Dr a.aY r0 hp.2 d0 b0
 rcases c1 with⟨c1,rfl⟩|⟨c1,d1,e1⟩
 .exact⟨-1,by simp[a0,c0,a1,c1],by omega,.inl ⟨c1,rfl⟩⟩
 exact⟨r1,by simp[a0,c0,a1,c1],b1,.inr ⟨c1,d1,e0,e1⟩⟩
theorem QZ:Sz AL dD t9:=by
 intro a left hp h0 h1
 unfold AL
 obtain⟨r0,a0,b0,c0⟩:=Ds a.ct left hp h0 h1
 rcases c0 with⟨c0,rfl⟩|⟨c0,d0,e0⟩
 .exact⟨-1,by simp[a0,c0],by omega,.inl ⟨c0,rfl⟩⟩
 exact⟨r0,by simp[a0,c0],b0,.inr ⟨c0,d0,e0⟩⟩
theorem OZ:Sz B0 (okL dD) (p5 t9):=ym QZ (λ_ _=>rfl) (λ_ _ _=>rfl)
theorem wv:∀a,(λ_=>True) a->kC a=ς a:=λa h=>by simp[kC]
theorem YZ:∀a,(λ_=>True) a->Gz a=ς a:=λa h=>by simp[Gz,wv _ trivial]
theorem EH:∀xs,okL (λ_=>True) xs->zx xs=ς xs:=qI (0:Int) (by decide) (t:=λa=>ς a) (λ_ _=>rfl) (λ_=>rfl) (λ_ _ _=>rfl)
theorem Cd:∀a,dg a->lj a=ς a:=λa h=>by simp[lj,EH _ h]
theorem rY:∀xs,okL dg xs->kg xs=ς xs:=qI (⟨0,[]⟩:ab) (by decide) Cd (λ_=>rfl) (λ_ _ _=>rfl)
theorem O9:∀a,fQ a->xN a=ς a:=λa h=>by simp[xN,EH _ h]
theorem Du:∀xs,okL fQ xs->u7 xs=ς xs:=qI (⟨[]⟩:aP) (by decide) O9 (λ_=>rfl) (λ_ _ _=>rfl)
theorem Dv:∀a,dM a->ml a=ς a:=λa h=>by simp[ml,rY _ h.1,Du _ h.2]
theorem Q9:∀a,dD a->AO a=ς a:=λa h=>by simp[AO,Dv _ h,YZ _ trivial]
theorem O6:∀xs,okL dD xs->B2 xs=ς xs:=qI (⟨⟨⟨0,0⟩,0,0⟩,0,0,0,0,0,η,0,⟨0,[],[]⟩⟩:aF) (by decide) Q9 (λ_=>rfl) (λ_ _ _=>rfl)
theorem wq:∀a,(λ_=>True) a->kB a a=ς true:=λa h=>by simp[kB,bT,strB,booB]
theorem YV:∀a,(λ_=>True) a->Gu a a=ς true:=λa h=>by simp[Gu,bT,strB,booB,wq _ trivial]
theorem EB:∀xs,okL (λ_=>True) xs->zn xs xs=ς true:=qf (e:=λx y=>ς (eqB x y)) (λ_ _=>by simp[bT]) (λ_ _=>rfl) (λ_ _ _=>rfl)
theorem B9:∀a,dg a->lb a a=ς true:=λa h=>by simp[lb,bT,strB,booB,EB _ h]
theorem rV:∀xs,okL dg xs->jY xs xs=ς true:=qf B9 (λ_ _=>rfl) (λ_ _ _=>rfl)
theorem OU:∀a,fQ a->xp a a=ς true:=λa h=>by simp[xp,bT,strB,booB,EB _ h]
theorem Do:∀xs,okL fQ xs->uX xs xs=ς true:=qf OU (λ_ _=>rfl) (λ_ _ _=>rfl)
theorem Dp:∀a,dM a->md a a=ς true:=λa h=>by simp[md,bT,strB,booB,rV _ h.1,Do _ h.2]
theorem QU:∀a,dD a->AH a a=ς true:=λa h=>by simp[AH,bT,strB,booB,Dp _ h,YV _ trivial]
theorem OR:∀xs,okL dD xs->BV xs xs=ς true:=qf QU (λ_ _=>rfl) (λ_ _ _=>rfl)
theorem IE:Mk o4 (okL (λ_=>True)) 1048576:=by
 refine qx (L:=nm) (b:=1) (by decide) (by decide) (λ_ _=>rfl) (λxs k=>by simp[nm,bZ]) (λxs k i x hx hi hl hok h0 h1=>?_)
 skip
 refine⟨k+1,?_,by omega,by omega⟩
 have hw:∀n:Int,0<=n->n<=9223372036854775807->WR n=n:=λn h h'=>bY oaa
 simp(disch:=omega) only[nm,ci hi,bz,hx,WRs (k:=i),aeW,cond_true,hw,aeZ,ae0]
theorem uc:Mk gU (okL dg) 1099512676352:=by
 refine qx (L:=fL) (b:=1048577) (by decide) (by decide) (λ_ _=>rfl) (λxs k=>by simp[fL,bZ]) (λxs k i x hx hi hl hok h0 h1=>?_)
 skip
 obtain⟨k0,e0,l0,u0⟩:=IE x.be (k+1) hok oaa oaa
 refine⟨k0,?_,by omega,by omega⟩
 have hw:∀n:Int,0<=n->n<=9223372036854775807->WR n=n:=λn h h'=>bY oaa
 simp(disch:=omega) only[fL,ci hi,bz,hx,WRs (k:=i),aeW,cond_true,hw,aeZ,ae0,e0]
theorem Fm:Mk nu (okL fQ) 1099511627776:=by
 refine qx (L:=kc) (b:=1048576) (by decide) (by decide) (λ_ _=>rfl) (λxs k=>by simp[kc,bZ]) (λxs k i x hx hi hl hok h0 h1=>?_)
 skip
 obtain⟨k0,e0,l0,u0⟩:=IE x.be (k) hok oaa oaa
 refine⟨k0,?_,by omega,by omega⟩
 have hw:∀n:Int,0<=n->n<=9223372036854775807->WR n=n:=λn h h'=>bY oaa
 simp(disch:=omega) only[kc,ci hi,bz,hx,WRs (k:=i),aeW,cond_true,hw,aeZ,ae0,e0]
theorem Re:Mk tM (okL dD) 2305844108737904640:=by
 refine qx (L:=le) (b:=2199024304140) (by decide) (by decide) (λ_ _=>rfl) (λxs k=>by simp[le,bZ]) (λxs k i x hx hi hl hok h0 h1=>?_)
 skip
 obtain⟨k0,e0,l0,u0⟩:=uc x.ct.aA (k+12) hok.1 oaa oaa
 obtain⟨k1,e1,l1,u1⟩:=Fm x.ct.aY (k0) hok.2 oaa oaa
 refine⟨k1,?_,by omega,by omega⟩
 have hw:∀n:Int,0<=n->n<=9223372036854775807->WR n=n:=λn h h'=>bY oaa
 simp(disch:=omega) only[le,ci hi,bz,hx,WRs (k:=i),aeW,cond_true,hw,aeZ,ae0,e0,e1]
def fF(a:bK):Prop:=okL (λ_=>True) a.bi
def wu(a:bK):Prop:=p5 (λ_=>True) a.bi
def fy(a:aG):Prop:=okL dg a.ar
def zM(a:aG):Prop:=p5 fg a.ar
def dw(a:ag):Prop:=fF a.fr/\okL fQ a.aS/\fy a.aC
def qW(a:ag):Prop:=wu a.fr/\p5 lK a.aS/\zM a.aC
theorem RW(h0:WTs [.i .i64,.i .i64,.i .i64,.i .i64,.i .i64,.i .i64,.i .i64,.l [.i .i64],.i .i64,.i .i64,.i .i64,.i .i64,.i .i64,.i .i64,.i .i64,.i .i64,.i .i64,.i .i64,.i .i64,.i .i64,.i .i64,.i .i64,.i .i64,.l [.l [.i .u8]],.i .i64,.l [.i .i64,.l [.i .u8]],.i .i64,.i .i64,.i .i64,.i .i64] x):∃a:ag,x=aM a/\qW a:=by
 obtain⟨n0,r0,rfl,w0,h1⟩:=h0.gi
 obtain⟨n1,r1,rfl,w1,h2⟩:=h1.gi
 obtain⟨n2,r2,rfl,w2,h3⟩:=h2.gi
 obtain⟨n3,r3,rfl,w3,h4⟩:=h3.gi
 obtain⟨n4,r4,rfl,w4,h5⟩:=h4.gi
 obtain⟨n5,r5,rfl,w5,h6⟩:=h5.gi
 obtain⟨n6,r6,rfl,w6,h7⟩:=h6.gi
 obtain⟨y7,r7,rfl,l7,w7,h8⟩:=h7.gl
 obtain⟨n7,rfl,p7⟩:=jm (f:=eI) (p:=(λ_=>True)) (λx h=>by obtain⟨n,r,rfl,w,h⟩:=h.gi;obtain rfl:=h.gn;exact⟨n,rfl,θ⟩) w7
 obtain⟨n8,r8,rfl,w8,h9⟩:=h8.gi
 obtain⟨n9,r9,rfl,w9,h10⟩:=h9.gi
 obtain⟨n10,r10,rfl,w10,h11⟩:=h10.gi
 obtain⟨n11,r11,rfl,w11,h12⟩:=h11.gi
 obtain⟨n12,r12,rfl,w12,h13⟩:=h12.gi
 obtain⟨n13,r13,rfl,w13,h14⟩:=h13.gi
 obtain⟨n14,r14,rfl,w14,h15⟩:=h14.gi
 obtain⟨n15,r15,rfl,w15,h16⟩:=h15.gi
 obtain⟨n16,r16,rfl,w16,h17⟩:=h16.gi
 obtain⟨n17,r17,rfl,w17,h18⟩:=h17.gi
 obtain⟨n18,r18,rfl,w18,h19⟩:=h18.gi
 obtain⟨n19,r19,rfl,w19,h20⟩:=h19.gi
 obtain⟨n20,r20,rfl,w20,h21⟩:=h20.gi
 obtain⟨n21,r21,rfl,w21,h22⟩:=h21.gi
 obtain⟨n22,r22,rfl,w22,h23⟩:=h22.gi
 obtain⟨y23,r23,rfl,l23,w23,h24⟩:=h23.gl
 obtain⟨n23,rfl,p23⟩:=jm (f:=b9) (p:=lK) (λ_ h=>Jq h) w23
 obtain⟨n24,r24,rfl,w24,h25⟩:=h24.gi
 obtain⟨y25,r25,rfl,l25,w25,h26⟩:=h25.gl
 obtain⟨n25,rfl,p25⟩:=jm (f:=an) (p:=fg) (λ_ h=>vx h) w25
 obtain⟨n26,r26,rfl,w26,h27⟩:=h26.gi
 obtain⟨n27,r27,rfl,w27,h28⟩:=h27.gi
 obtain⟨n28,r28,rfl,w28,h29⟩:=h28.gi
 obtain⟨n29,r29,rfl,w29,h30⟩:=h29.gi
 obtain rfl:=h30.gn
 exact⟨⟨⟨⟨n0,n1⟩,n2,n3⟩,⟨n4,n5,n6,n7⟩,n8,⟨n9,n10,n11,n12,n13⟩,n14,n15,n16,n17,n18,n19,⟨n20,n21,n22⟩,n23,⟨n24,n25⟩,n26,⟨n27,n28,n29⟩⟩,rfl,⟨⟨by simpa using l7,p7⟩,⟨by simpa using l23,p23⟩,⟨by simpa using l25,p25⟩⟩⟩
theorem EG:Sz ny fF wu:=by
 intro a left hp h0 h1
 unfold ny
 obtain⟨r0,a0,b0,c0⟩:=O1 a.bi left hp h0 h1
 rcases c0 with⟨c0,rfl⟩|⟨c0,d0,e0⟩
 .exact⟨-1,by simp[a0,c0],by omega,.inl ⟨c0,rfl⟩⟩
 exact⟨r0,by simp[a0,c0],b0,.inr ⟨c0,d0,e0⟩⟩
theorem Iy:Sz qt fy zM:=by
 intro a left hp h0 h1
 unfold qt
 obtain⟨r0,a0,b0,c0⟩:=rW a.ar left hp h0 h1
 rcases c0 with⟨c0,rfl⟩|⟨c0,d0,e0⟩
 .exact⟨-1,by simp[a0,c0],by omega,.inl ⟨c0,rfl⟩⟩
 exact⟨r0,by simp[a0,c0],b0,.inr ⟨c0,d0,e0⟩⟩
theorem O3:Sz xK dw qW:=by
 intro a left hp h0 h1
 unfold xK
 obtain⟨r0,a0,b0,c0⟩:=EG a.fr left hp.1 h0 h1
 rcases c0 with⟨c0,rfl⟩|⟨c0,d0,e0⟩
 .exact⟨-1,by simp[a0,c0],by omega,.inl ⟨c0,rfl⟩⟩
 obtain⟨r1,a1,b1,c1⟩:=Dr a.aS r0 hp.2.1 d0 b0
 rcases c1 with⟨c1,rfl⟩|⟨c1,d1,e1⟩
 .exact⟨-1,by simp[a0,c0,a1,c1],by omega,.inl ⟨c1,rfl⟩⟩
 obtain⟨r2,a2,b2,c2⟩:=Iy a.aC r1 hp.2.2 d1 b1
 rcases c2 with⟨c2,rfl⟩|⟨c2,d2,e2⟩
 .exact⟨-1,by simp[a0,c0,a1,c1,a2,c2],by omega,.inl ⟨c2,rfl⟩⟩
 exact⟨r2,by simp[a0,c0,a1,c1,a2,c2],b2,.inr ⟨c2,d2,e0,e1,e2⟩⟩
theorem Mt:Sz zu (okL dw) (p5 qW):=ym O3 (λ_ _=>rfl) (λ_ _ _=>rfl)
theorem zV:∀a,(λ_=>True) a->jp a=ς a:=λa h=>by simp[jp,wv _ trivial]
theorem EJ:∀a,fF a->nz a=ς a:=λa h=>by simp[nz,O8 _ h]
theorem zQ:∀a,(λ_=>True) a->mR a=ς a:=λa h=>by simp[mR]
theorem F8:∀a,(λ_=>True) a->o9 a=ς a:=λa h=>by simp[o9]
theorem Iz:∀a,fy a->qv a=ς a:=λa h=>by simp[qv,rY _ h]
theorem Vx:∀a,(λ_=>True) a->Dd a=ς a:=λa h=>by simp[Dd]
theorem Pa:∀a,dw a->xO a=ς a:=λa h=>by simp[xO,EJ _ h.1,Du _ h.2.1,Iz _ h.2.2,zV _ trivial,zQ _ trivial,F8 _ trivial,Vx _ trivial]
theorem Mv:∀xs,okL dw xs->zy xs=ς xs:=qI (⟨⟨⟨0,0⟩,0,0⟩,⟨0,0,0,[]⟩,0,⟨0,0,0,0,0⟩,0,0,0,0,0,0,⟨0,0,0⟩,[],⟨0,[]⟩,0,⟨0,0,0⟩⟩:ag) (by decide) Pa (λ_=>rfl) (λ_ _ _=>rfl)
theorem zJ:∀a,(λ_=>True) a->jo a a=ς true:=λa h=>by simp[jo,bT,strB,booB,wq _ trivial]
theorem ED:∀a,fF a->ni a a=ς true:=λa h=>by simp[ni,bT,strB,booB,OT _ h]
theorem zH:∀a,(λ_=>True) a->mP a a=ς true:=λa h=>by simp[mP,bT,strB,booB]
theorem F4:∀a,(λ_=>True) a->oX a a=ς true:=λa h=>by simp[oX,bT,strB,booB]
theorem Iv:∀a,fy a->qo a a=ς true:=λa h=>by simp[qo,bT,strB,booB,rV _ h]
theorem Vu:∀a,(λ_=>True) a->C9 a a=ς true:=λa h=>by simp[C9,bT,strB,booB]
theorem OV:∀a,dw a->xq a a=ς true:=λa h=>by simp[xq,bT,strB,booB,ED _ h.1,Do _ h.2.1,Iv _ h.2.2,zJ _ trivial,zH _ trivial,F4 _ trivial,Vu _ trivial]
theorem Mr:∀xs,okL dw xs->zo xs xs=ς true:=qf OV (λ_ _=>rfl) (λ_ _ _=>rfl)
theorem Pc:Mk rG (okL dw) 2305845208265261056:=by
 refine qx (L:=ke) (b:=2199025352731) (by decide) (by decide) (λ_ _=>rfl) (λxs k=>by simp[ke,bZ]) (λxs k i x hx hi hl hok h0 h1=>?_)
 skip
 obtain⟨k0,e0,l0,u0⟩:=Tz x.fr.bi (k+7) hok.1 oaa oaa
 obtain⟨k1,e1,l1,u1⟩:=Fm x.aS (k0+15) hok.2.1 oaa oaa
 obtain⟨k2,e2,l2,u2⟩:=uc x.aC.ar (k1+1) hok.2.2 oaa oaa
 refine⟨k2+4,?_,by omega,by omega⟩
 have hw:∀n:Int,0<=n->n<=9223372036854775807->WR n=n:=λn h h'=>bY oaa
 simp(disch:=omega) only[ke,ci hi,bz,hx,WRs (k:=i),aeW,cond_true,hw,aeZ,ae0,e0,e1,e2]
theorem Jr(h0:WTs [.i .i64,.i .i64] x):∃a:ah,x=aO a/\(λ_=>True) a:=by
 obtain⟨n0,r0,rfl,w0,h1⟩:=h0.gi
 obtain⟨n1,r1,rfl,w1,h2⟩:=h1.gi
 obtain rfl:=h2.gn
 exact⟨⟨n0,n1⟩,rfl,θ⟩
def d5(a:aj):Prop:=okL (λ_=>True) a.ak
def qV(a:aj):Prop:=p5 (λ_=>True) a.ak
theorem RU(h0:WTs [.i .i64,.i .i64,.i .i64,.l [.i .i64,.i .i64]] x):∃a:aj,x=bj a/\qV a:=by
 obtain⟨n0,r0,rfl,w0,h1⟩:=h0.gi
 obtain⟨n1,r1,rfl,w1,h2⟩:=h1.gi
 obtain⟨n2,r2,rfl,w2,h3⟩:=h2.gi
 obtain⟨y3,r3,rfl,l3,w3,h4⟩:=h3.gl
 obtain⟨n3,rfl,p3⟩:=jm (f:=aO) (p:=(λ_=>True)) (λ_ h=>Jr h) w3
 obtain rfl:=h4.gn
 exact⟨⟨n0,n1,n2,n3⟩,rfl,⟨by simpa using l3,p3⟩⟩
theorem EF:Sz rJ (okL (λ_=>True)) (p5 (λ_=>True)):=M1 (λ_ _=>rfl)
theorem OX:Sz xG d5 qV:=by
 intro a left hp h0 h1
 unfold xG
 obtain⟨r0,a0,b0,c0⟩:=EF a.ak left hp h0 h1
 rcases c0 with⟨c0,rfl⟩|⟨c0,d0,e0⟩
 .exact⟨-1,by simp[a0,c0],by omega,.inl ⟨c0,rfl⟩⟩
 exact⟨r0,by simp[a0,c0],b0,.inr ⟨c0,d0,e0⟩⟩
theorem Ms:Sz zr (okL d5) (p5 qV):=ym OX (λ_ _=>rfl) (λ_ _ _=>rfl)
theorem Ga:∀a,(λ_=>True) a->pb a=ς a:=λa h=>by simp[pb]
theorem EI:∀xs,okL (λ_=>True) xs->rK xs=ς xs:=qI (⟨0,0⟩:ah) (by decide) Ga (λ_=>rfl) (λ_ _ _=>rfl)
theorem O4:∀a,d5 a->xL a=ς a:=λa h=>by simp[xL,EI _ h]
theorem Mu:∀xs,okL d5 xs->zw xs=ς xs:=qI (⟨0,0,0,[]⟩:aj) (by decide) O4 (λ_=>rfl) (λ_ _ _=>rfl)
theorem F6:∀a,(λ_=>True) a->oZ a a=ς true:=λa h=>by simp[oZ,bT,strB,booB]
theorem EC:∀xs,okL (λ_=>True) xs->ry xs xs=ς true:=qf F6 (λ_ _=>rfl) (λ_ _ _=>rfl)
theorem OP:∀a,d5 a->xn a a=ς true:=λa h=>by simp[xn,bT,strB,booB,EC _ h]
theorem Mq:∀xs,okL d5 xs->zm xs xs=ς true:=qf OP (λ_ _=>rfl) (λ_ _ _=>rfl)
theorem Gb:Mk mE (okL (λ_=>True)) 2097152:=by
 refine qx (L:=gW) (b:=2) (by decide) (by decide) (λ_ _=>rfl) (λxs k=>by simp[gW,bZ]) (λxs k i x hx hi hl hok h0 h1=>?_)
 skip
 refine⟨k+2,?_,by omega,by omega⟩
 have hw:∀n:Int,0<=n->n<=9223372036854775807->WR n=n:=λn h h'=>bY oaa
 simp(disch:=omega) only[gW,ci hi,bz,hx,WRs (k:=i),aeW,cond_true,hw,aeZ,ae0]
theorem Pb:Mk rA (okL d5) 2199026401280:=by
 refine qx (L:=jZ) (b:=2097155) (by decide) (by decide) (λ_ _=>rfl) (λxs k=>by simp[jZ,bZ]) (λxs k i x hx hi hl hok h0 h1=>?_)
 skip
 obtain⟨k0,e0,l0,u0⟩:=Gb x.ak (k+3) hok oaa oaa
 refine⟨k0,?_,by omega,by omega⟩
 have hw:∀n:Int,0<=n->n<=9223372036854775807->WR n=n:=λn h h'=>bY oaa
 simp(disch:=omega) only[jZ,ci hi,bz,hx,WRs (k:=i),aeW,cond_true,hw,aeZ,ae0,e0]
def iQ(a:aV):Prop:=okL (λ_=>True) a.be
def ub(a:aV):Prop:=p5 B8 a.be
def ik(a:am):Prop:=iQ a.bH
def yz(a:am):Prop:=ub a.bH
def fP(a:a9):Prop:=ik a.cF
def ua(a:a9):Prop:=yz a.cF
theorem V7(h0:WTs [.i .i64,.b,.b,.i .i64,.i .i64,.i .i64,.i .i64,.i .i64,.i .i64,.i .i64,.i .i64,.i .i64,.i .i64,.i .i64,.i .i64,.i .i64,.i .i64,.i .i64,.i .i64,.l [.i .u8],.i .i64] x):∃a:a9,x=bA a/\ua a:=by
 obtain⟨n0,r0,rfl,w0,h1⟩:=h0.gi
 obtain⟨n1,r1,rfl,h2⟩:=h1.gb
 obtain⟨n2,r2,rfl,h3⟩:=h2.gb
 obtain⟨n3,r3,rfl,w3,h4⟩:=h3.gi
 obtain⟨n4,r4,rfl,w4,h5⟩:=h4.gi
 obtain⟨n5,r5,rfl,w5,h6⟩:=h5.gi
 obtain⟨n6,r6,rfl,w6,h7⟩:=h6.gi
 obtain⟨n7,r7,rfl,w7,h8⟩:=h7.gi
 obtain⟨n8,r8,rfl,w8,h9⟩:=h8.gi
 obtain⟨n9,r9,rfl,w9,h10⟩:=h9.gi
 obtain⟨n10,r10,rfl,w10,h11⟩:=h10.gi
 obtain⟨n11,r11,rfl,w11,h12⟩:=h11.gi
 obtain⟨n12,r12,rfl,w12,h13⟩:=h12.gi
 obtain⟨n13,r13,rfl,w13,h14⟩:=h13.gi
 obtain⟨n14,r14,rfl,w14,h15⟩:=h14.gi
 obtain⟨n15,r15,rfl,w15,h16⟩:=h15.gi
 obtain⟨n16,r16,rfl,w16,h17⟩:=h16.gi
 obtain⟨n17,r17,rfl,w17,h18⟩:=h17.gi
 obtain⟨n18,r18,rfl,w18,h19⟩:=h18.gi
 obtain⟨y19,r19,rfl,l19,w19,h20⟩:=h19.gl
 obtain⟨n19,rfl,p19⟩:=jm (f:=eU8) (p:=B8) (λx h=>by obtain⟨n,r,rfl,w,h⟩:=h.gi;obtain rfl:=h.gn;exact⟨n,rfl,aar w⟩) w19
 obtain⟨n20,r20,rfl,w20,h21⟩:=h20.gi
 obtain rfl:=h21.gn
 exact⟨⟨n0,n1,n2,n3,⟨n4,n5,n6,n7,n8,⟨n9,n10,n11,n12,n13⟩,n14⟩,⟨n15,n16,⟨n17,n18,n19,n20⟩⟩⟩,rfl,⟨by simpa using l19,p19⟩⟩
theorem Cc:Sz li iQ ub:=by
 intro a left hp h0 h1
 unfold li
 obtain⟨r0,a0,b0,c0⟩:=EE a.be left hp h0 h1
 rcases c0 with⟨c0,rfl⟩|⟨c0,d0,e0⟩
 .exact⟨-1,by simp[a0,c0],by omega,.inl ⟨c0,rfl⟩⟩
 exact⟨r0,by simp[a0,c0],b0,.inr ⟨c0,d0,e0⟩⟩
theorem F7:Sz o8 ik yz:=by
 intro a left hp h0 h1
 unfold o8
 obtain⟨r0,a0,b0,c0⟩:=Cc a.bH left hp h0 h1
 rcases c0 with⟨c0,rfl⟩|⟨c0,d0,e0⟩
 .exact⟨-1,by simp[a0,c0],by omega,.inl ⟨c0,rfl⟩⟩
 exact⟨r0,by simp[a0,c0],b0,.inr ⟨c0,d0,e0⟩⟩
theorem Q0:Sz AN fP ua:=by
 intro a left hp h0 h1
 unfold AN
 obtain⟨r0,a0,b0,c0⟩:=F7 a.cF left hp h0 h1
 rcases c0 with⟨c0,rfl⟩|⟨c0,d0,e0⟩
 .exact⟨-1,by simp[a0,c0],by omega,.inl ⟨c0,rfl⟩⟩
 exact⟨r0,by simp[a0,c0],b0,.inr ⟨c0,d0,e0⟩⟩
theorem O0:Sz B1 (okL fP) (p5 ua):=ym Q0 (λ_ _=>rfl) (λ_ _ _=>rfl)
theorem Rb:∀a,(λ_=>True) a->AS a=ς a:=λa h=>by simp[AS,zQ _ trivial]
theorem Ce:∀a,iQ a->lk a=ς a:=λa h=>by simp[lk,EH _ h]
theorem F9:∀a,ik a->pa a=ς a:=λa h=>by simp[pa,Ce _ h]
theorem Ra:∀a,fP a->AP a=ς a:=λa h=>by simp[AP,F9 _ h,Rb _ trivial]
theorem O7:∀xs,okL fP xs->B3 xs=ς xs:=qI (⟨0,η,η,0,⟨0,0,0,0,0,⟨0,0,0,0,0⟩,0⟩,⟨0,0,⟨0,0,[],0⟩⟩⟩:a9) (by decide) Ra (λ_=>rfl) (λ_ _ _=>rfl)
theorem QW:∀a,(λ_=>True) a->AJ a a=ς true:=λa h=>by simp[AJ,bT,strB,booB,zH _ trivial]
theorem Ca:∀a,iQ a->lc a a=ς true:=λa h=>by simp[lc,bT,strB,booB,EB _ h]
theorem F5:∀a,ik a->oY a a=ς true:=λa h=>by simp[oY,bT,strB,booB,Ca _ h]
theorem QV:∀a,fP a->AI a a=ς true:=λa h=>by simp[AI,bT,strB,booB,F5 _ h,QW _ trivial]
theorem OS:∀xs,okL fP xs->BW xs xs=ς true:=qf QV (λ_ _=>rfl) (λ_ _ _=>rfl)
theorem Rf:Mk tO (okL fP) 1099532599296:=by
 refine qx (L:=lf) (b:=1048596) (by decide) (by decide) (λ_ _=>rfl) (λxs k=>by simp[lf,bZ]) (λxs k i x hx hi hl hok h0 h1=>?_)
 skip
 obtain⟨k0,e0,l0,u0⟩:=IE x.cF.bH.be (k+19) hok oaa oaa
 refine⟨k0+1,?_,by omega,by omega⟩
 have hw:∀n:Int,0<=n->n<=9223372036854775807->WR n=n:=λn h h'=>bY oaa
 simp(disch:=omega) only[lf,ci hi,bz,hx,WRs (k:=i),aeW,cond_true,hw,aeZ,ae0,e0]
theorem IA:∀a,(λ_=>True) a->qw a=ς a:=λa h=>by simp[qw]
theorem Iw:∀a,(λ_=>True) a->qp a a=ς true:=λa h=>by simp[qp,bT,strB,booB]
def ej(a:ae):Prop:=ji a.fH/\okL dD a.aH/\okL dw a.aT/\okL d5 a.bu/\okL fP a.aJ
def nZ(a:ae):Prop:=Fl a.fH/\p5 t9 a.aH/\p5 qW a.aT/\p5 qV a.bu/\p5 ua a.aJ
theorem Cr(h0:WTs [.l [.i .i64,.l [.i .i64]],.l [.i .i64,.i .i64,.i .i64,.i .i64,.i .i64,.i .i64,.i .i64,.i .i64,.i .i64,.b,.i .i64,.i .i64,.l [.i .i64,.l [.i .u8]],.l [.l [.i .u8]]],.l [.i .i64,.i .i64,.i .i64,.i .i64,.i .i64,.i .i64,.i .i64,.l [.i .i64],.i .i64,.i .i64,.i .i64,.i .i64,.i .i64,.i .i64,.i .i64,.i .i64,.i .i64,.i .i64,.i .i64,.i .i64,.i .i64,.i .i64,.i .i64,.l [.l [.i .u8]],.i .i64,.l [.i .i64,.l [.i .u8]],.i .i64,.i .i64,.i .i64,.i .i64],.l [.i .i64,.i .i64,.i .i64,.l [.i .i64,.i .i64]],.l [.i .i64,.b,.b,.i .i64,.i .i64,.i .i64,.i .i64,.i .i64,.i .i64,.i .i64,.i .i64,.i .i64,.i .i64,.i .i64,.i .i64,.i .i64,.i .i64,.i .i64,.i .i64,.l [.i .u8],.i .i64],.i .i64,.i .i64,.i .i64,.i .i64,.i .i64] x):∃a:ae,x=eC a/\nZ a:=by
 obtain⟨y0,r0,rfl,l0,w0,h1⟩:=h0.gl
 obtain⟨n0,rfl,p0⟩:=jm (f:=de) (p:=zL) (λ_ h=>ac4 h) w0
 obtain⟨y1,r1,rfl,l1,w1,h2⟩:=h1.gl
 obtain⟨n1,rfl,p1⟩:=jm (f:=bG) (p:=t9) (λ_ h=>V6 h) w1
 obtain⟨y2,r2,rfl,l2,w2,h3⟩:=h2.gl
 obtain⟨n2,rfl,p2⟩:=jm (f:=aM) (p:=qW) (λ_ h=>RW h) w2
 obtain⟨y3,r3,rfl,l3,w3,h4⟩:=h3.gl
 obtain⟨n3,rfl,p3⟩:=jm (f:=bj) (p:=qV) (λ_ h=>RU h) w3
 obtain⟨y4,r4,rfl,l4,w4,h5⟩:=h4.gl
 obtain⟨n4,rfl,p4⟩:=jm (f:=bA) (p:=ua) (λ_ h=>V7 h) w4
 obtain⟨n5,r5,rfl,w5,h6⟩:=h5.gi
 obtain⟨n6,r6,rfl,w6,h7⟩:=h6.gi
 obtain⟨n7,r7,rfl,w7,h8⟩:=h7.gi
 obtain⟨n8,r8,rfl,w8,h9⟩:=h8.gi
 obtain⟨n9,r9,rfl,w9,h10⟩:=h9.gi
 obtain rfl:=h10.gn
 exact⟨⟨⟨n0⟩,n1,n2,n3,n4,n5,⟨n6,n7⟩,n8,n9⟩,rfl,⟨⟨by simpa using l0,p0⟩,⟨by simpa using l1,p1⟩,⟨by simpa using l2,p2⟩,⟨by simpa using l3,p3⟩,⟨by simpa using l4,p4⟩⟩⟩
theorem zP:Sz pY ej nZ:=by
 intro a left hp h0 h1
 unfold pY
 obtain⟨r0,a0,b0,c0⟩:=OY a.fH left hp.1 h0 h1
 rcases c0 with⟨c0,rfl⟩|⟨c0,d0,e0⟩
 .exact⟨-1,by simp[a0,c0],by omega,.inl ⟨c0,rfl⟩⟩
 obtain⟨r1,a1,b1,c1⟩:=OZ a.aH r0 hp.2.1 d0 b0
 rcases c1 with⟨c1,rfl⟩|⟨c1,d1,e1⟩
 .exact⟨-1,by simp[a0,c0,a1,c1],by omega,.inl ⟨c1,rfl⟩⟩
 obtain⟨r2,a2,b2,c2⟩:=Mt a.aT r1 hp.2.2.1 d1 b1
 rcases c2 with⟨c2,rfl⟩|⟨c2,d2,e2⟩
 .exact⟨-1,by simp[a0,c0,a1,c1,a2,c2],by omega,.inl ⟨c2,rfl⟩⟩
 obtain⟨r3,a3,b3,c3⟩:=Ms a.bu r2 hp.2.2.2.1 d2 b2
 rcases c3 with⟨c3,rfl⟩|⟨c3,d3,e3⟩
 .exact⟨-1,by simp[a0,c0,a1,c1,a2,c2,a3,c3],by omega,.inl ⟨c3,rfl⟩⟩
 obtain⟨r4,a4,b4,c4⟩:=O0 a.aJ r3 hp.2.2.2.2 d3 b3
 rcases c4 with⟨c4,rfl⟩|⟨c4,d4,e4⟩
 .exact⟨-1,by simp[a0,c0,a1,c1,a2,c2,a3,c3,a4,c4],by omega,.inl ⟨c4,rfl⟩⟩
 exact⟨r4,by simp[a0,c0,a1,c1,a2,c2,a3,c3,a4,c4],b4,.inr ⟨c4,d4,e0,e1,e2,e3,e4⟩⟩
theorem zT:∀a,ej a->fc a=ς a:=λa h=>by simp[fc,O5 _ h.1,O6 _ h.2.1,Mv _ h.2.2.1,Mu _ h.2.2.2.1,O7 _ h.2.2.2.2,IA _ trivial]
theorem nY:∀a,ej a->fa a a=ς true:=λa h=>by simp[fa,bT,strB,booB,OQ _ h.1,OR _ h.2.1,Mr _ h.2.2.1,Mq _ h.2.2.2.1,OS _ h.2.2.2.2,Iw _ trivial]
theorem Cf:Mk jG ej 4611693715074842624:=by
 intro a k h h0 h1
 obtain⟨k0,e0,l0,u0⟩:=Rd a.fH k h.1 oaa oaa
 obtain⟨k1,e1,l1,u1⟩:=Re a.aH k0 h.2.1 oaa oaa
 obtain⟨k2,e2,l2,u2⟩:=Pc a.aT k1 h.2.2.1 oaa oaa
 obtain⟨k3,e3,l3,u3⟩:=Pb a.bu k2 h.2.2.2.1 oaa oaa
 obtain⟨k4,e4,l4,u4⟩:=Rf a.aJ k3 h.2.2.2.2 oaa oaa
 exact⟨k4,by simp only[jG,e0,e1,e2,e3,e4,aeW],by omega,by omega⟩
end Go.AM
namespace Go.AM
open Go.Proofs
attribute [local simp] bZ bT bz
variable{α:Type}{k:Nat}{r:Go.AM.aB}{p:Go.AM.bL}{w:Go.AM.aG}{s:Go.AM.ag}{x:Go.AM.ab}{a:Go.AM.aj}{m:Go.AM.aU}{n:Go.AM.ae}{f:Go.AM.a9}{t:List Go.AM.ah}{i B:Int}{q:Go.AM.cq}
def kt(p:Nat->α->Bool)(xs:List α):Bool:=xs.zipIdx.all (λy=>p y.2 y.1)
theorem gN{p:Nat->α->Bool}{xs:List α}:kt p xs=ζ↔∀(k:Nat) (x:α),xs[k]?=ς x->p k x=true:=by
 unfold kt
 rw[aa4]
 constructor
 .intro h k x hx
  exact h (x,k) (by grind)
 grind
theorem Qf{p q:Nat->α->Bool}{xs:List α}(h:∀(k:Nat) (x:α),xs[k]?=ς x->p k x=q k x):kt p xs=kt q xs:=by
 rw[aeY,gN,gN]
 simp_all
theorem Nl{p q:Nat->α->Bool}{xs:List α}:(kt p xs&&kt q xs)=kt (λk x=>p k x&&q k x) xs:=by
 rw[aeY,f4,gN,gN,gN]
 grind
theorem vY{p:α->Bool}{xs:List α}:kt (λ_ x=>p x) xs=xs.all p:=by
 rw[aeY,gN,aa4]
 constructor
 .intro h x hx
  obtain⟨k,hk,rfl⟩:=List.getElem_of_mem hx
  exact h k _ (hV hk)
 grind
theorem fE{L:Int->Option (bJ Int Bool)}(xs:List α)(p:Nat->α->Bool)(c:Option Bool)(hl:xs.length<=9223372036854775806)(hs:∀(k:Nat) (x:α),xs[k]?=ς x->k<xs.length->L (k:Int)=bif p k x then ς (.next ((k+1:Nat):Int)) else ς (.done η))(he:L (xs.length:Int)=dn c):
 iter L FU 0=bif kt p xs then c else ς false:=allK xs p c hl hs he
theorem xl{xs:List α}(hk:k<xs.length)(h0:0<k)(hl:xs.length<=9223372036854775806):∃y,xs[k-1]?=ς y/\ix xs (WR ((k:Int)-1))=ς y:=by
 have h1:k-1<xs.length:=by omega
 refine⟨xs[k-1],hV h1,?_⟩
 rw[bY oaa,show((k:Int)-1)=((k-1:Nat):Int) from by omega,bz,hV h1]
def jP(key:α->Int)(xs:List α)(k:Nat)(x:α):Bool:=match k with
 |0=>ζ
 |j+1=>match xs[j]? with
  |some y=>!leB (key x) (key y)
  |none=>η
def asc(xs:List Int):Bool:=kt (jP id xs) xs
theorem jl(a b c:Int):bW a b c=ς (inR a b c):=by
 unfold bW inR
 grind
theorem gY(a b c:Int):dt a b c=ς (inR a b c):=by
 unfold dt inR
 grind
theorem SH{xs:List Int}(h:xs.length<=1048576):oS xs=ς (asc xs):=by
 have key:∀(n m:Nat) (j:Nat),j+n=xs.length->1<=j->n<m->∃b,iter (kA xs) m (j:Int)=ς b/\(b=ζ↔∀k x,j<=k->xs[k]?=ς x->jP id xs k x=ζ):=by
  intro n
  induction n with
  |zero=>
   intro m j hj h1 hm
   cases m with
   |zero=>omega
   |succ m=>
    simp only[iter,kA]
    simp_all
  |succ n ih=>
   intro m j hj h1 hm
   cases m with
   |zero=>omega
   |succ m=>
    have hjl:j<xs.length:=by omega
    obtain⟨y,hy,hi⟩:=xl hjl oaa oaa
    simp only[iter,kA]
    rw[ci hjl,hi,bz,hV hjl]
    simp only[au]
    obtain⟨i,rfl⟩:∃i,j=i+1:=⟨j-1,by omega⟩
    simp only[ae4] at hy
    cases hle:leB xs[i+1] y with
    |true=>
     refine⟨η,rfl,(λh=>by cases h),λhh=>?_⟩
     have:=hh (i+1) _ (abk _) (hV hjl)
     simp[jP,hy,hle] at this
    |false=>
     simp only[cond_false]
     rw[WRs (k:=i+1)]
     obtain⟨b,hb,hi⟩:=ih m (i+1+1) oaa oaa oaa
     refine⟨b,hb,hi.trans ⟨λhh k x hk hx=>?_,λhh k x hk hx=>hh k x oaa hx⟩⟩
     by_cases e:k=i+1
     .subst e
      rw[hV hjl] at hx;cases hx
      simp[jP,hy,hle]
     grind
 unfold oS
 cases hx:xs with
 |nil=>
  have:FU=(FU-1)+1:=by have:=gP;omega
  rw[this,iter]
  simp[kA,dn,ltB,asc,kt]
 |cons a l=>
  rw[<-hx]
  obtain⟨b,hb,hi⟩:=key (xs.length-1) FU 1 (by grind) (abk _) (by have:=gP;omega)
  rw[show(1:Int)=((1:Nat):Int) from rfl,hb]
  congr 1
  rw[aeY,hi,asc,gN]
  constructor
  .intro hh k x hk
   cases k with
   |zero=>rfl
   |succ k=>simp_all
  simp_all
def vR(k:Int):Bool:=inR k 1 2147483646
theorem Oe(k:Int):gh k=ς (vR k):=by simp only[gh,jl,aeW,vR]
theorem Og(k:Int):gZ k=ς (vR k):=by simp only[gZ,gY,aeW,vR]
def V3(x:cG):Bool:=inR x.dT 0 3&&inR x.cj 0 99
theorem sid_i(x:cG):gj x=ς (V3 x):=by
 simp only[gj,jl,aeW,V3];grind
theorem sid_s(x:cG):gp x=ς (V3 x):=by
 simp only[gp,gY,aeW,V3];grind
def yB(x:ju):Bool:=V3 x.ID&&(vR x.f9&&inR x.d7 0 999999)
theorem aaf(x:ju):oE x=ς (yB x):=by
 simp only[oE,sid_i,Oe,jl,aeW,yB];grind
theorem aag(x:ju):pn x=ς (yB x):=by
 simp only[pn,sid_s,Og,gY,aeW,yB];grind
def E9(x:bI):Bool:=V3 x.ID&&(vR x.f9&&inR x.df 0 999999)
theorem rec_i(x:bI):eR x=ς (E9 x):=by
 simp only[eR,sid_i,Oe,jl,aeW,E9];grind
theorem rec_s(x:bI):eS x=ς (E9 x):=by
 simp only[eS,sid_s,Og,gY,aeW,E9];grind
def lx(x:bL):Bool:=inR x.eO 0 2&&(inR x.em 0 4&&inR x.eG 0 3)
theorem YQ(x:bL):oD x=ς (lx x):=by
 simp only[oD,jl,aeW,lx];grind
theorem YR(x:bL):pm x=ς (lx x):=by
 simp only[pm,gY,aeW,lx];grind
def Fz(x:dO):Bool:=inR x.uy 1 6&&inR x.jS 0 (WR ((Nx .i64 1 x.uy)-1))
theorem pool_i(x:dO):sq x=ς (Fz x):=by
 simp only[sq,jl,aeW,Fz]
 cases h:inR x.uy 1 6 with
 |false=>rfl
 |true=>rw[show leB 0 x.uy=ζ from by rw[cT] at h;simp[leB];omega];rfl
theorem pool_s(x:dO):sL x=ς (Fz x):=by
 simp only[sL,gY,aeW,Fz]
 cases h:inR x.uy 1 6 with
 |false=>rfl
 |true=>rw[show leB 0 x.uy=ζ from by rw[cT] at h;simp[leB];omega];rfl
def qd(x:cq):Bool:=leB 0 x.ax&&(leB 0 x.et&&(leB x.et x.cH&&leB x.cH 100000))
theorem GC(x:cq):i6 x=ς (qd x):=by
 simp only[i6,aeW,qd];grind
theorem Dx(x:cq):g6 x=ς (qd x):=by
 have:qd x=(leB 0 x.ax&&(inR x.cH 0 100000&&inR x.et 0 x.cH)):=by
  rw[aeY];simp[qd,inR,leB];omega
 rw[this]
 simp only[g6,gY,aeW];grind
def yE(n:Nat):Bool:=!ltB 60 (n:Int)
def Gh(xs:List aP):Bool:=xs.all λx=>yE x.be.length
theorem fit_i{xs:List aP}(h:xs.length<=1048576):uU xs=ς (Gh xs):=
 WQ xs (λx=>yE x.be.length) oaa (λk x hx hk=>by
  simp only[tD,ci hk,bz,hx,WRs (k:=k),yE,au]
  simp_all) (by simp[tD,dn])
def Dn(r:aB)(k:Nat)(x:ab):Bool:=inR x.df (WR (r.bw+1)) (WR (WR (r.bw+8)-1))&&(jP ab.df r.aA k x&&yE x.be.length)
def pI(r:aB):Bool:=eqB r.bw (WR ((r.aY.length:Int)+1))&&(leB (r.aY.length:Int) 24&&(Gh r.aY&&(leB (r.aA.length:Int) 8&&kt (Dn r) r.aA)))
theorem u6(a b:Int):ltB a b=!leB b a:=by rw[aeY];simp_all
theorem Zb(h1:r.aY.length<=1048576)(h2:r.aA.length<=1048576):jy r=ς (pI r):=by
 have hL:iter (jn r) FU 0=bif kt (Dn r) r.aA then ς ζ else ς false:=by
  refine fE r.aA (Dn r) (ς ζ) oaa (λk x hx hk=>?_) (by simp[jn])
  simp only[jn,ci hk,bz,hx,WRs (k:=k),jl,Dn,yE,au]
  cases k with
  |zero=>
   simp only[jP,show ltB 0 ((0:Nat):Int)=η from by simp[ltB]]
   cases ltB 60 (x.be.length:Int)<;>cases inR x.df (WR (r.bw+1)) (WR (WR (r.bw+8)-1))<;>rfl
  |succ k=>
   obtain⟨y,hy,hi⟩:=xl hk oaa oaa
   simp only[ae4] at hy
   simp only[jP,hy,hi,show ltB 0 ((k+1:Nat):Int)=ζ from by simp[ltB],aeW]
   cases ltB 60 (x.be.length:Int)<;>cases inR x.df (WR (r.bw+1)) (WR (WR (r.bw+8)-1))<;>cases leB x.df y.df<;>rfl
 simp only[jy,fit_i h1,aeW,hL,pI,u6 24,u6 8]
 grind
theorem Zc(h1:r.aY.length<=1048576)(h2:r.aA.length<=1048576):jJ r=ς (pI r):=by
 have hF:iter (gO r) FU 0=bif kt (λ_ x=>yE x.be.length) r.aY then ς (eqB r.bw (WR ((r.aY.length:Int)+1))&&(leB (r.aY.length:Int) 24&&leB (r.aA.length:Int) 8)) else ς false:=by
  refine fE r.aY (λ_ x=>yE x.be.length) _ oaa (λk x hx hk=>?_) ?_
  .simp only[gO,ci hk,bz,hx,WRs (k:=k),yE,au]
   simp_all
  simp only[gO,bZ,cond_false]
  grind
 have hL:iter (jq r) FU 0=bif kt (Dn r) r.aA then iter (gO r) FU 0 else ς false:=by
  refine fE r.aA (Dn r) _ oaa (λk x hx hk=>?_) (by simp[jq])
  simp only[jq,ci hk,bz,hx,WRs (k:=k),gY,Dn,yE,au]
  cases k with
  |zero=>
   simp only[jP,show ltB 0 ((0:Nat):Int)=η from by simp[ltB]]
   cases ltB 60 (x.be.length:Int)<;>cases inR x.df (WR (r.bw+1)) (WR (WR (r.bw+8)-1))<;>rfl
  |succ k=>
   obtain⟨y,hy,hi⟩:=xl hk oaa oaa
   simp only[ae4] at hy
   simp only[jP,hy,hi,show ltB 0 ((k+1:Nat):Int)=ζ from by simp[ltB],aeW]
   cases ltB 60 (x.be.length:Int)<;>cases inR x.df (WR (r.bw+1)) (WR (WR (r.bw+8)-1))<;>cases leB x.df y.df<;>rfl
 rw[vY] at hF
 simp only[jJ,hL,hF,pI,Gh]
 grind
def sW(d:aF):Bool:=yB d.ea&&(inR d.bF 0 3&&(inR d.bC 0 5&&(inR d.av 0 999999&&(inR d.a8 0 999999&&(inR d.bp 0 2147483646&&((!inR d.bF 2 3||vR d.bp)&&(inR d.eG 0 3&&pI d.ct)))))))
theorem st23(n:Int):inR n 2 3=(eqB n 2||eqB n 3):=by rw[aeY];simp[inR,leB,eqB];omega
theorem Xk{d:aF}(h1:d.ct.aY.length<=1048576)(h2:d.ct.aA.length<=1048576):oA d=ς (sW d):=by
 simp only[oA,aaf,jl,Oe,Zb h1 h2,aeW,sW,st23]
 grind
theorem Xl{d:aF}(h1:d.ct.aY.length<=1048576)(h2:d.ct.aA.length<=1048576):pi d=ς (sW d):=by
 simp only[pi,aag,gY,Og,Zc h1 h2,aeW,sW]
 grind
theorem wd{α:Type}{step:Int×Int->Option (bJ (Int×Int) Int)}(xs:List α)(f:Int->α->Int)(hl:xs.length<=9223372036854775806)(hs:∀(k:Nat) (x:α) (a:Int),xs[k]?=ς x->k<xs.length->step (a,(k:Int))=ς (.next (f a x,((k+1:Nat):Int))))(he:∀a,step (a,(xs.length:Int))=ς (.done a))(a0:Int):
 iter step FU (a0,0)=ς (xs.foldl f a0):=by
 have:=eg (step:=step) xs (λk (v:Int)=>(v,(k:Int))) (λv x=>ς (.next (f v x))) ς hl
  (λk x s hx hk=>by simp_all) (λs=>by rw[he];rfl) a0
 refine Eq.trans (show iter step FU (a0,0)=_ from this) ?_
 clear this he hs
 induction xs generalizing a0 with
 |nil=>rfl
 |cons x xs ih=>rw[lB,afg];grind
def B6(xs:List ab):Int:=xs.foldl (λa x=>WR (a+(x.be.length:Int))) 0
theorem nb_i{xs:List ab}(h:xs.length<=1048576):oV xs=ς (B6 xs):=by
 unfold oV
 rw[wd xs (λa x=>WR (a+(x.be.length:Int))) oaa (λk x a hx hk=>by
  simp only[oW,ci hk,bz,hx,WRs (k:=k),au]) (λa=>by simp[oW])]
 rfl
theorem nb_s{xs:List ab}(h:xs.length<=1048576):qc xs=ς (B6 xs):=by
 unfold qc
 rw[wd xs (λa x=>WR (a+(x.be.length:Int))) oaa (λk x a hx hk=>by
  simp only[ye,ci hk,bz,hx,WRs (k:=k),au]) (λa=>by simp[ye])]
 rfl
def Rj(q:cq):Int:=bif qd q then WR (q.cH-q.et) else 0
theorem rem_i(q:cq):kw q=ς (Rj q):=by simp only[kw,GC,aeW,Rj];grind
theorem rem_s(q:cq):kJ q=ς (Rj q):=by simp only[kJ,Dx,aeW,Rj];grind
def Mx(p:bK):Bool:=inR p.iB 1 1000&&(inR p.iA 1 4&&inR p.dR 1 100000)
def DX(p:bK):Bool:=Mx p&&kt (λk x=>inR x 0 3&&jP id p.bi k x) p.bi
theorem subs_i{p:bK}(h:fF p):iH p=ς (DX p):=by
 have hl:=h.1
 have hL:iter (gv p) FU 0=bif kt (λ_ x=>inR x 0 3) p.bi then ς (asc p.bi) else ς false:=by
  refine fE p.bi (λ_ x=>inR x 0 3) _ oaa (λk x hx hk=>?_) (by simp[gv,SH hl])
  simp only[gv,ci hk,bz,hx,WRs (k:=k),jl,au]
  cases inR x 0 3<;>rfl
 simp only[iH,jl,aeW,hL,DX,Mx,<-Nl,asc]
 grind
theorem subs_s{p:bK}(h:fF p):iX p=ς (DX p):=by
 have hl:=h.1
 have hL:iter (gE p) FU 0=bif kt (λk x=>inR x 0 3&&jP id p.bi k x) p.bi then ς (Mx p) else ς false:=by
  refine fE p.bi _ _ oaa (λk x hx hk=>?_) ?_
  .simp only[gE,ci hk,bz,hx,WRs (k:=k),gY,au]
   cases k with
   |zero=>
    simp only[jP,show ltB 0 ((0:Nat):Int)=η from by simp[ltB]]
    cases inR x 0 3<;>rfl
   |succ k=>
    obtain⟨y,hy,hi⟩:=xl hk oaa oaa
    simp only[ae4] at hy
    simp only[jP,hy,hi,hx,bz,show ltB 0 ((k+1:Nat):Int)=ζ from by simp[ltB],aeW,id]
    cases inR x 0 3<;>cases leB x y<;>rfl
  simp only[gE,bZ,gY,Mx,au]
  grind
 simp only[iX,hL,DX]
 grind
def unB(w:aG)(k:Nat)(x:ab):Bool:=eqB x.df (WR (WR (w.bw-(w.ar.length:Int))+(k:Int)))&&yE x.be.length
def ly(w:aG):Bool:=inR w.bw 1 100000&&(leB (w.ar.length:Int) 8&&(leB 1 (WR (w.bw-(w.ar.length:Int)))&&kt (unB w) w.ar))
theorem PB(h:fy w):lC w=ς (ly w):=by
 have hl:=h.1
 have hL:iter (kX w) FU 0=bif kt (unB w) w.ar then ς ζ else ς false:=by
  refine fE w.ar (unB w) _ oaa (λk x hx hk=>?_) (by simp[kX])
  simp only[kX,ci hk,bz,hx,WRs (k:=k),unB,yE,au]
  cases eqB x.df (WR (WR (w.bw-(w.ar.length:Int))+(k:Int)))<;>cases ltB 60 (x.be.length:Int)<;>rfl
 simp only[lC,jl,aeW,hL,ly,u6]
 grind
theorem PC(h:fy w):lM w=ς (ly w):=by
 have hl:=h.1
 have hL:iter (lr w) FU 0=bif kt (unB w) w.ar then ς (inR w.bw 1 100000&&(leB (w.ar.length:Int) 8&&leB 1 (WR (w.bw-(w.ar.length:Int))))) else ς false:=by
  refine fE w.ar (unB w) _ oaa (λk x hx hk=>?_) ?_
  .simp only[lr,ci hk,bz,hx,WRs (k:=k),unB,yE,au]
   cases eqB x.df (WR (WR (w.bw-(w.ar.length:Int))+(k:Int)))<;>cases ltB 60 (x.be.length:Int)<;>rfl
  simp only[lr,bZ,gY,au]
  grind
 simp only[lM,hL,ly]
 grind
def TX(a b:List Int):Bool:=strB (G3 a) (G3 b)
theorem eqb_i(a b:List Int):yY a b=ς (TX a b):=rfl
theorem eqb_s(a b:List Int):z6 a b=ς (TX a b):=rfl
def Gg(s:ag)(x:ab):Bool:=match s.aS[(x.df-1).toNat]? with
 |some y=>TX x.be y.be
 |none=>η
def nH(s:ag):Bool:=leB (s.aS.length:Int) 24&&(Gh s.aS&&(ly s.aC&&leB s.aC.bw (WR ((s.aS.length:Int)+1))))
def yy(s:ag):Bool:=leB (B6 s.aC.ar) (Rj s.bM)
def KJ(s:ag):Bool:=(!eqB s.bF 1||vR s.bp)&&(!ltB 0 s.bN||vR s.aA.f9)
def lU(s:ag):Bool:=E9 s.bO&&(DX s.fr&&(lx s.fJ&&(ly s.aC&&(qd s.bM&&(inR s.bF 0 1&&(KJ s&&(inR s.bN 0 999999&&(inR s.av 0 999999&&(inR s.a8 0 999999&&(inR s.bp 0 2147483646&&
 (inR s.bC 0 5&&(inR s.dy 0 5&&(inR s.du 0 3&&(leB (s.aS.length:Int) 24&&(Gh s.aS&&(leB s.aC.bw (WR ((s.aS.length:Int)+1))&&(s.aC.ar.all (Gg s)&&yy s)))))))))))))))))
theorem un_ix(hs:nH s=ζ)(hx:s.aC.ar[k]?=ς x):∃y,ix s.aS (WR (x.df-1))=ς y/\s.aS[(x.df-1).toNat]?=ς y:=by
 simp only[nH,ly,f4,gN,cT] at hs
 obtain⟨h1,h2,⟨⟨h3,h3'⟩,h4,h5,h6⟩,h7⟩:=hs
 have hk:=(f5.1 hx).1
 have h8:=h6 k x hx
 simp only[unB,f4] at h8
 have h4':(s.aC.ar.length:Int)<=8:=by simpa [leB] using h4
 have h1':(s.aS.length:Int)<=24:=by simpa [leB] using h1
 rw[bY oaa] at h5
 rw[bY oaa] at h7
 have h9:=h8.1
 rw[bY (n:=s.aC.bw-_) oaa,bY oaa] at h9
 have h9':x.df=s.aC.bw-s.aC.ar.length+k:=by simpa [eqB] using h9
 have h5':1<=s.aC.bw-(s.aC.ar.length:Int):=by simpa [leB] using h5
 have h7':s.aC.bw<=(s.aS.length:Int)+1:=by simpa [leB] using h7
 have hlt:(x.df-1).toNat<s.aS.length:=by omega
 refine⟨s.aS[(x.df-1).toNat],?_,hV hlt⟩
 have hm:x.df-1=(((x.df-1).toNat:Nat):Int):=by omega
 rw[bY oaa]
 simp_all
theorem tail_i(h:dw s)(hs:nH s=ζ):iter (fN s) FU 0=ς (s.aC.ar.all (Gg s)&&yy s):=by
 have hl:=h.2.2.1
 have:=fE (L:=fN s) s.aC.ar (λ_ x=>Gg s x) (ς (yy s)) oaa (λk x hx hk=>by
  obtain⟨y,h1,h2⟩:=un_ix hs hx
  simp only[fN,ci hk,bz,hx,h1,eqb_i,WRs (k:=k),Gg,h2,au]
  simp_all) (by simp[fN,iI,nb_i hl,rem_i,yy])
 rw[this,vY]
 grind
theorem tail_s(h:dw s)(hs:nH s=ζ):iter (kS s) FU 0=ς (s.aC.ar.all (Gg s)&&yy s):=by
 have hl:=h.2.2.1
 have:=fE (L:=kS s) s.aC.ar (λ_ x=>Gg s x) (ς (yy s)) oaa (λk x hx hk=>by
  obtain⟨y,h1,h2⟩:=un_ix hs hx
  simp only[kS,ci hk,bz,hx,h1,eqb_s,WRs (k:=k),Gg,h2,au]
  simp_all) (by simp[kS,nb_s hl,rem_s,yy])
 rw[this,vY]
 grind
theorem ZS(h:dw s):yg s=ς (nH s&&(s.aC.ar.all (Gg s)&&yy s)):=by
 have hl:=h.2.1.1
 have hL:=fE (L:=qF s) s.aS (λ_ x=>yE x.be.length) (bif leB (s.aS.length:Int) 24&&(ly s.aC&&leB s.aC.bw (WR ((s.aS.length:Int)+1))) then iter (kS s) FU 0 else ς η) oaa (λk x hx hk=>by
  simp only[qF,ci hk,bz,hx,WRs (k:=k),yE,au]
  simp_all) (by
  simp only[qF,bZ,PC h.2.2,u6,au]
  grind)
 rw[vY] at hL
 unfold yg
 rw[hL]
 cases hs:nH s with
 |true=>
  rw[tail_s h hs]
  simp only[nH,Gh,f4] at hs
  grind
 |false=>
  have:(leB (s.aS.length:Int) 24&&(ly s.aC&&leB s.aC.bw (WR ((s.aS.length:Int)+1))))=η\/(s.aS.all λx=>yE x.be.length)=false:=by
   simp only[nH,Gh] at hs
   revert hs
   cases leB (s.aS.length:Int) 24<;>cases ly s.aC<;>cases leB s.aC.bw (WR ((s.aS.length:Int)+1))<;>cases(s.aS.all λx=>yE x.be.length)<;>simp
  grind
theorem st01(n:Int):inR n 0 1=(eqB n 0||eqB n 1):=by rw[aeY];simp[inR,leB,eqB];omega
theorem EV(h:dw s):iC s=ς (lU s):=by
 have hz:=λhs=>tail_i h hs
 simp only[iC,rec_i,subs_i h.1,YQ,PB h.2.2,GC,Oe,jl,fit_i h.2.1.1,aeW,lU,KJ,st01,u6 24,u6 (WR ((s.aS.length:Int)+1))]
 simp only[nH] at hz
 revert hz
 generalize iter (fN s) FU 0=z
 cases E9 s.bO
 .intro _;rfl
 cases DX s.fr
 .intro _;rfl
 cases lx s.fJ
 .intro _;rfl
 cases ly s.aC
 .intro _;rfl
 cases qd s.bM
 .intro _;rfl
 cases eqB s.bF 0<;>cases eqB s.bF 1<;>try (intro _;rfl)
 all_goals
  cases vR s.bp<;>cases ltB 0 s.bN<;>cases vR s.aA.f9<;>try (intro _;rfl)
 all_goals
  cases inR s.bN 0 999999<;>cases inR s.av 0 999999<;>cases inR s.a8 0 999999<;>cases inR s.bp 0 2147483646<;>try (intro _;rfl)
 all_goals
  cases inR s.bC 0 5<;>cases inR s.dy 0 5<;>cases inR s.du 0 3<;>try (intro _;rfl)
 all_goals
  cases leB (s.aS.length:Int) 24<;>cases Gh s.aS<;>cases leB s.aC.bw (WR ((s.aS.length:Int)+1))<;>intro hz<;>first|rfl|exact hz rfl
theorem EW(h:dw s):kG s=ς (lU s):=by
 have:lU s=(inR s.bF 0 1&&(KJ s&&(E9 s.bO&&(DX s.fr&&(lx s.fJ&&(qd s.bM&&((nH s&&(s.aC.ar.all (Gg s)&&yy s))&&(inR s.bN 0 999999&&(inR s.av 0 999999&&(inR s.a8 0 999999&&(inR s.bp 0 2147483646&&(inR s.bC 0 5&&(inR s.dy 0 5&&inR s.du 0 3))))))))))))):=by
  simp only[lU,nH];ac_rfl
 rw[this]
 simp only[kG,rec_s,subs_s h.1,YR,Dx,Og,gY,ZS h,aeW,KJ,st01]
 cases eqB s.bF 0<;>cases eqB s.bF 1<;>cases vR s.bp<;>cases ltB 0 s.bN<;>cases vR s.aA.f9<;>try rfl
 all_goals
  cases E9 s.bO<;>cases DX s.fr<;>cases lx s.fJ<;>cases qd s.bM<;>cases(nH s&&(s.aC.ar.all (Gg s)&&yy s))<;>try rfl
 all_goals
  cases inR s.bN 0 999999<;>cases inR s.av 0 999999<;>cases inR s.a8 0 999999<;>cases inR s.bp 0 2147483646<;>try rfl
 all_goals
  cases inR s.bC 0 5<;>cases inR s.dy 0 5<;>rfl
def Z3(a:aj):Int:=a.ak.foldl (λs x=>WR (s+x.dq)) 0
theorem totr_i(h:d5 a):oP a=ς (Z3 a):=by
 have:=h.1
 unfold oP
 rw[wd a.ak (λs x=>WR (s+x.dq)) oaa (λk x s hx hk=>by
  simp only[oQ,ci hk,bz,hx,WRs (k:=k),au]) (λs=>by simp[oQ])]
 rfl
theorem totr_s(h:d5 a):pz a=ς (Z3 a):=by
 have:=h.1
 unfold pz
 rw[wd a.ak (λs x=>WR (s+x.dq)) oaa (λk x s hx hk=>by
  simp only[pA,ci hk,bz,hx,WRs (k:=k),au]) (λs=>by simp[pA])]
 rfl
def J2(a:aj)(k:Nat)(x:ah):Bool:=!ltB x.ax 0&&(inR x.dq 1 100000&&jP ah.ax a.ak k x)
def Z2(a:aj):Bool:=eqB (WR (WR (a.bB+a.eW)+Z3 a)) a.gu
def pG(a:aj):Bool:=inR a.gu 0 100000&&(inR a.bB 0 a.gu&&(inR a.eW 0 a.gu&&(leB (a.ak.length:Int) 8&&(kt (J2 a) a.ak&&Z2 a))))
theorem Ar(h:d5 a):gF a=ς (pG a):=by
 have hl:=h.1
 have hL:iter (jU a) FU 0=bif kt (J2 a) a.ak then ς (Z2 a) else ς false:=by
  refine fE a.ak (J2 a) _ oaa (λk x hx hk=>?_) (by simp[jU,totr_i h,Z2])
  simp only[jU,ci hk,bz,hx,WRs (k:=k),jl,J2,au]
  cases k with
  |zero=>
   simp only[jP,show ltB 0 ((0:Nat):Int)=η from by simp[ltB]]
   cases ltB x.ax 0<;>cases inR x.dq 1 100000<;>rfl
  |succ k=>
   obtain⟨y,hy,hi⟩:=xl hk oaa oaa
   simp only[ae4] at hy
   simp only[jP,hy,hi,show ltB 0 ((k+1:Nat):Int)=ζ from by simp[ltB],aeW]
   cases ltB x.ax 0<;>cases inR x.dq 1 100000<;>cases leB x.ax y.ax<;>rfl
 simp only[gF,jl,aeW,hL,pG,u6 8]
 grind
theorem As(h:d5 a):gI a=ς (pG a):=by
 have hl:=h.1
 have hL:iter (ko a) FU 0=bif kt (J2 a) a.ak then ς (inR a.gu 0 100000&&(inR a.bB 0 a.gu&&(inR a.eW 0 a.gu&&(leB (a.ak.length:Int) 8&&Z2 a)))) else ς false:=by
  refine fE a.ak (J2 a) _ oaa (λk x hx hk=>?_) ?_
  .simp only[ko,ci hk,bz,hx,WRs (k:=k),gY,J2,au]
   cases k with
   |zero=>
    simp only[jP,show ltB 0 ((0:Nat):Int)=η from by simp[ltB]]
    cases ltB x.ax 0<;>cases inR x.dq 1 100000<;>rfl
   |succ k=>
    obtain⟨y,hy,hi⟩:=xl hk oaa oaa
    simp only[ae4] at hy
    simp only[jP,hy,hi,hx,bz,show ltB 0 ((k+1:Nat):Int)=ζ from by simp[ltB],aeW]
    cases ltB x.ax 0<;>cases inR x.dq 1 100000<;>cases leB x.ax y.ax<;>rfl
  simp only[ko,bZ,gY,totr_s h,Z2,au]
  grind
 simp only[gI,hL,pG]
 grind
def jk(a:aj)(i:Int):Int:=match a.ak.find? (λx=>eqB x.ax i) with
 |some x=>x.dq
 |none=>0
theorem Sv(p:α->Bool)(xs:List α):(oR p 0 xs= -1/\xs.find? p=ξ)\/∃x,ltB (oR p 0 xs) 0=η/\ix xs (oR p 0 xs)=ς x/\xs.find? p=ς x:=by
 rcases Eo p xs 0 with⟨h1,h2⟩|⟨j,h1,x,h2,h3,h4⟩
 .simp_all
 right
 have h1':oR p 0 xs=(j:Int):=by simpa using h1
 refine⟨x,by simp_all,by simp_all,?_⟩
 have hj:=(f5.1 h2)
 rw[List.find?_eq_some_iff_getElem]
 have hjl:=hj.1
 refine⟨h3,j,hjl,hj.2,λi hi=>?_⟩
 have hil:i<xs.length:=Nat.lt_trans hi hjl
 have:xs[i]∈xs.take j:=List.mem_take_iff_getElem.2 ⟨i,by omega,rfl⟩
 simp_all
theorem Pj(h:d5 a)(i:Int):oN a i=ς (jk a i):=by
 have:=h.1
 have hf:=wc (L:=iK a i) a.ak (λx=>eqB x.ax i) oaa (λk x hx hk=>by
  simp only[iK,ci hk,bz,hx,WRs (k:=k),au]
  rfl) (by simp[iK,dn])
 unfold oN fC jk
 rw[hf]
 rcases Sv (λx:ah=>eqB x.ax i) a.ak with⟨e1,e2⟩|⟨x,e1,e2,e3⟩
 .rw[e1,e2];simp[ltB]
 grind
theorem Pk(h:d5 a)(i:Int):px a i=ς (jk a i):=by
 have:=h.1
 have hf:=wc (L:=vh a i) a.ak (λx=>eqB x.ax i) oaa (λk x hx hk=>by
  simp only[vh,ci hk,bz,hx,WRs (k:=k),au]
  rfl) (by simp[vh,dn])
 unfold px re jk
 rw[hf]
 rcases Sv (λx:ah=>eqB x.ax i) a.ak with⟨e1,e2⟩|⟨x,e1,e2,e3⟩
 .rw[e1,e2];simp[ltB]
 grind
def Co(a:aj)(q:cq):Bool:=pG a&&(qd q&&eqB (jk a q.ax) q.cH)
theorem L7(h:d5 a)(q:cq):fk a q=ς (Co a q):=by
 simp only[fk,Ar h,GC,Pj h,aeW,Co];grind
theorem L8(h:d5 a)(q:cq):fm a q=ς (Co a q):=by
 simp only[fm,As h,Dx,Pk h,aeW,Co];grind
theorem wU{ρ:Type}{L:Int->Option (bJ Int ρ)}(xs:List α)(p:Nat->α->Bool)(f:ρ)(c:Option ρ)(hl:xs.length<=9223372036854775806)(hs:∀(k:Nat) (x:α),xs[k]?=ς x->k<xs.length->L (k:Int)=bif p k x then ς (.next ((k+1:Nat):Int)) else ς (.done f))(he:L (xs.length:Int)=dn c):
 iter L FU 0=bif kt p xs then c else ς f:=by
 have:=eg (step:=L) xs.zipIdx (λk (_:Unit)=>(k:Int)) (λ_ y=>bif p y.2 y.1 then ς (.next ()) else ς (.done f)) (λ_=>c) (by simp_all)
  (λk y s hy hk=>by
   have hk':k<xs.length:=by simpa using hk
   have:y=(xs[k],k):=by rw[hV hk] at hy;simpa using hy.symm
   simp_all) (λs=>by simp_all) ()
 refine Eq.trans (show iter L FU 0=_ from this) ?_
 have key:∀ys:List (α×Nat),lB (λ(_:Unit) y=>bif p y.2 y.1 then ς (.next ()) else ς (bJ.done f)) (λ_=>c) ys ()=bif ys.all (λy=>p y.2 y.1) then c else ς f:=by
  intro ys
  induction ys with
  |nil=>rfl
  |cons x xs ih=>rw[lB];grind
 exact key _
theorem has_s{l:List Int}(h:l.length<=1048576)(v:Int):GL l v=ς (l.any λx=>eqB x v):=
 Nn l (λx=>eqB x v) oaa (λk x hx hk=>by
  simp only[Cl,ci hk,bz,hx,WRs (k:=k),au]
  rfl) (by simp[Cl,dn])
theorem Xz(a b:Int):eqB a b=eqB b a:=by rw[aeY];simp[eqB];exact eq_comm
theorem has_i{l:List Int}(h:l.length<=1048576)(v:Int):fY l v=ς (l.any λx=>eqB x v):=by
 have hf:=wc (L:=fZ l v) l (λx=>eqB x v) oaa (λk x hx hk=>by
  simp only[fZ,ci hk,bz,hx,WRs (k:=k),Xz v x,au]
  rfl) (by simp[fZ,dn])
 unfold fY kV
 rw[hf]
 simp only[aeW]
 rw[HN oaa]
def ia(m:aU)(i:Int):Bool:=inR i 0 ((m.bh.length:Int)-1)
theorem D5(h:m.bh.length<=1048576)(i:Int):oU m i=ς (ia m i):=by
 simp only[oU,jl,Cu h,aeW,ia]
def Fe(m:aU)(x:Int)(i:Nat):Bool:=match m.bh[x.toNat]? with
 |some d=>d.b7.any λy=>eqB y (i:Int)
 |none=>η
def nbB(m:aU)(i:Nat)(ns:List Int)(k:Nat)(x:Int):Bool:=ia m x&&(!eqB x (i:Int)&&(jP id ns k x&&Fe m x i))
def Fy(m:aU)(i:Nat)(c:cZ):Bool:=inR c.eO 0 2&&kt (nbB m i c.b7) c.b7
def DW(m:aU):Bool:=inR (m.bh.length:Int) 1 6&&kt (Fy m) m.bh
theorem CB{x:Int}(h:ia m x=ζ):∃d,d∈m.bh/\ix m.bh x=ς d/\m.bh[x.toNat]?=ς d:=by
 simp only[ia,cT] at h
 have hlt:x.toNat<m.bh.length:=by omega
 refine⟨m.bh[x.toNat],ae5 hlt,?_,hV hlt⟩
 have hm:x=(x.toNat:Int):=by omega
 generalize x.toNat=m at hm hlt ⊢
 simp_all
theorem map_i(h:ji m):uM m=ς (DW m):=by
 have hl:=h.1
 have h2:∀(i:Nat) (c:cZ),c∈m.bh->i<m.bh.length->iter (oC m (i:Int) c) FU 0=bif kt (λk x=>!eqB x (i:Int)&&(ia m x&&Fe m x i)) c.b7 then ς (.next ((i+1:Nat):Int)) else ς (.done η):=by
  intro i c hc hi
  have hn:=(h.2 c hc).1
  refine wU c.b7 (λk x=>!eqB x (i:Int)&&(ia m x&&Fe m x i)) (bJ.done η) _ oaa (λk x hx hk=>?_) (by simp[oC,WRs (k:=i)])
  simp only[oC,ci hk,bz,hx,WRs (k:=k),D5 hl,vB,au]
  cases eqB x (i:Int) with
  |true=>rfl
  |false=>
   cases hcb:ia m x with
   |false=>rfl
   |true=>
    obtain⟨d,d1,d2,d3⟩:=CB hcb
    simp only[d2,has_i (h.2 d d1).1,Fe,d3,au]
    simp_all
 have hL:iter (oB m) FU 0=bif kt (Fy m) m.bh then ς ζ else ς false:=by
  refine wU m.bh (Fy m) η (ς ζ) oaa (λk x hx hk=>?_) (by simp[oB])
  have hm:=v0 hx
  simp only[oB,ci hk,bz,hx,jl,SH (h.2 x hm).1,h2 k x hm hk,Fy,au]
  have:kt (nbB m k x.b7) x.b7=(asc x.b7&&kt (λj y=>!eqB y (k:Int)&&(ia m y&&Fe m y k)) x.b7):=by
   rw[asc,Nl]
   exact Qf λj y _=>by simp only[nbB];ac_rfl
  rw[this]
  cases inR x.eO 0 2<;>cases asc x.b7<;>cases kt (λj y=>!eqB y (k:Int)&&(ia m y&&Fe m y k)) x.b7<;>rfl
 simp only[uM,jl,aeW,hL,DW]
 grind
theorem map_s(h:ji m):vc m=ς (DW m):=by
 have hl:=h.1
 have h2:∀(i:Nat) (c:cZ),c∈m.bh->i<m.bh.length->iter (pk m (i:Int) c) FU 0=bif kt (nbB m i c.b7) c.b7 then ς (.next ((i+1:Nat):Int)) else ς (.done η):=by
  intro i c hc hi
  have hn:=(h.2 c hc).1
  refine wU c.b7 (nbB m i c.b7) (bJ.done η) _ oaa (λk x hx hk=>?_) (by simp[pk,WRs (k:=i)])
  simp only[pk,ci hk,bz,hx,WRs (k:=k),gY,Cu hl,nbB,au]
  cases hcb:ia m x with
  |false=>rw[show inR x 0 ((m.bh.length:Int)-1)=η from hcb];rfl
  |true=>
   rw[show inR x 0 ((m.bh.length:Int)-1)=ζ from hcb]
   obtain⟨d,d1,d2,d3⟩:=CB hcb
   cases k with
   |zero=>
    simp only[jP,show ltB 0 ((0:Nat):Int)=η from by simp[ltB],d2,has_s (h.2 d d1).1,Fe,d3,au]
    cases eqB x (i:Int)<;>cases(d.b7.any λy=>eqB y (i:Int))<;>rfl
   |succ k=>
    obtain⟨y,hy,hi⟩:=xl hk oaa oaa
    simp only[ae4] at hy
    simp only[jP,hy,hi,show ltB 0 ((k+1:Nat):Int)=ζ from by simp[ltB],d2,has_s (h.2 d d1).1,Fe,d3,id,au]
    cases eqB x (i:Int)<;>cases leB x y<;>cases(d.b7.any λy=>eqB y (i:Int))<;>rfl
 have hL:iter (pj m) FU 0=bif kt (Fy m) m.bh then ς (inR (m.bh.length:Int) 1 6) else ς false:=by
  refine wU m.bh (Fy m) η _ oaa (λk x hx hk=>?_) (by simp[pj,gY])
  have hm:=v0 hx
  simp only[pj,ci hk,bz,hx,gY,h2 k x hm hk,Fy,au]
  cases inR x.eO 0 2<;>cases kt (nbB m k x.b7) x.b7<;>rfl
 simp only[vc,hL,DW]
 grind
def Qv(d:aF)(s:ag):Bool:=(eqB d.ea.ID.dT s.bO.ID.dT&&(eqB d.ea.ID.cj s.bO.ID.cj&&ζ))&&eqB d.ea.f9 s.bO.f9
def JV(n:ae)(i:Nat)(d:aF):Bool:=match n.aT[i]?,n.bu[i]? with
 |some s,ς a=>sW d&&(lU s&&(pG a&&(Qv d s&&(ia n.fH d.bC&&(ia n.fH s.bC&&(eqB s.bM.ax (i:Int)&&Co a s.bM))))))
 |_,_=>η
def flB(n:ae)(f:a9):Bool:=inR f.bS 0 ((n.aH.length:Int)-1)&&ia n.fH f.bC
def FD(n:ae):Bool:=inR n.dK 0 (WR ((Nx .i64 1 (n.fH.bh.length:Int))-1))&&(inR n.vU 0 100000&&leB 0 n.my)
def mV(n:ae):Bool:=DW n.fH&&(Fz n.lA&&(!eqB n.lA.jS 0&&(leB (n.aH.length:Int) 4&&(eqB (n.aT.length:Int) (n.aH.length:Int)&&(eqB (n.bu.length:Int) (n.aH.length:Int)&&
 (kt (JV n) n.aH&&(leB (n.aJ.length:Int) 200&&(n.aJ.all (flB n)&&FD n))))))))
theorem Sg{x:Int}{b:Int}(h:inR x 0 b=ζ):ia m x=ltB x (m.bh.length:Int):=by
 rw[cT] at h
 rw[aeY];simp[ia,inR,leB,ltB];omega
theorem flt_i(h:ej n):iter (ij n) FU 0=ς (n.aJ.all (flB n)&&FD n):=by
 have hl:=h.2.2.2.2.1
 have:=fE (L:=ij n) n.aJ (λ_ f=>flB n f) (ς (FD n)) oaa (λk x hx hk=>by
  simp only[ij,ci hk,bz,hx,WRs (k:=k),jl,Cu h.2.1.1,D5 h.1.1,flB,au]
  cases inR x.bS 0 ((n.aH.length:Int)-1)<;>cases ia n.fH x.bC<;>rfl) (by
  simp only[ij,bZ,jl,FD,show leB 0 (n.fH.bh.length:Int)=ζ from by simp[leB],au]
  grind)
 rw[this,vY]
 grind
theorem flt_s(h:ej n):iter (ip n) FU 0=ς (n.aJ.all (flB n)&&FD n):=by
 have hl:=h.2.2.2.2.1
 have:=fE (L:=ip n) n.aJ (λ_ f=>flB n f) (ς (FD n)) oaa (λk x hx hk=>by
  simp only[ip,ci hk,bz,hx,WRs (k:=k),gY,Cu h.2.1.1,Cu h.1.1,flB,ia,au]
  cases inR x.bS 0 ((n.aH.length:Int)-1)<;>cases inR x.bC 0 ((n.fH.bh.length:Int)-1)<;>rfl) (by
  simp only[ip,bZ,gY,FD,show leB 0 (n.fH.bh.length:Int)=ζ from by simp[leB],au]
  grind)
 rw[this,vY]
 grind
section
variable{n:ae}(h:ej n)(e1:n.aT.length=n.aH.length)(e2:n.bu.length=n.aH.length)
include h e1 e2
omit h in
theorem at_i(hk:k<n.aH.length):∃s a,s∈n.aT/\a∈n.bu/\n.aT[k]?=ς s/\n.bu[k]?=ς a:=
 ⟨n.aT[k]'(by omega),n.bu[k]'(by omega),ae5 _,ae5 _,hV _,hV _⟩
theorem mem_i{d:aF}(hd:n.aH[k]?=ς d):jX n (k:Int)=ς (JV n k d):=by
 have hk:=(f5.1 hd).1
 obtain⟨s,a,s1,a1,s2,a2⟩:=at_i e1 e2 hk
 have od:=h.2.1.2 d (v0 hd)
 have os:=h.2.2.1.2 s s1
 have oa:=h.2.2.2.1.2 a a1
 simp only[jX,bz,hd,s2,a2,Xk od.2.1 od.1.1,EV os,Ar oa,D5 h.1.1,L7 oa,aeW,JV,Qv]
 grind
theorem mem_s{d:aF}(hd:n.aH[k]?=ς d):yh n (k:Int)=ς (JV n k d):=by
 have hk:=(f5.1 hd).1
 obtain⟨s,a,s1,a1,s2,a2⟩:=at_i e1 e2 hk
 have od:=h.2.1.2 d (v0 hd)
 have os:=h.2.2.1.2 s s1
 have oa:=h.2.2.2.1.2 a a1
 simp only[yh,bz,hd,s2,a2,Xl od.2.1 od.1.1,EW os,As oa,L8 oa,aeW,JV,Qv]
 cases hv:sW d
 .rfl
 cases hs:lU s
 .rfl
 have c1:ia n.fH d.bC=ltB d.bC (n.fH.bh.length:Int):=by
  simp only[sW,f4] at hv;exact Sg hv.2.2.1
 have c2:ia n.fH s.bC=ltB s.bC (n.fH.bh.length:Int):=by
  simp only[lU,f4] at hs;exact Sg hs.2.2.2.2.2.2.2.2.2.2.2.1
 grind
theorem mems_i:iter (ig n) FU 0=ς (kt (JV n) n.aH&&(leB (n.aJ.length:Int) 200&&(n.aJ.all (flB n)&&FD n))):=by
 have hl:=h.2.1.1
 have:=fE (L:=ig n) n.aH (JV n) (ς (leB (n.aJ.length:Int) 200&&(n.aJ.all (flB n)&&FD n))) oaa (λk x hx hk=>by
  simp only[ig,ci hk,mem_i h e1 e2 hx,WRs (k:=k),au]
  simp_all) (by
  simp only[ig,bZ,cond_false,flt_i h,u6 200]
  grind)
 grind
theorem mems_s:iter (im n) FU 0=ς (kt (JV n) n.aH&&(n.aJ.all (flB n)&&FD n)):=by
 have hl:=h.2.1.1
 have:=fE (L:=im n) n.aH (JV n) (ς (n.aJ.all (flB n)&&FD n)) oaa (λk x hx hk=>by
  simp only[im,ci hk,mem_s h e1 e2 hx,WRs (k:=k),au]
  simp_all) (by simp only[im,bZ,cond_false,flt_s h])
 grind
end
theorem Ay{a b:Nat}(h:eqB (a:Int) (b:Int)=ζ):a=b:=by
 have:(a:Int)=b:=by simpa [eqB] using h
 omega
theorem Vl(h:ej n):mY n=ς (mV n):=by
 simp only[mY,map_i h.1,pool_i,aeW,mV,u6 4]
 cases DW n.fH<;>cases Fz n.lA<;>cases eqB n.lA.jS 0<;>cases leB (n.aH.length:Int) 4<;>try rfl
 cases e1:eqB (n.aT.length:Int) (n.aH.length:Int)<;>cases e2:eqB (n.bu.length:Int) (n.aH.length:Int)<;>try rfl
 rw[mems_i h (Ay e1) (Ay e2)];rfl
theorem Vm(h:ej n):nD n=ς (mV n):=by
 simp only[nD,map_s h.1,pool_s,aeW,mV,u6 4,u6 200]
 cases DW n.fH<;>cases Fz n.lA<;>cases eqB n.lA.jS 0<;>cases leB (n.aH.length:Int) 4<;>try rfl
 cases e1:eqB (n.aT.length:Int) (n.aH.length:Int)<;>cases e2:eqB (n.bu.length:Int) (n.aH.length:Int)<;>try rfl
 rw[mems_s h (Ay e1) (Ay e2)]
 grind
attribute [local simp] bZ bz
theorem pQ{by_:Nat}{L:Int×List α->Option (bJ (Int×List α) (List α))}(xs:List α)(hb:by_<=100000)(hl:xs.length<=1048576)(hs:∀(k:Nat) (x:α),xs[k]?=ς x->k<xs.length->L ((k:Int),xs.take k)=bif c8 by_ (xs.take k++[x]).length then ς (.next (((k+1:Nat):Int),xs.take k++[x])) else ξ)(he:L ((xs.length:Nat),xs)=ς (.done xs)):iter L FU (0,[])=ς xs:=by
 have:=eg (step:=L) xs (λk (_:Unit)=>((k:Int),xs.take k)) (λ_ _=>ς (.next ())) (λ_=>ς xs) oaa
  (λk x _ hx hk=>by
   rw[hs k x hx hk,cy hb (by simp;omega)]
   have e:xs.take (k+1)=xs.take k++[x]:=by rw[afi,hx];rfl
   simp[e]) (λ_=>by simp_all) ()
 rw[BK xs (λ_ _=>rfl)] at this
 exact this
theorem CD(z:α)(xs:List α):cpL (aal ((xs.length:Int)).toNat z) xs=xs:=by simp[cpL]
theorem gH{b n:Nat}(hb:b<=100000)(hn:n<=1048576):jh b (n:Int) (n:Int)=true:=by
 have h:b*n<=100000*1048576:=afh hb hn
 have h2:(b:Int)*(n:Int)<=104857600000:=by rw[<-afD];omega
 simp only[jh,decide_eq_true_eq];omega
theorem pS{f:α->Option α}{L:Int×List α->Option (bJ (Int×List α) (List α))}(z:α)(xs:List α)(hl:xs.length<=1048576)(hf:∀x∈xs,f x=ς x)(hs:∀(k:Nat) (v:List α),L ((k:Int),v)=bif ltB (k:Int) (xs.length:Int) then(aeP (ix xs (k:Int)) λx=>aeP (f x) λr=>aeP (ix v (k:Int)) λ_=>ς (.next (WR ((k:Int)+1),v.set ((k:Int)).toNat r))) else ς (.done v)):
 iter L FU (0,aal ((xs.length:Int)).toNat z)=ς xs:=by
 have:=KI (step:=L) id z xs oaa
  (λk x v hx hv=>by
   have hk:=(f5.1 hx).1
   rw[hs]
   simp[ci hk,hx,hf x (v0 hx),WRs (k:=k),hV (show k<v.length by omega)])
  (λv=>by rw[hs];simp)
 simp_all
theorem Kf{xs:List aP}(h:okL fQ xs):uq xs=ς xs:=by
 rw[uq,pQ (by_:=24) (L:=qE xs) xs oaa h.1 (λk x hx hk=>by
  simp[qE,ci hk,hx,lW (show k<9223372036854775807 by have:=h.1;omega),cy (by_:=1) (n:=x.be.length) oaa (by have:=(h.2 x (v0 hx)).1;omega)]) (by simp[qE])]
 rfl
theorem PD{xs:List ab}(h:okL dg xs):wF xs=ς xs:=by
 rw[wF,pQ (by_:=32) (L:=sS xs) xs oaa h.1 (λk x hx hk=>by
  simp[sS,ci hk,hx,lW (show k<9223372036854775807 by have:=h.1;omega),cy (by_:=1) (n:=x.be.length) oaa (by have:=(h.2 x (v0 hx)).1;omega)]) (by simp[sS])]
 rfl
theorem I9(h:fy w):nN w=ς w:=by rw[nN,PD h];rfl
theorem Za(h:dM r):Ag r=ς r:=by rw[Ag,PD h.1,aeW,Kf h.2];rfl
theorem plan_c{p:bK}(h:fF p):DL p=ς p:=by
 rw[DL,adT,cy oaa (by have:=h.1;omega)];rfl
theorem vQ(h:dw s):kN s=ς s:=by rw[kN,plan_c h.1,aeW,Kf h.2.1,aeW,I9 h.2.2];rfl
theorem Kl{d:aF}(h:dD d):pC d=ς d:=by rw[pC,Za h];rfl
theorem GU(h:d5 a):mU a=ς a:=by
 rw[mU,adT,cy oaa (by have:=h.1;omega)];rfl
theorem acu{x:am}(h:ik x):DI x=ς x:=by
 rw[DI,adT,cy oaa (by have:=h.1;omega)];rfl
theorem NO(h:fP f):uu f=ς f:=by rw[uu,acu h];rfl
theorem map_c(h:ji m):Af m=ς m:=by
 rw[Af,pQ (by_:=32) (L:=vg m) m.bh oaa h.1 (λk x hx hk=>by
  simp[vg,ci hk,hx,lW (show k<9223372036854775807 by have:=h.1;omega),cy (by_:=8) (n:=x.b7.length) oaa (by have:=(h.2 x (v0 hx)).1;omega)]) (by simp[vg])]
 rfl
theorem net_c(h:ej n):DM n=ς n:=by
 obtain⟨h1,h2,h3,h4,h5⟩:=h
 rw[DM,map_c h1,aeW,
  pQ (by_:=144) (L:=vj n) n.aH oaa h2.1 (λk x hx hk=>by simp[vj,ci hk,hx,lW (show k<9223372036854775807 by have:=h2.1;omega),Kl (h2.2 x (v0 hx))]) (by simp[vj]),aeW,
  pQ (by_:=288) (L:=vk n) n.aT oaa h3.1 (λk x hx hk=>by simp[vk,ci hk,hx,lW (show k<9223372036854775807 by have:=h3.1;omega),vQ (h3.2 x (v0 hx))]) (by simp[vk]),aeW,
  pQ (by_:=48) (L:=vl n) n.bu oaa h4.1 (λk x hx hk=>by simp[vl,ci hk,hx,lW (show k<9223372036854775807 by have:=h4.1;omega),GU (h4.2 x (v0 hx))]) (by simp[vl]),aeW,
  pQ (by_:=176) (L:=vm n) n.aJ oaa h5.1 (λk x hx hk=>by simp[vm,ci hk,hx,lW (show k<9223372036854775807 by have:=h5.1;omega),NO (h5.2 x (v0 hx))]) (by simp[vm])]
 rfl
theorem X7{xs:List Int}(h:xs.length<=1048576):sZ xs=ς xs:=by rw[sZ,gH oaa h,CD];rfl
theorem Au{xs:List Int}(h:xs.length<=1048576):ev xs=ς xs:=by rw[ev,gH oaa h,CD];rfl
theorem abA{xs:List ah}(h:xs.length<=1048576):fo xs=ς xs:=by rw[fo,gH oaa h,CD];rfl
theorem ZR{xs:List aD}(h:xs.length<=1048576):fB xs=ς xs:=by rw[fB,gH oaa h,CD];rfl
theorem Iu{xs:List aP}(h:okL fQ xs):kP xs=ς xs:=by
 rw[kP,gH oaa h.1,pS (f:=λx=>aeP (ev x.be) λr=>ς (⟨r⟩:aP)) (L:=pP xs) (⟨[]⟩:aP) xs h.1 (λx hx=>by rw[Au (h.2 x hx).1];rfl) (λk v=>by
  simp only[pP];grind)]
 rfl
theorem B7{xs:List ab}(h:okL dg xs):i9 xs=ς xs:=by
 rw[i9,gH oaa h.1,pS (f:=λx=>aeP (ev x.be) λr=>ς (⟨x.df,r⟩:ab)) (L:=pO xs) bE xs h.1 (λx hx=>by rw[Au (h.2 x hx).1];rfl) (λk v=>by
  simp only[pO];grind)]
 rfl
theorem TE(h:dM r):kQ r=ς r:=by rw[kQ,B7 h.1,aeW,Iu h.2];rfl
theorem Xi{d:aF}(h:dD d):qQ d=ς d:=by rw[qQ,TE h];rfl
theorem acs{p:bK}(h:fF p):kZ p=ς p:=by rw[kZ,X7 h.1];rfl
theorem EU(h:fy w):jO w=ς w:=by rw[jO,B7 h];rfl
theorem DG(h:dw s):iJ s=ς s:=by rw[iJ,acs h.1,aeW,Iu h.2.1,aeW,EU h.2.2];rfl
theorem D3(h:d5 a):er a=ς a:=by rw[er,abA h.1];rfl
theorem Rs{x:aV}(h:iQ x):sC x=ς x:=by rw[sC,Au h.1];rfl
theorem Y3{x:am}(h:ik x):xh x=ς x:=by rw[xh,Rs h];rfl
theorem Ku(h:fP f):qR f=ς f:=by rw[qR,Y3 h];rfl
theorem map_ci(h:ji m):CZ m=ς m:=by
 rw[CZ,gH oaa h.1,pS (f:=λx=>aeP (sZ x.b7) λr=>ς (⟨x.eO,r⟩:cZ)) (L:=zh m) Ju m.bh h.1 (λx hx=>by rw[X7 (h.2 x hx).1];rfl) (λk v=>by
  simp only[zh];grind)]
 rfl
theorem net_ci(h:ej n):sB n=ς n:=by
 obtain⟨h1,h2,h3,h4,h5⟩:=h
 rw[sB,map_ci h1,aeW,eY,gH oaa h2.1,pS (L:=gx n.aH) _ _ h2.1 (λx hx=>Xi (h2.2 x hx)) (λk v=>rfl),cond_true,aeW,aeW,
  eL,gH oaa h3.1,pS (L:=fU n.aT) _ _ h3.1 (λx hx=>DG (h3.2 x hx)) (λk v=>rfl),cond_true,aeW,aeW,
  eJ,gH oaa h4.1,pS (L:=fT n.bu) _ _ h4.1 (λx hx=>D3 (h4.2 x hx)) (λk v=>rfl),cond_true,aeW,aeW,
  eZ,gH oaa h5.1,pS (L:=gz n.aJ) _ _ h5.1 (λx hx=>Ku (h5.2 x hx)) (λk v=>rfl),cond_true,aeW,aeW]
theorem Ff(n a b:Int):bW n a b=ς (inR n a b):=by unfold bW inR;grind
theorem PE(n a b:Int):dt n a b=ς (inR n a b):=by unfold dt inR;grind
theorem K7(x m:Int):(aeQ x m)%m=x%m:=by
 have h:=Int.mul_tdiv_add_tmod x m
 have h2:x%m=(m*x.tdiv m+x.tmod m)%m:=by rw[h]
 rw[h2,Int.mul_add_emod_self_left]
theorem PK{m:Int}(x:Int)(hm:0<m): -m<aeQ x m/\aeQ x m<m:=⟨Int.lt_tmod_of_pos x hm,Int.tmod_lt_of_pos x hm⟩
theorem ab5{r m:Int}(h1: -m<r)(h2:r<0):r%m=r+m:=by
 rw[<-afy r m,afA oaa oaa]
theorem SD(x:Int){m:Int}(h1:1<=m)(h2:m<=1000000000000):UI x m=ς (x%m):=by
 obtain⟨a,b⟩:=PK x (show 0<m by omega)
 have hr:inR m 1 1000000000000=true:=cT.2 ⟨h1,h2⟩
 have hz:(!eqB m 0)=true:=by simp[eqB];omega
 simp only[UI,Ff,hr,hz,au]
 rw[<-K7 x m]
 by_cases h:aeQ x m<0
 .rw[show ltB (aeQ x m) 0=ζ from Ox h,ab5 a h]
  simp only[au]
  rw[bY oaa]
 rw[show ltB (aeQ x m) 0=η from Ow oaa,afA oaa b]
 rfl
theorem A2(x:Int){m:Int}(h1:1<=m)(h2:m<=1000000000000):J4 x m=ς (x%m):=by
 obtain⟨a,b⟩:=PK x (show 0<m by omega)
 have hr:inR m 1 1000000000000=true:=cT.2 ⟨h1,h2⟩
 have hz:(!eqB m 0)=true:=by simp[eqB];omega
 simp only[J4,PE,hr,hz,au]
 rw[bY oaa,ae1 oaa,afy,K7]
abbrev hM:Int:=2147483647
def CP(v x:Int):Int:=(v*1000003+x%hM+13)%hM
theorem qL(v x:Int):0<=CP v x/\CP v x<hM:=⟨afE _ (by decide),afz _ (by decide)⟩
theorem Y4{v x:Int}(h0:0<=v)(h1:v<hM):aeQ (WR (WR (WR (v*1000003)+x%hM)+13)) hM=CP v x:=by
 have a:=afE x (show hM≠0 by decide)
 have b:=afz x (show 0<hM by decide)
 unfold hM at*
 rw[bY (n:=v*1000003) oaa,bY (n:=v*1000003+x%2147483647) oaa,bY (n:=v*1000003+x%2147483647+13) oaa,ae1 oaa]
 rfl
theorem xj{v x:Int}(h0:0<=v)(h1:v<hM):nQ v x=ς (CP v x):=by
 rw[nQ,SD x oaa oaa]
 simp only[aeW]
 rw[Y4 h0 h1]
def Ht(v:Int)(xs:List Int):Int:=xs.foldl CP v
theorem NW{v:Int}(h0:0<=v)(h1:v<hM):∀(xs:List Int),0<=Ht v xs/\Ht v xs<hM
 |[]=>⟨h0,h1⟩
 |x::xs=>NW (qL v x).1 (qL v x).2 xs
theorem NQ:∀(xs:List Int) (v:Int),0<=v->v<hM->lB (λ(s x:Int)=>ς (bJ.next (ρ:=Int) (aeQ (WR (WR (WR (s*1000003)+x%hM)+13)) hM))) ς xs v=ς (Ht v xs)
 |[],v,_,_=>rfl
 |x::xs,v,h0,h1=>by
  rw[lB,Y4 h0 h1]
  exact NQ xs _ (qL v x).1 (qL v x).2
theorem Zt{xs:List Int}(hl:xs.length<=1048576):TJ xs=ς (Ht 11 xs):=by
 have:=eg (step:=z7 xs) xs (λk (s:Int)=>(s,(k:Int))) (λs x=>ς (bJ.next (aeQ (WR (WR (WR (s*1000003)+x%hM)+13)) hM))) ς oaa
  (λk x s hx hk=>by
   simp only[z7,ci hk,bz,hx,A2 x (m:=2147483647) oaa oaa,WRs (k:=k),au];rfl) (λs=>by simp[z7]) 11
 rw[TJ,show iter (z7 xs) FU (11,0)=_ from this,NQ xs 11 (by decide) (by decide)]
 rfl
theorem KB:∀(xs:List Int) (v:Int),0<=v->v<hM->lB (λ(s x:Int)=>aeP (nQ s x) λr=>ς (bJ.next (ρ:=Int) r)) ς xs v=ς (Ht v xs)
 |[],v,_,_=>rfl
 |x::xs,v,h0,h1=>by
  rw[lB,xj h0 h1]
  exact KB xs _ (qL v x).1 (qL v x).2
def dS(k:Int)(xs:List Int):Int:=CP (Ht (CP 11 k) xs) k
theorem qU(k:Int)(xs:List Int):0<=dS k xs/\dS k xs<hM:=qL _ _
theorem d8{xs:List Int}(hl:xs.length<=1048576)(k:Int):eH k xs=ς (dS k xs):=by
 have:=eg (step:=mK xs) xs (λk (s:Int)=>(s,(k:Int))) (λs x=>aeP (nQ s x) λr=>ς (bJ.next r)) ς oaa
  (λk x s hx hk=>by
   simp only[mK,ci hk,bz,hx,WRs (k:=k),au]
   simp_all) (λs=>by simp[mK]) (CP 11 k)
 rw[eH,xj (by decide) (by decide)]
 simp only[aeW]
 have h2:=qL 11 k
 rw[show iter (mK xs) FU (CP 11 k,0)=_ from this,KB xs _ h2.1 h2.2]
 have h3:=NW h2.1 h2.2 xs
 simp only[aeW]
 rw[xj h3.1 h3.2]
 rfl
theorem d9{xs:List Int}(hl:xs.length<=100000)(k:Int):eM k xs=ς (dS k xs):=by
 have a1:c8 8 ([k]++xs).length=true:=cy oaa (by simp;omega)
 have a2:c8 8 (([k]++xs)++[k]).length=true:=cy oaa (by simp;omega)
 rw[eM,a1,a2]
 simp only[cond_true]
 rw[Zt (by simp;omega)]
 simp[Ht,dS]
def dk(k x:Int):Int:=if dS k [9,x]=0 then 1 else dS k [9,x]
theorem vC(k x:Int):pM k x=ς (dk k x):=by
 rw[pM,d8 (by simp)]
 simp only[aeW,dk]
 by_cases h:dS k [9,x]=0
 .rw[h];simp
 rw[show eqB (dS k [9,x]) 0=η from eqB_f.2 h];simp[h]
theorem vO(k x:Int):p8 k x=ς (dk k x):=by
 have:=(qU k [9,x]).1
 rw[p8,d9 (by simp)]
 simp only[aeW,dk,ML]
 by_cases h:dS k [9,x]=0
 .rw[h,show ltB 1 0=η from ltB_f.2 oaa];simp
 by_cases h1:dS k [9,x]=1
 .rw[h1];simp
 rw[show ltB 1 (dS k [9,x])=ζ from ltB_t.2 oaa];simp[h]
def Oi(k:Int)(xs:List Int):Int:=xs.foldl dk k
theorem Er:∀(xs:List Int) (v:Int),lB (λ(s x:Int)=>ς (bJ.next (ρ:=Int) (dk s x))) ς xs v=ς (Oi v xs)
 |[],v=>rfl
 |x::xs,v=>by rw[lB];exact Er xs _
theorem yZ{p:fj}(hl:p.Steps.length<=1048576)(k:Int):qN k p=ς (Oi k p.Steps):=by
 have:=eg (step:=kz p.Steps) p.Steps (λj (s:Int)=>(s,(j:Int))) (λs x=>ς (bJ.next (dk s x))) ς oaa
  (λj x s hx hj=>by simp[kz,ci hj,hx,WRs (k:=j),vC]) (λs=>by simp[kz]) k
 rw[qN,xi,show iter (kz p.Steps) FU (k,0)=_ from this,Er]
 rfl
theorem z8{p:fj}(hl:p.Steps.length<=1048576)(k:Int):qZ k p=ς (Oi k p.Steps):=by
 have:=eg (step:=lO p) p.Steps (λj (s:Int)=>(s,(j:Int))) (λs x=>ς (bJ.next (dk s x))) ς oaa
  (λj x s hx hj=>by simp[lO,ci hj,hx,WRs (k:=j),vO]) (λs=>by simp[lO]) k
 rw[qZ,show iter (lO p) FU (k,0)=_ from this,Er]
 rfl
def VH(k e:Int):Int:=Oi k [1,3,e]
theorem xc(k e:Int):sY k e=ς (VH k e):=by
 rw[sY,vF]
 simp only[aeW]
 rw[yZ (by simp)];rfl
theorem xW(k e:Int):s5 k e=ς (VH k e):=by
 rw[s5,vP]
 simp only[aeW]
 rw[z8 (by simp)];rfl
def okB(xs:List Int):Prop:=∀x∈xs,B8 x
theorem WM{x:Int}(h:B8 x):WR x=x:=bY (by simp only[B8] at h;omega)
theorem D4:∀(xs acc:List Int),okB xs->acc.length+xs.length<=100000->lB (λ(s:List Int) (x:Int)=>bif c8 8 (s++[WR x]).length then ς (bJ.next (ρ:=List Int) (s++[WR x])) else ξ) ς xs acc=ς (acc++xs)
 |[],acc,_,_=>by simp[lB]
 |x::xs,acc,h,hl=>by
  simp only[acn] at hl
  rw[lB,show c8 8 (acc++[WR x]).length=ζ from uz (by simp;omega) (by simp;omega),WM (h x (.head _))]
  simp only[cond_true]
  rw[D4 xs (acc++[x]) (λy hy=>h y (.tail _ hy)) (by simp;omega)]
  simp
theorem Kz{xs:List Int}(hb:okB xs)(hl:xs.length<=50000):sk xs=ς ((xs.length:Int)::xs):=by
 have:=eg (step:=kv xs) xs (λj (s:List Int)=>((j:Int),s)) (λ(s:List Int) (x:Int)=>bif c8 8 (s++[WR x]).length then ς (bJ.next (ρ:=List Int) (s++[WR x])) else ξ) ς oaa
  (λj x s hx hj=>by
   simp only[kv,ci hj,bz,hx,WRs (k:=j),au]
   simp_all) (λs=>by simp[kv]) [(xs.length:Int)]
 have hm:jh 8 0 (WR ((xs.length:Int)+1))=true:=by
  rw[bY oaa];simp only[jh,decide_eq_true_eq];omega
 rw[sk,hm]
 simp only[cond_true]
 rw[show((aal ((0:Int)).toNat 0)++[(xs.length:Int)])=[(xs.length:Int)] from rfl,show c8 8 [(xs.length:Int)].length=ζ from uz (by simp) (by simp)]
 simp only[cond_true]
 rw[show iter (kv xs) FU (0,[(xs.length:Int)])=_ from this,D4 xs _ hb (by simp;omega)]
 rfl
theorem K3{xs:List Int}(hb:okB xs)(hl:xs.length<=50000):sI xs=ς ((xs.length:Int)::xs):=by
 have:=eg (step:=kD xs) xs (λj (s:List Int)=>((j:Int),s)) (λ(s:List Int) (x:Int)=>bif c8 8 (s++[WR x]).length then ς (bJ.next (ρ:=List Int) (s++[WR x])) else ξ) ς oaa
  (λj x s hx hj=>by
   simp only[kD,ci hj,bz,hx,WRs (k:=j),au]
   simp_all) (λs=>by simp[kD]) [(xs.length:Int)]
 rw[sI,show iter (kD xs) FU (0,[(xs.length:Int)])=_ from this,D4 xs _ hb (by simp;omega)]
 rfl
def J6(m:aV):Bool:=inR m.c7 0 1&&(inR m.f8 1 100000&&(leB (m.be.length:Int) 60&&inR m.nJ 0 2147483646))
theorem ui(m:aV):kF m=ς (J6 m):=by
 simp only[kF,PE,aeW,J6]
 grind
theorem BM(m:aV):mZ m=ς (J6 m):=by
 simp only[mZ,Ff,aeW,J6]
 by_cases h0:m.c7=0
 .rw[h0,show inR 0 0 1=ζ from cT.2 oaa]
  simp only[bT,cond_true]
  grind
 by_cases h1:m.c7=1
 .rw[h1,show inR 1 0 1=ζ from cT.2 oaa,show eqB 1 0=η from eqB_f.2 oaa]
  simp only[bT,au]
  grind
 rw[show eqB m.c7 0=η from eqB_f.2 h0,show eqB m.c7 1=η from eqB_f.2 h1,show inR m.c7 0 1=η from by
  cases h:inR m.c7 0 1 with
  |false=>rfl
  |true=>have:=cT.1 h;omega]
 rfl
def mac(k:Int)(m:aV):Int:=dS k ([m.c7,m.f8]++((m.be.length:Int)::m.be))
theorem JK{m:aV}(hb:okB m.be)(hl:m.be.length<=50000)(k:Int):xf k m=ς (eqB m.nJ (mac k m)):=by
 rw[xf,nV,Kz hb hl]
 simp only[aeW]
 rw[show c8 8 ([m.c7,m.f8]++((m.be.length:Int)::m.be)).length=ζ from uz (by simp;omega) (by simp;omega),d8 (by simp;omega)]
 rfl
theorem Bz{m:aV}(hb:okB m.be)(hl:m.be.length<=50000)(k:Int):ul k m=ς (eqB m.nJ (mac k m)):=by
 rw[ul,EX,K3 hb hl]
 simp only[aeW]
 rw[show c8 8 ([m.c7,m.f8]++((m.be.length:Int)::m.be)).length=ζ from uz (by simp;omega) (by simp;omega),d9 (by simp;omega)]
 rfl
theorem Jl{m:aV}(h:J6 m=ζ):m.be.length<=60:=by
 simp only[J6,f4] at h
 have:=BU h.2.2.1
 omega
def RN(k:Int)(p:am):Bool:=J6 p.bH&&(eqB p.bH.c7 1&&eqB p.bH.nJ (mac (VH k p.a8) p.bH))
theorem FI{p:am}(hb:okB p.bH.be)(k:Int):sx k p=ς (RN k p):=by
 rw[sx,BM]
 simp only[aeW,RN,xc]
 cases hv:J6 p.bH
 .rfl
 rw[JK hb (acR (Jl hv) oaa)]
 grind
theorem Ge{p:am}(hb:okB p.bH.be)(k:Int):sQ k p=ς (RN k p):=by
 rw[sQ,ui]
 simp only[aeW,RN,xW]
 cases hv:J6 p.bH
 .rfl
 rw[Bz hb (acR (Jl hv) oaa)]
 grind
def d1(k:Int)(i:Nat)(x:Int):Int:=(x-dS k [(i:Int)]%256)%256
def BG(k:Int)(xs:List Int):List Int:=xs.mapIdx (λi x=>d1 k i x)
theorem Ha(k:Int)(xs:List Int):(BG k xs).length=xs.length:=by simp[BG]
theorem abf(k:Int)(xs:List Int):okB (BG k xs):=by
 intro x hx
 obtain⟨i,hi⟩:=ac7 hx
 simp only[BG,aeS] at hi
 cases h:xs[i]? with
 |none=>simp_all
 |some y=>
  rw[h] at hi;simp at hi;subst hi
  simp only[B8,d1]
  omega
theorem Le(n:Int):IntKind.u8.wrap n=n%256:=by rfl
theorem NY{xs:List Int}(hb:okB xs)(hl:xs.length<=50000)(k:Int):CQ k xs=ς (BG k xs):=by
 have hc:ev xs=ς xs:=by
  have hm:jh 1 (xs.length:Int) (xs.length:Int)=true:=by simp only[jh,decide_eq_true_eq];omega
  rw[ev,hm]
  simp[cpL]
 have goal:Wp (iter (yW k xs) FU (0,xs)) (λr=>r=BG k xs):=by
  refine Wp.iterF (λs=>∃i:Nat,i<=xs.length/\s.1=(i:Int)/\s.2.length=xs.length/\(∀j,j<i->s.2[j]?=(BG k xs)[j]?)/\(∀j,i<=j->s.2[j]?=xs[j]?)) (λs=>((xs.length:Int)-s.1).toNat) ⟨0,by omega,rfl,rfl,by omega,λ_ _=>rfl⟩ (by simp;omega) ?_
  rintro⟨v2,v3⟩ ⟨i,hi,rfl,h3,h4,h5⟩
  simp only at h3 h4 h5
  simp only[yW]
  refine Wp.cond (λhlt=>?_) (λhlt=>?_)
  .have hlt:=zv hlt
   have hil:i<xs.length:=by omega
   refine Wp.ix oaa oaa λx hx hxi=>?_
   refine Wp.eq (d8 (by simp) _) (Wp.ix oaa oaa λx' _ _=>Wp.some ?_)
   simp only[aeX] at hxi
   have hxi':xs[i]?=ς x:=by rw[<-h5 i (abk _)];exact hxi
   have hr:=qU k [(i:Int)]
   have e1:aeQ (dS k [(i:Int)]) 256=dS k [(i:Int)]%256:=ae1 hr.1
   have e2:IntKind.u8.wrap (x-IntKind.u8.wrap (aeQ (dS k [(i:Int)]) 256))=d1 k i x:=by
    rw[Le,Le,e1,d1]
    omega
   have e3:WR ((i:Int)+1)=((i+1:Nat):Int):=by rw[bY oaa];rfl
   rw[e2,e3]
   refine⟨⟨i+1,by omega,rfl,by simp_all,λj hj=>?_,λj hj=>?_⟩,?_⟩
   .simp only[aeX]
    rw[afc]
    by_cases hij:i=j
    .subst hij
     rw[if_pos rfl,if_pos oaa]
     simp only[BG,aeS,hxi',afb]
    grind
   .grind
   omega
  have hlt:=Dc hlt
  refine Wp.some (ae6 λj=>?_)
  by_cases hj:j<xs.length
  .grind
  rw[aft oaa,aft (by rw[Ha];omega)]
 obtain⟨r,h1,h2⟩:=goal.ex
 rw[CQ,hc]
 simp_all
theorem Pu{xs:List Int}(hb:okB xs)(hl:xs.length<=50000)(k:Int):DD k xs=ς (BG k xs):=by
 have goal:Wp (iter (zZ k xs) FU (0,[])) (λr=>r=BG k xs):=by
  refine Wp.iterF (λs=>∃i:Nat,i<=xs.length/\s.1=(i:Int)/\s.2=(BG k xs).take i) (λs=>((xs.length:Int)-s.1).toNat) ⟨0,by omega,rfl,rfl⟩ (by simp;omega) ?_
  rintro⟨v2,v3⟩ ⟨i,hi,rfl,rfl⟩
  simp only[zZ]
  refine Wp.cond (λhlt=>?_) (λhlt=>?_)
  .have hlt:=zv hlt
   have hil:i<xs.length:=by omega
   refine Wp.ix oaa oaa λx hx hxi=>?_
   simp only[aeX] at hxi
   have hx8:=hb x hx
   have hr:=qU k [(i:Int)]
   have e1:aeQ (dS k [(i:Int)]) 256=dS k [(i:Int)]%256:=ae1 hr.1
   have hb8:0<=dS k [(i:Int)]%256/\dS k [(i:Int)]%256<256:=by omega
   simp only[B8] at hx8
   refine Wp.eq (d9 (by simp) _) (Wp.eq (A2 _ oaa oaa) ?_)
   have hlen:((BG k xs).take i).length=i:=by rw[ad0,Ha];omega
   rw[e1,WM (hb x hx),bY oaa,Le]
   have e4:(x-dS k [(i:Int)]%256)%256%256=d1 k i x:=by rw[d1];omega
   rw[e4]
   refine Wp.ok (uz (by grind) (by grind)) (Wp.some ?_)
   have e3:WR ((i:Int)+1)=((i+1:Nat):Int):=by rw[bY oaa];rfl
   rw[e3]
   have hxd:(BG k xs)[i]?=ς (d1 k i x):=by simp only[BG,aeS,hxi,afb]
   refine⟨⟨i+1,by omega,rfl,by rw[afi,hxd];rfl⟩,?_⟩
   omega
  have hlt:=Dc hlt
  refine Wp.some ?_
  rw[aff (by rw[Ha];omega)]
 obtain⟨r,h1,h2⟩:=goal.ex
 rw[DD,h1,h2];rfl
def e1(k:Int)(i:Nat)(x:Int):Int:=(x+dS k [(i:Int)]%256)%256
def yD(k:Int)(xs:List Int):List Int:=xs.mapIdx (λi x=>e1 k i x)
@[simp] theorem encL_len (k:Int) (xs:List Int):(yD k xs).length=xs.length:=by simp[yD]
theorem LE(k:Int)(xs:List Int):okB (yD k xs):=by
 intro x hx
 obtain⟨i,hi⟩:=ac7 hx
 simp only[yD,aeS] at hi
 cases h:xs[i]? with
 |none=>simp_all
 |some y=>rw[h] at hi;simp at hi;subst hi;simp only[B8,e1];omega
theorem NZ{xs:List Int}(hb:okB xs)(hl:xs.length<=50000)(k:Int):CR k xs=ς (yD k xs):=by
 have hc:ev xs=ς xs:=Au oaa
 have goal:Wp (iter (yX k xs) FU (0,xs)) (λr=>r=yD k xs):=by
  refine Wp.iterF (λs=>∃i:Nat,i<=xs.length/\s.1=(i:Int)/\s.2.length=xs.length/\(∀j,j<i->s.2[j]?=(yD k xs)[j]?)/\(∀j,i<=j->s.2[j]?=xs[j]?)) (λs=>((xs.length:Int)-s.1).toNat) ⟨0,by omega,rfl,rfl,by omega,λ_ _=>rfl⟩ (by simp;omega) ?_
  rintro⟨v2,v3⟩ ⟨i,hi,rfl,h3,h4,h5⟩
  simp only at h3 h4 h5
  simp only[yX]
  refine Wp.cond (λhlt=>?_) (λhlt=>?_)
  .have hlt:=zv hlt
   have hil:i<xs.length:=by omega
   refine Wp.ix oaa oaa λx hx hxi=>?_
   refine Wp.eq (d8 (by simp) _) (Wp.ix oaa oaa λx' _ _=>Wp.some ?_)
   simp only[aeX] at hxi
   have hxi':xs[i]?=ς x:=by rw[<-h5 i (abk _)];exact hxi
   have hr:=qU k [(i:Int)]
   have t1:aeQ (dS k [(i:Int)]) 256=dS k [(i:Int)]%256:=ae1 hr.1
   have t2:IntKind.u8.wrap (x+IntKind.u8.wrap (aeQ (dS k [(i:Int)]) 256))=e1 k i x:=by
    rw[Le,Le,t1,e1]
    omega
   have t3:WR ((i:Int)+1)=((i+1:Nat):Int):=by rw[bY oaa];rfl
   rw[t2,t3]
   refine⟨⟨i+1,by omega,rfl,by simp_all,λj hj=>?_,λj hj=>?_⟩,?_⟩
   .simp only[aeX]
    rw[afc]
    by_cases hij:i=j
    .subst hij
     rw[if_pos rfl,if_pos oaa]
     simp only[yD,aeS,hxi',afb]
    grind
   .grind
   omega
  have hlt:=Dc hlt
  refine Wp.some (ae6 λj=>?_)
  by_cases hj:j<xs.length
  .grind
  simp_all
 obtain⟨r,h1,h2⟩:=goal.ex
 rw[CR,hc]
 simp_all
theorem Pv{xs:List Int}(hb:okB xs)(hl:xs.length<=50000)(k:Int):DE k xs=ς (yD k xs):=by
 have goal:Wp (iter (z0 k xs) FU (0,[])) (λr=>r=yD k xs):=by
  refine Wp.iterF (λs=>∃i:Nat,i<=xs.length/\s.1=(i:Int)/\s.2=(yD k xs).take i) (λs=>((xs.length:Int)-s.1).toNat) ⟨0,by omega,rfl,rfl⟩ (by simp;omega) ?_
  rintro⟨v2,v3⟩ ⟨i,hi,rfl,rfl⟩
  simp only[z0]
  refine Wp.cond (λhlt=>?_) (λhlt=>?_)
  .have hlt:=zv hlt
   have hil:i<xs.length:=by omega
   refine Wp.ix oaa oaa λx hx hxi=>?_
   simp only[aeX] at hxi
   have hx8:=hb x hx
   have hr:=qU k [(i:Int)]
   have t1:aeQ (dS k [(i:Int)]) 256=dS k [(i:Int)]%256:=ae1 hr.1
   have hb8:0<=dS k [(i:Int)]%256/\dS k [(i:Int)]%256<256:=by omega
   simp only[B8] at hx8
   refine Wp.eq (d9 (by simp) _) ?_
   have hlen:((yD k xs).take i).length=i:=by rw[ad0,encL_len];omega
   rw[t1,WM (hb x hx),bY oaa,ae1 oaa,Le]
   have t4:(x+dS k [(i:Int)]%256)%256%256=e1 k i x:=by rw[e1];omega
   rw[t4]
   refine Wp.ok (uz (by grind) (by grind)) (Wp.some ?_)
   have t3:WR ((i:Int)+1)=((i+1:Nat):Int):=by rw[bY oaa];rfl
   rw[t3]
   have hxd:(yD k xs)[i]?=ς (e1 k i x):=by simp only[yD,aeS,hxi,afb]
   refine⟨⟨i+1,by omega,rfl,by rw[afi,hxd];rfl⟩,?_⟩
   omega
  have hlt:=Dc hlt
  refine Wp.some ?_
  rw[aff (by simp_all)]
 obtain⟨r,h1,h2⟩:=goal.ex
 rw[DE,h1,h2];rfl
theorem Yi{b:List Int}(hb:okB b)(hl:b.length<=50000)(k d c:Int):nV k d c b=ς (dS k ([d,c]++((b.length:Int)::b))):=by
 rw[nV,Kz hb hl]
 simp only[aeW]
 rw[show c8 8 ([d,c]++((b.length:Int)::b)).length=ζ from uz (by simp;omega) (by simp;omega),d8 (by simp;omega)]
 rfl
theorem Yj{m:aV}(hb:okB m.be)(hl:m.be.length<=50000)(k:Int):EX k m=ς (mac k m):=by
 rw[EX,K3 hb hl]
 simp only[aeW]
 rw[show c8 8 ([m.c7,m.f8]++((m.be.length:Int)::m.be)).length=ζ from uz (by simp;omega) (by simp;omega),d9 (by simp;omega)]
 rfl
def sealM(k c:Int)(b:List Int):aV:=⟨1,c,yD (dk k (2*c+1)) b,mac k ⟨1,c,yD (dk k (2*c+1)) b,0⟩⟩
def wE(root g e:Int)(x:ab):am:=⟨g,e,sealM (VH root e) x.df x.be⟩
theorem ZI(h0:0<=x.df)(h1:x.df<=1000000)(hb:okB x.be)(hl:x.be.length<=50000)(root g e:Int):xY root g e x=ς (wE root g e x):=by
 simp only[xY,xW,IR,aeW,bY (n:=2*x.df) oaa,bY (n:=2*x.df+1) oaa,vO,Pv hb hl,Yj (m:=⟨1,x.df,yD _ x.be,0⟩) (LE _ _) (by simpa using hl)]
 rfl
theorem ZH(h0:0<=x.df)(h1:x.df<=1000000)(hb:okB x.be)(hl:x.be.length<=50000)(root g e:Int):tA root g e x=ς (wE root g e x):=by
 simp only[tA,xc,Hx,aeW,bY (n:=2*x.df) oaa,bY (n:=2*x.df+1) oaa,vC,NZ hb hl,Yi (LE _ _) (show(yD _ x.be).length<=50000 by simpa using hl)]
 rfl
def zG(root g e:Int)(x:am):ab×Bool:=
 if x.av=g/\x.a8=e/\RN root x=ζ then(⟨x.bH.f8,BG (dk (VH root e) (2*x.bH.f8+1)) x.bH.be⟩,ζ) else(bE,η)
theorem KP{p:am}(hb:okB p.bH.be)(k g e:Int):tx k g e p=ς (zG k g e p)/\xV k g e p=ς (zG k g e p):=by
 simp only[tx,FI hb,xc,xV,Ge hb,xW,aeW,zG]
 cases hg:eqB p.av g
 .simp_all
 cases he:eqB p.a8 e
 .simp_all
 cases hv:RN k p
 .simp_all
 have he:=CH he
 rw[if_pos ⟨CH hg,he,rfl⟩]
 simp only[RN,f4] at hv
 obtain⟨h1,h2,h3⟩:=hv
 have hlen:=Jl h1
 have hd:=CH h2
 have hm:=CH h3
 have hcnt:1<=p.bH.f8/\p.bH.f8<=100000:=by
  simp only[J6,f4] at h1
  exact cT.1 h1.2.1
 rw[he] at hm
 have ek:eqB p.bH.nJ (mac (VH k e) p.bH)=true:=by rw[hm];simp
 simp only[xk,vC,NY hb (show p.bH.be.length<=50000 by omega),Cj,ui,Bz hb (show p.bH.be.length<=50000 by omega),vO,Pu hb (show p.bH.be.length<=50000 by omega),h1,h2,ek,show leB p.bH.f8 0=η from leB_f.2 oaa,hd,bY (n:=2*p.bH.f8) oaa,bY (n:=2*p.bH.f8+1) oaa,au]
 simp_all
def Ru(root:Int)(m:aD):Int:=dS (Oi root [1,2]) [23,m.eb,m.bC,m.av,m.a8,m.cj]
def Ck(root:Int)(m:aD):aD:={m with nJ:=Ru root m}
def yN(root:Int)(m:aD):Bool:=eqB m.nJ (Ru root m)
theorem ZQ(root:Int)(m:aD):uj root m=ς (Ru root m):=by simp[uj,py,z8,d9,Ru]
theorem ZP(root:Int)(m:aD):tC root m=ς (Ru root m):=by simp[tC,oO,yZ,d8,Ru]
theorem MT(root:Int)(m:aD):ol root m=ς (Ck root m):=by simp[ol,ZQ,Ck]
theorem MS(root:Int)(m:aD):nP root m=ς (Ck root m):=by simp[nP,ZP,Ck]
theorem aai(root:Int)(m:aD):kR root m=ς (yN root m):=by simp[kR,ZQ,yN]
theorem RO(root:Int)(m:aD):i7 root m=ς (yN root m):=by simp[i7,ZP,yN]
@[simp] theorem vSig_sign (root:Int) (m:aD):yN root (Ck root m)=true:=by simp[yN,Ck,Ru,eqB]
def pe(m:aD):Bool:=inR m.eb 1 8&&(inR m.bC 0 5&&(inR m.av 0 999999&&(inR m.a8 0 999999&&inR m.cj 0 1000000000000)))
theorem Tv(m:aD):lN m=ς (pe m):=by
 simp only[lN,gY,aeW,pe]
 grind
theorem Tu(m:aD):lD m=ς (pe m):=by
 simp only[lD,jl,aeW,pe]
 grind
def msk(k r:Int):Int:=dS k [1,r]%1000000
theorem Mc(k r:Int):0<=msk k r/\msk k r<1000000:=by unfold msk;omega
theorem msk_s(k r:Int):mT k r=ς (msk k r):=by simp[mT,d9,A2,msk]
theorem msk_i(k r:Int):mL k r=ς (msk k r):=by simp[mL,d8,msk,ae1 (qU k [1,r]).1]
def unm(k r a:Int):Int:=(a%1000000-msk k r)%1000000
theorem RL(k r a:Int):0<=unm k r a/\unm k r a<=999999:=by unfold unm;omega
theorem unm_s(k r a:Int):kK k r a=ς (unm k r a):=by
 have:=Mc k r
 simp only[kK,A2 _ (show(1:Int)<=1000000 by omega) oaa,msk_s,aeW,unm];rw[bY oaa]
theorem unm_i(k r a:Int):ky k r a=ς (unm k r a):=by
 have:=Mc k r
 simp only[ky,SD _ (show(1:Int)<=1000000 by omega) oaa,msk_i,aeW,unm];rw[bY oaa]
def L9(x:Int):Int:=if x=0 then 1 else x
def vec(k r q:Int):cb:=bif inR q 0 999999 then⟨r,(q+msk k r)%1000000,dS k [2,r,q],dS k [3,r],L9 (dS k [4,r,q])⟩ else db
theorem ab4(k:Int)(xs:List Int):1<=L9 (dS k xs)/\L9 (dS k xs)<=2147483646:=by have:=qU k xs;unfold hM L9 at*;omega
theorem vec_s(k r q:Int):lP k r q=ς (vec k r q):=by
 simp only[lP,gY,aeW,vec]
 cases hq:inR q 0 999999
 .rfl
 rw[cT] at hq
 have h1:=Mc k r
 have h2:=qU k [4,r,q]
 simp only[msk_s,A2 _ (show(1:Int)<=1000000 by omega) oaa,d9 (show [2,r,q].length<=100000 by simp),d9 (show [3,r].length<=100000 by simp),d9 (show [4,r,q].length<=100000 by simp),ML,au]
 rw[bY oaa]
 by_cases h:dS k [4,r,q]=0
 .rw[show ltB 1 (dS k [4,r,q])=η from ltB_f.2 oaa];simp[L9,h]
 by_cases h':dS k [4,r,q]=1
 .rw[h'];simp[ltB,L9]
 rw[show ltB 1 (dS k [4,r,q])=ζ from ltB_t.2 oaa];simp[L9,h]
theorem vec_i(k r q:Int):lE k r q=ς (vec k r q):=by
 simp only[lE,jl,aeW,vec]
 cases hq:inR q 0 999999
 .rfl
 rw[cT] at hq
 have h1:=Mc k r
 simp only[msk_i,d8 (show [2,r,q].length<=1048576 by simp),d8 (show [3,r].length<=1048576 by simp),d8 (show [4,r,q].length<=1048576 by simp),au]
 rw[bY oaa,ae1 oaa]
 by_cases h:dS k [4,r,q]=0
 .rw[h];simp[L9]
 rw[show eqB (dS k [4,r,q]) 0=η from eqB_f.2 h];simp[L9,h]
def Am(k last:Int)(v:cb):Int:=
 if v.nJ≠dS k [2,v.ei,unm k v.ei v.gL] then 1 else if unm k v.ei v.gL<=last then 2 else if last<unm k v.ei v.gL-1000 then 3 else 0
theorem ac2(k last:Int)(v:cb):qC k last v=ς (Am k last v):=by
 have hu:=RL k v.ei v.gL
 simp only[qC,unm_s,d9 (show [2,v.ei,unm k v.ei v.gL].length<=100000 by simp),aeW,Am]
 rw[bY oaa]
 by_cases h1:v.nJ=dS k [2,v.ei,unm k v.ei v.gL]
 .rw[show eqB v.nJ (dS k [2,v.ei,unm k v.ei v.gL])=ζ from eqB_t.2 h1]
  simp only[ne_eq,h1,not_true_eq_false,if_false,au]
  by_cases h2:unm k v.ei v.gL<=last
  .rw[show leB (unm k v.ei v.gL) last=ζ from leB_t.2 h2,if_pos h2];rfl
  rw[show leB (unm k v.ei v.gL) last=η from leB_f.2 oaa,if_neg h2]
  by_cases h3:last<unm k v.ei v.gL-1000
  .rw[show ltB last (unm k v.ei v.gL-1000)=ζ from ltB_t.2 h3,if_pos h3];rfl
  rw[show ltB last (unm k v.ei v.gL-1000)=η from ltB_f.2 oaa,if_neg h3];rfl
 rw[show eqB v.nJ (dS k [2,v.ei,unm k v.ei v.gL])=η from eqB_f.2 h1]
 simp[h1]
theorem ac1{last:Int}(hl: -9000000000000<=last/\last<=9000000000000)(k:Int)(v:cb):qj k last v=ς (Am k last v):=by
 have hu:=RL k v.ei v.gL
 simp only[qj,unm_i,d8 (show [2,v.ei,unm k v.ei v.gL].length<=1048576 by simp),aeW,Am]
 rw[bY oaa]
 by_cases h1:v.nJ=dS k [2,v.ei,unm k v.ei v.gL]
 .rw[show eqB v.nJ (dS k [2,v.ei,unm k v.ei v.gL])=ζ from eqB_t.2 h1]
  simp only[ne_eq,h1,not_true_eq_false,if_false,au]
  by_cases h2:unm k v.ei v.gL<=last
  .rw[show leB (unm k v.ei v.gL) last=ζ from leB_t.2 h2,if_pos h2];rfl
  rw[show leB (unm k v.ei v.gL) last=η from leB_f.2 oaa,if_neg h2]
  by_cases h3:last<unm k v.ei v.gL-1000
  .rw[show ltB (last+1000) (unm k v.ei v.gL)=ζ from ltB_t.2 oaa,if_pos h3];rfl
  rw[show ltB (last+1000) (unm k v.ei v.gL)=η from ltB_f.2 oaa,if_neg h3];rfl
 rw[show eqB v.nJ (dS k [2,v.ei,unm k v.ei v.gL])=η from eqB_f.2 h1]
 simp[h1]
def Qj(id:cG)(q:Int):Int:=dS 29 [id.dT,id.cj,q]
theorem chal_s(id:cG)(q:Int):ph id q=ς (Qj id q):=by simp[ph,d9,Qj]
theorem chal_i(id:cG)(q:Int):oy id q=ς (Qj id q):=by simp[oy,d8,Qj]
theorem PI{α:Type}(p:α->Bool):∀(xs:List α) (i:Nat),i<(xs.takeWhile p).length->∃x,xs[i]?=ς x/\p x=ζ
 |[],i,h=>by simp at h
 |x::xs,i,h=>by
  rw[ae9] at h
  cases hp:p x<;>rw[hp] at h
  .simp at h
  cases i with
  |zero=>simp_all
  |succ i=>exact PI p xs i (by simpa using h)
theorem PH{α:Type}(p:α->Bool):∀(xs:List α) (x:α),xs[(xs.takeWhile p).length]?=ς x->p x=η
 |[],x,h=>by simp at h
 |y::xs,x,h=>by
  rw[ae9] at h
  cases hp:p y<;>rw[hp] at h
  .simp_all
  exact PH p xs x (by simpa using h)
theorem Ji(p:α->Bool)(xs:List α):(xs.takeWhile p).length<=xs.length:=(List.takeWhile_prefix p).length_le
theorem Jj{α:Type}(p:α->Bool):∀xs:List α,xs.take (xs.takeWhile p).length=xs.takeWhile p
 |[]=>rfl
 |x::xs=>by
  rw[ae9]
  cases p x
  .rfl
  simp[Jj p xs]
theorem Jh{α:Type}(p:α->Bool):∀xs:List α,xs.drop (xs.takeWhile p).length=xs.dropWhile p
 |[]=>rfl
 |x::xs=>by
  rw[ae9,afx]
  cases p x
  .rfl
  simp[Jh p xs]
theorem yo{L:Int->Option (bJ Int Int)}(xs:List α)(p:α->Bool)(hl:xs.length<=1048576)(h1:∀(k:Nat) (x:α),xs[k]?=ς x->L k=bif p x then ς (.next (WR ((k:Int)+1))) else ς (.done k))(h0:L xs.length=ς (.done xs.length)):iter L FU 0=ς (((xs.takeWhile p).length:Nat):Int):=by
 have hle:=Ji p xs
 have:Wp (iter L FU 0) (λr=>r=(((xs.takeWhile p).length:Nat):Int)):=by
  refine Wp.iterF (λs=>∃i:Nat,s=(i:Int)/\i<=(xs.takeWhile p).length) (λs=>((xs.length:Int)-s).toNat) ⟨0,rfl,by omega⟩ oaa ?_
  rintro _ ⟨i,rfl,hi⟩
  by_cases e:i<(xs.takeWhile p).length
  .obtain⟨x,hx,hp⟩:=PI p xs i e
   rw[h1 i x hx,hp]
   exact⟨⟨i+1,by rw[bY oaa];rfl,by omega⟩,by simp only[bY (show-9223372036854775808<=(i:Int)+1/\(i:Int)+1<=9223372036854775807 by omega)];omega⟩
  have e:i=(xs.takeWhile p).length:=by omega
  by_cases hn:i<xs.length
  .obtain⟨x,hx⟩:∃x,xs[i]?=ς x:=⟨_,hV hn⟩
   rw[h1 i x hx,PH p xs x (by simp_all)]
   subst e;rfl
  have:i=xs.length:=by omega
  subst this
  rw[h0]
  show(xs.length:Int)=_
  omega
 obtain⟨r,hr,rfl⟩:=this.ex
 exact hr
def before(q:Int)(x:ab):Bool:=ltB x.df q
def sD(x:ab)(xs:List ab):List ab:=xs.takeWhile (before x.df)++[x]++xs.dropWhile (before x.df)
def tl:List ab->Int->List aP->aB
 |[],n,dl=>⟨n,[],dl⟩
 |x::xs,n,dl=>if x.df=n/\dl.length<24 then tl xs (n+1) (dl++[⟨x.be⟩]) else⟨n,x::xs,dl⟩
def Be(r:aB)(x:ab):Bool:=!pI r||(ltB 60 (x.be.length:Int)||(!inR x.df r.bw (r.bw+7)||(r.aA.any (λy=>eqB y.df x.df)||leB 24 (r.aY.length:Int))))
def rh(r:aB)(x:ab):aB:=
 bif Be r x then r else
  let o:=tl (sD x r.aA) r.bw r.aY
  bif leB 24 (o.aY.length:Int) then {o with aA:=[]} else o
theorem Km:∀(xs:List ab) (n:Int) (dl:List aP),dl.length<=24->(tl xs n dl).aY.length<=24
 |[],n,dl,h=>h
 |x::xs,n,dl,h=>by
  rw[tl];split
  .exact Km xs _ _ (by simp;omega)
  exact h
theorem Eb{L:aB->Option (bJ aB aB)}(hL:∀v:aB,v.aA.length<=1000->v.aY.length<=24->0<=v.bw->v.bw<=2000000->L v=match v.aA with
  |[]=>ς (.done v)
  |x::xs=>if x.df=v.bw/\v.aY.length<24 then ς (.next ⟨v.bw+1,xs,v.aY++[⟨x.be⟩]⟩) else ς (.done v)):
 ∀(xs:List ab) (n:Int) (dl:List aP) (fu:Nat),xs.length<=1000->dl.length<=24->0<=n->n+xs.length<=2000000->xs.length<fu->iter L fu ⟨n,xs,dl⟩=ς (tl xs n dl)
 |[],n,dl,fu,h1,h2,h3,h4,h5=>by
  cases fu with
  |zero=>omega
  |succ fu=>rw[iter,hL _ h1 h2 h3 (by simp_all)];rfl
 |x::xs,n,dl,fu,h1,h2,h3,h4,h5=>by
  simp only[acn] at h1 h4 h5
  cases fu with
  |zero=>omega
  |succ fu=>
   rw[iter,hL ⟨n,x::xs,dl⟩ oaa h2 h3 (by grind),tl]
   simp only
   by_cases e:x.df=n/\dl.length<24
   .rw[if_pos e,if_pos e]
    exact Eb hL xs (n+1) _ fu oaa (by simp;omega) oaa oaa oaa
   grind
theorem XH{xs:List ab}(h:xs.length<=1048576)(q:Int):∃r,Ja xs q=ς r/\leB 0 r=xs.any (λy=>eqB y.df q):=by
 refine⟨_,wc (L:=vi xs q) xs (λy=>eqB y.df q) oaa (λk x hx hk=>?_) ?_,?_⟩
 .simp[vi,ci hk,hx];cases eqB x.df q<;>simp[WRs (k:=k)]
 .simp[vi]
 rcases Eo (λy:ab=>eqB y.df q) xs 0 with⟨e,ha⟩|⟨j,e,x,hx,hp,_⟩
 .rw[show((0:Nat):Int)=0 from rfl] at e
  rw[e,show xs.any (λy=>eqB y.df q)=η from by simp_all];simp[leB]
 rw[show((0:Nat):Int)=0 from rfl] at e
 rw[e,show xs.any (λy=>eqB y.df q)=ζ from List.any_eq_true.2 ⟨x,v0 hx,hp⟩,leB_t];omega
theorem YT(h:r.aA.length<=1048576)(q:Int):BS r q=ς (r.aA.any (λy=>eqB y.df q)):=
 Nn (L:=qm r q) r.aA (λy=>eqB y.df q) oaa (λk x hx hk=>by
  simp[qm,ci hk,hx];cases eqB x.df q<;>simp[WRs (k:=k)]) (by simp[qm])
theorem s6(h:pI r=ζ):r.bw=(r.aY.length:Int)+1/\r.aY.length<=24/\r.aA.length<=8:=by
 simp only[pI,f4] at h
 obtain⟨h1,h2,h3,h4,h5⟩:=h
 have h2:=BU h2
 have h4:=BU h4
 have h1:=CH h1
 rw[bY oaa] at h1
 omega
theorem zi(x:ab)(xs:List ab):(sD x xs).length=xs.length+1:=by
 have:(xs.takeWhile (before x.df)).length+(xs.dropWhile (before x.df)).length=xs.length:=by rw[<-ads,afe]
 simp[sD];omega
theorem L2_s:∀v:aB,v.aA.length<=1000->v.aY.length<=24->0<=v.bw->v.bw<=2000000->lv v=match v.aA with
 |[]=>ς (.done v)
 |x::xs=>if x.df=v.bw/\v.aY.length<24 then ς (.next ⟨v.bw+1,xs,v.aY++[⟨x.be⟩]⟩) else ς (.done v):=by
 rintro⟨n,p,dl⟩ h1 h2 h3 h4
 cases p with
 |nil=>simp[lv]
 |cons x xs=>
  simp only[acn] at h1 h2
  have i0:ix (x::xs) 0=ς x:=by simp[ix,leB]
  have hlt:ltB 0 (((x::xs).length:Nat):Int)=true:=ltB_t.2 (by simp_all)
  simp only[lv,i0,hlt,au]
  by_cases e:x.df=n
  .by_cases e2:dl.length<24
   .rw[if_pos ⟨e,e2⟩,eqB_t.2 e,show ltB (dl.length:Int) 24=ζ from ltB_t.2 oaa]
    have a1:c8 24 (dl++[(⟨x.be⟩:aP)]).length=true:=cy oaa (by simp;omega)
    have a2:d6 (x::xs) 1 (((x::xs).length:Nat):Int)=true:=by simp[d6];omega
    simp only[a1,a2,bY (n:=n+1) (by grind),au]
    rfl
   rw[if_neg (λh=>e2 h.2),eqB_t.2 e,show ltB (dl.length:Int) 24=η from ltB_f.2 oaa];rfl
  rw[if_neg (λh=>e h.1),eqB_f.2 e];rfl
theorem L2_i:∀v:aB,v.aA.length<=1000->v.aY.length<=24->0<=v.bw->v.bw<=2000000->uO v=match v.aA with
 |[]=>ς (.done v)
 |x::xs=>if x.df=v.bw/\v.aY.length<24 then ς (.next ⟨v.bw+1,xs,v.aY++[⟨x.be⟩]⟩) else ς (.done v):=L2_s
theorem D7(b:Bool)(x y:α):(bif b then ς x else ς y)=ς (bif b then x else y):=by grind
theorem ST(a b c d e:Bool):(bif !a then ς ζ else bif b then ς ζ else bif !c then ς ζ else bif d then ς ζ else ς e)=ς (!a||(b||(!c||(d||e)))):=by grind
theorem take_s(h:dM r) :pu r x=ς (rh r x):=by
 obtain⟨q,hq,hq2⟩:=XH h.1.1 x.df
 have hw:pI r=ζ->inR x.df r.bw (WR (WR (r.bw+8)-1))=inR x.df r.bw (r.bw+7):=λhv=>by
  have:=s6 hv
  rw[bY (n:=r.bw+8) oaa,bY oaa,show r.bw+8-1=r.bw+7 by omega]
 have hl:(bif !pI r then ς ζ else(bif ltB 60 (x.be.length:Int) then ς ζ else(bif !(inR x.df r.bw (WR (WR (r.bw+8)-1))) then ς ζ else(bif leB 0 q then ς ζ else ς (leB 24 (r.aY.length:Int))))))=ς (Be r x):=by
  rw[hq2,ST]
  cases hv:pI r
  .simp[Be,hv]
  rw[hw hv];simp[Be,hv]
 simp only[pu,Za h,Zc h.2.1 h.1.1,gY,hq,aeW,hl]
 rw[rh]
 cases hlt:Be r x
 .simp only[Be,adc,afa] at hlt
  obtain⟨l1,l2,l3,l4,l5⟩:=hlt
  have hv:=s6 l1
  have l2:=Dc l2
  have l5:=FQ l5
  have hw2:=Ji (before x.df) r.aA
  have hrun:=yo (L:=lu x r) r.aA (before x.df) oaa (λk y hy=>by
   have hk:=(f5.1 hy).1
   simp[lu,ci hk,hy,before]) (by simp[lu])
  have hxs:([]:List ab)++r.aA.take ((((r.aA.takeWhile (before x.df)).length:Nat):Int)).toNat++[(⟨x.df,[]++x.be⟩:ab)]++r.aA.drop ((((r.aA.takeWhile (before x.df)).length:Nat):Int)).toNat=sD x r.aA:=by
   simp[Jj,Jh,sD]
  have a1:d6 r.aA 0 (((r.aA.takeWhile (before x.df)).length:Nat):Int)=true:=by simp[d6];omega
  have a2:d6 r.aA (((r.aA.takeWhile (before x.df)).length:Nat):Int) (r.aA.length:Int)=true:=by simp[d6];omega
  have a3:c8 1 (([]:List Int)++x.be).length=true:=cy oaa (by simp;omega)
  have a4:c8 32 (([]:List ab)++r.aA.take ((((r.aA.takeWhile (before x.df)).length:Nat):Int)).toNat).length=true:=cy oaa (by simp;omega)
  have a5:c8 32 (([]:List ab)++r.aA.take ((((r.aA.takeWhile (before x.df)).length:Nat):Int)).toNat++[(⟨x.df,[]++x.be⟩:ab)]).length=true:=cy oaa (by simp;omega)
  simp only[hrun,a1,a2,a3,a4,a5,au]
  rw[hxs,cy oaa (show(sD x r.aA).length<=1048577 by grind),Eb L2_s (sD x r.aA) r.bw r.aY FU (by grind) oaa oaa (by grind) (by have:=gP;grind)]
  have hd:=Km (sD x r.aA) r.bw r.aY oaa
  simp only[D7,au]
  rw[show eqB (((tl (sD x r.aA) r.bw r.aY).aY.length:Nat):Int) 24=leB 24 (((tl (sD x r.aA) r.bw r.aY).aY.length:Nat):Int) from by rw[aeY];simp[eqB,leB];omega]
  cases leB 24 (((tl (sD x r.aA) r.bw r.aY).aY.length:Nat):Int)<;>rfl
 rfl
theorem SN(xs ys:List α)(z x:α):((cpD ((xs++ys)++[z]) (xs.length+1) (((xs++ys)++[z]).drop xs.length)).set xs.length x)=xs++[x]++ys:=by
 have e1:((xs++ys)++[z]).drop xs.length=ys++[z]:=by rw[afj,afo]
 have e2:((xs++ys)++[z]).drop (xs.length+1)=(ys++[z]).drop 1:=by rw[<-ad4,e1]
 have e3:((xs++ys)++[z]).take (xs.length+1)=xs++(ys++[z]).take 1:=by rw[afj,List.take_append,aff oaa];simp
 rw[cpD,e1,e2,e3,cpL]
 cases ys with
 |nil=>simp
 |cons y ys=>simp_all
theorem take_i(h:dM r) :oI r x=ς (rh r x):=by
 have hw:pI r=ζ->inR x.df r.bw (WR (WR (r.bw+8)-1))=inR x.df r.bw (r.bw+7):=λhv=>by
  have:=s6 hv
  rw[bY (n:=r.bw+8) oaa,bY oaa,show r.bw+8-1=r.bw+7 by omega]
 have hl:(bif !pI r then ς ζ else(bif ltB 60 (x.be.length:Int) then ς ζ else(bif !(inR x.df r.bw (WR (WR (r.bw+8)-1))) then ς ζ else(bif r.aA.any (λy=>eqB y.df x.df) then ς ζ else ς (leB 24 (r.aY.length:Int))))))=ς (Be r x):=by
  rw[ST]
  cases hv:pI r
  .simp[Be,hv]
  rw[hw hv];simp[Be,hv]
 simp only[oI,TE h,Zb h.2.1 h.1.1,jl,YT h.1.1,aeW,hl]
 rw[rh]
 cases hlt:Be r x
 .simp only[Be,adc,afa] at hlt
  obtain⟨l1,l2,l3,l4,l5⟩:=hlt
  have hv:=s6 l1
  have l2:=Dc l2
  have l5:=FQ l5
  have hw2:=Ji (before x.df) r.aA
  have hrun:=yo (L:=kY x r) r.aA (before x.df) oaa (λk y hy=>by
   have hk:=(f5.1 hy).1
   simp[kY,ci hk,hy,before]) (by simp[kY])
  generalize hm:(r.aA.takeWhile (before x.df)).length=m at*
  have hxs:(cpD (r.aA++[bE]) (m+1) ((r.aA++[bE]).drop m)).set m (⟨x.df,x.be⟩:ab)=sD x r.aA:=by
   have:=SN (r.aA.takeWhile (before x.df)) (r.aA.dropWhile (before x.df)) bE x
   rw[afe,hm] at this
   exact this
  have w1:WR ((m:Int)+1)=((m+1:Nat):Int):=lW oaa
  have a1:d6 (r.aA++[bE]) ((m+1:Nat):Int) (((r.aA++[bE]).length:Nat):Int)=true:=by simp[d6];omega
  have a2:d6 (r.aA++[bE]) (m:Int) (((r.aA++[bE]).length:Nat):Int)=true:=by simp[d6];omega
  have a3:c8 32 (r.aA++[bE]).length=true:=cy oaa (by simp;omega)
  obtain⟨y,_,hy⟩:=ix_in (xs:=cpD (r.aA++[bE]) (m+1) ((r.aA++[bE]).drop m)) (i:=(m:Int)) oaa (by simp;omega)
  simp only[hrun,w1,aeX,a1,a2,a3,Au (show x.be.length<=1048576 by omega),hy,au]
  rw[hxs,Eb L2_i (sD x r.aA) r.bw r.aY FU (by rw[zi];omega) oaa oaa (by rw[zi];omega) (by have:=gP;rw[zi];omega)]
  grind
 rfl
def CF(d:aF):aD:=Ck d.bp ⟨5,d.bC,d.av,d.a8,0,db,0⟩
def Sm(d:aF):aD:={gq with eb:=1,bC:=d.bC}
def uD(d:aF):aZ:=
 bif ltB 0 d.eG then⟨{d with eG:=d.eG-1},[]⟩ else bif eqB d.bF 1 then⟨{d with eG:=3},[Sm d]⟩ else bif eqB d.bF 2&&!d.bR then⟨{d with eG:=3},[CF d]⟩ else⟨d,[]⟩
def BF(d:aF):aZ:=⟨{d with bR:=η,eG:=3},[CF d]⟩
def NG(d:aF)(m:aD):aZ:=
 bif eqB (Am d.ea.f9 d.ea.d7 m.cW) 0 then
  ⟨{d with ea:={d.ea with d7:=unm d.ea.f9 m.cW.ei m.cW.gL},av:=m.av,bp:=(vec d.ea.f9 m.cW.ei (unm d.ea.f9 m.cW.ei m.cW.gL)).f9},
   [⟨3,d.bC,m.av,0,dS d.ea.f9 [3,m.cW.ei],db,0⟩]⟩
 else⟨d,[]⟩
def Ea(d:aF)(m:aD):aZ:=
 bif !pe m||(!eqB m.bC d.bC||eqB d.bF 0) then⟨d,[]⟩ else
 bif eqB m.eb 2&&eqB d.bF 1 then NG d m else
 bif eqB m.eb 4&&(eqB d.bF 1&&(vR d.bp&&(eqB m.av d.av&&yN d.bp m))) then⟨{d with bF:=2,a8:=m.a8,bR:=ζ},[]⟩ else
 bif eqB m.eb 6&&(eqB d.bF 2&&(eqB m.av d.av&&(eqB m.a8 d.a8&&yN d.bp m))) then⟨{d with bR:=ζ},[]⟩ else
 bif eqB m.eb 7&&(eqB d.bF 3&&ltB d.a8 999999) then BF {d with bF:=2,a8:=d.a8+1} else
 bif eqB m.eb 7&&eqB d.bF 2 then BF d else⟨d,[]⟩
def dAck(d:aF)(r:aB):aD:=Ck d.bp ⟨8,d.bC,d.av,d.a8,r.bw,db,0⟩
def D9(d:aF)(x:am):aZ:=
 let o:=zG d.bp d.av d.a8 x
 bif eqB d.bF 2&&o.2 then⟨{d with ct:=rh d.ct o.1},[dAck d (rh d.ct o.1)]⟩ else⟨d,[]⟩
theorem YG{d:aF}(h:dD d):Ah d=ς ⟨d,[]⟩:=by simp[Ah,Kl h]
theorem QT(d:aF):wG d=ς (CF d):=by simp[wG,MT,CF]
theorem YS(d:aF):qT d=ς (CF d):=by simp[qT,MS,CF]
theorem res_i{d:aF}(h:dD d){l:List aD}(hl:l.length<=1048576):cY d l=ς ⟨d,l⟩:=by simp[cY,Xi h,ZR hl]
theorem xR{d:aF}(h:dD d):cY d []=ς ⟨d,[]⟩:=res_i h (by simp)
theorem MB{d:aF}(h:dD d)(m:aD):cY d [m]=ς ⟨d,[m]⟩:=res_i h (by simp)
theorem tick_s{d:aF}(h:dD d)(hw:d.eG<=3):ve d=ς (uD d):=by
 simp only[ve,Kl h,aeW,Cm,rf,QT,uD]
 cases hb:ltB 0 d.eG
 .cases eqB d.bF 1<;>cases eqB d.bF 2<;>cases hp:d.bR<;>rfl
 have:=zv hb
 rw[bY oaa];rfl
theorem tick_i{d:aF}(h:dD d)(hw:d.eG<=3):uS d=ς (uD d):=by
 have h2:∀w,dD {d with eG:=w}:=λ_=>h
 simp only[uS,xR h,xR (h2 _),MB (h2 _),vG,YS,aeW,uD]
 cases hb:ltB 0 d.eG
 .cases eqB d.bF 1<;>cases eqB d.bF 2<;>cases hp:d.bR<;>rfl
 have:=zv hb
 rw[bY oaa];rfl
theorem next_s{d:aF}(he:0<=d.a8/\d.a8<=999999):DJ d=ς (BF {d with a8:=d.a8+1}):=by
 simp only[DJ,QT,aeW,rf]
 rw[bY oaa];rfl
theorem ann_i{d:aF}(h:dD d):i8 d=ς (BF d):=by
 simp only[i8,YS,aeW,MB (d:={d with bR:=η,eG:=3}) h];rfl
theorem tok_s(k r last:Int):∃t,sO k r last=ς t:=by
 simp only[sO,gY,aeW,d9 (show [5,r,last].length<=100000 by simp),A2 _ (show(1:Int)<=1000 by omega) oaa]
 cases inR last 0 999999<;>exact⟨_,rfl⟩
theorem tok_i(k r last:Int):∃t,su k r last=ς t:=by
 simp only[su,jl,aeW,d8 (show [5,r,last].length<=1048576 by simp)]
 cases inR last 0 999999<;>exact⟨_,rfl⟩
theorem ask_s{d:aF}(h:dD d)(hc:yB d.ea=ζ)(m:aD):A4 d m=ς (NG d m):=by
 obtain⟨t,ht⟩:=tok_s d.ea.f9 m.cW.ei d.ea.d7
 simp only[A4,mH,aag,hc,ac2,unm_s,vec_s,d9 (show [3,m.cW.ei].length<=100000 by simp),ht,Kl h,NG,au]
 cases h0:eqB (Am d.ea.f9 d.ea.d7 m.cW) 0
 .grind
 simp[iu]
theorem ask_i{d:aF}(h:dD d)(hc:yB d.ea=ζ)(m:aD):ma d m=ς (NG d m):=by
 obtain⟨t,ht⟩:=tok_i d.ea.f9 m.cW.ei d.ea.d7
 have hl: -9000000000000<=d.ea.d7/\d.ea.d7<=9000000000000:=by
  simp only[yB,f4,cT] at hc;omega
 simp only[ma,mB,aaf,hc,ac1 hl,unm_i,vec_i,d8 (show [3,m.cW.ei].length<=1048576 by simp),ht,NG,au]
 cases h0:eqB (Am d.ea.f9 d.ea.d7 m.cW) 0
 .cases h2:eqB (Am d.ea.f9 d.ea.d7 m.cW) 2<;>cases h3:eqB (Am d.ea.f9 d.ea.d7 m.cW) 3<;>simp[h0,xR h]
 simp only[h0,au]
 rw[MB (d:={d with ea:={d.ea with d7:=unm d.ea.f9 m.cW.ei m.cW.gL},av:=m.av,bp:=(vec d.ea.f9 m.cW.ei (unm d.ea.f9 m.cW.ei m.cW.gL)).f9}) h]
 rfl
theorem sig_s{d:aF}(h:dD d)(hc:yB d.ea=ζ)(he:0<=d.a8/\d.a8<=999999)(m:aD):pv d m=ς (Ea d m):=by
 simp only[pv,Tv,YG h,Kl h,ask_s h hc,Og,aai,next_s (d:={d with bF:=2}) he,QT,rf,aeW,Ea]
 cases pe m<;>cases eqB m.bC d.bC<;>cases eqB d.bF 0<;>try rfl
 simp only[afq,au]
 cases eqB m.eb 2<;>cases eqB d.bF 1<;>try rfl
 all_goals cases eqB m.eb 4<;>cases vR d.bp<;>cases eqB m.av d.av<;>cases yN d.bp m<;>cases eqB m.eb 6<;>cases eqB d.bF 2<;>cases eqB m.a8 d.a8<;>cases eqB m.eb 7<;>cases eqB d.bF 3<;>cases ltB d.a8 999999<;>rfl
theorem Ef{a b c:Int}(h:eqB a b=ζ)(hn:b≠c):eqB a c=false:=by simp_all
theorem sig_i{d:aF}(h:dD d)(hc:yB d.ea=ζ)(he:0<=d.a8/\d.a8<=999999)(m:aD):oJ d m=ς (Ea d m):=by
 have a1:i8 d=ς (BF d):=ann_i h
 have a2:i8 {d with bF:=2,a8:=WR (d.a8+1)}=ς (BF {d with bF:=2,a8:=d.a8+1}):=by rw[bY oaa];exact ann_i (d:={d with bF:=2,a8:=d.a8+1}) h
 have a3:cY {d with bF:=2,a8:=m.a8,bR:=ζ} []=ς ⟨{d with bF:=2,a8:=m.a8,bR:=ζ},[]⟩:=xR (d:={d with bF:=2,a8:=m.a8,bR:=ζ}) h
 have a4:∀b,cY {d with bR:=b} []=ς ⟨{d with bR:=b},[]⟩:=λb=>xR (d:={d with bR:=b}) h
 simp only[oJ,Tu,ask_i h hc,Oe,RO,a1,a2,a4,xR h,aeW,Ea]
 cases pe m<;>cases eqB m.bC d.bC<;>cases eqB d.bF 0<;>try rfl
 simp only[afq,au]
 cases h2:eqB m.eb 2
 .cases h4:eqB m.eb 4
  .cases h6:eqB m.eb 6
   .cases h7:eqB m.eb 7
    .rfl
    cases eqB d.bF 3<;>cases ltB d.a8 999999<;>cases eqB d.bF 2<;>rfl
   rw[Ef h6 (show(6:Int)≠7 by omega)]
   cases eqB d.bF 2<;>cases eqB m.av d.av<;>cases eqB m.a8 d.a8<;>cases yN d.bp m<;>rfl
  rw[Ef h4 (show(4:Int)≠6 by omega),Ef h4 (show(4:Int)≠7 by omega)]
  cases eqB d.bF 1<;>cases vR d.bp<;>cases eqB m.av d.av<;>cases yN d.bp m<;>first|(simp only[a3,xR h,ae3,afp,afm,afF,au];done)|(simp[a3,xR h];done)
 rw[Ef h2 (show(2:Int)≠4 by omega),Ef h2 (show(2:Int)≠6 by omega),Ef h2 (show(2:Int)≠7 by omega)]
 cases eqB d.bF 1<;>rfl
def Tt(x:am):Prop:=okB x.bH.be
theorem rad_s{d:aF}(h:dD d){x:am}(hx:Tt x):qA d x=ς (D9 d x):=by
 simp only[qA,(KP hx _ _ _).2,YG h,Kl h,take_s h,MT,aeW,D9]
 cases eqB d.bF 2<;>cases(zG d.bp d.av d.a8 x).2<;>rfl
theorem PG(h:dM r)(x:ab):dM (rh r x):=by
 rw[rh]
 cases hlt:Be r x
 .simp only[Be,adc,afa] at hlt
  obtain⟨l1,l2,l3,l4,l5⟩:=hlt
  have hv:=s6 l1
  have l2:=Dc l2
  have hi:okL dg (sD x r.aA):=by
   refine⟨by rw[zi];omega,λy hy=>?_⟩
   simp only[sD,aau,ad9] at hy
   rcases hy with(hy|hy)|hy
   .exact h.1.2 y (afu _ hy)
   .subst hy;exact⟨by omega,λ_ _=>trivial⟩
   exact h.1.2 y (afn _ hy)
  have hd:∀(xs:List ab) (n:Int) (dl:List aP),okL dg xs->(∀p∈dl,fQ p)->dl.length<=24->dM (tl xs n dl):=by
   intro xs
   induction xs with
   |nil=>exact λn dl h1 h2 h3=>⟨h1,by show dl.length<=1048576;omega,h2⟩
   |cons y ys ih=>
    intro n dl h1 h2 h3
    rw[tl];split
    .exact ih _ _ ⟨by have:=h1.1;grind,λz hz=>h1.2 z (by simp[hz])⟩ (λp hp=>by
      rcases aau.1 hp with hp|hp
      .exact h2 p hp
      simp at hp;subst hp;exact h1.2 y (by simp)) (by simp;omega)
    exact⟨h1,by grind,h2⟩
  have:=hd _ r.bw r.aY hi h.2.2 oaa
  simp only[cond_false]
  cases leB 24 (((tl (sD x r.aA) r.bw r.aY).aY.length:Nat):Int)
  .exact this
  exact⟨⟨by simp,by simp⟩,this.2⟩
 exact h
theorem rad_i{d:aF}(h:dD d){x:am}(hx:Tt x):qh d x=ς (D9 d x):=by
 simp only[qh,(KP hx _ _ _).1,xR h,take_i h,MS,aeW,D9]
 cases eqB d.bF 2
 .rfl
 cases(zG d.bp d.av d.a8 x).2
 .rfl
 simp only[ae3,au]
 rw[MB (d:={d with ct:=rh d.ct (zG d.bp d.av d.a8 x).1}) (PG h _)]
 rfl
theorem SI{α:Type}(p:α->Bool)(x:α)(d:List α)(hx:p x=ζ):∀(t:List α) (i:Nat),(∀y∈t,p y=η)->oR p (i:Int) (t++x::d)=((i+t.length:Nat):Int)
 |[],i,_=>by simp[oR,hx]
 |y::t,i,h=>by
  rw[ade,oR,h y (by simp),cond_false]
  have:=SI p x d hx t (i+1) (λz hz=>h z (by simp[hz]))
  grind
theorem SJ{α:Type}(p:α->Bool):∀(t:List α) (i:Int),(∀y∈t,p y=η)->oR p i t= -1
 |[],i,_=>rfl
 |y::t,i,h=>by rw[oR,h y (by simp),cond_false];exact SJ p t _ λz hz=>h z (by simp[hz])
def Ln:List ah->Int->Int->List ah
 |[],i,n=>[⟨i,n⟩]
 |x::xs,i,n=>if x.ax<i then x::Ln xs i n else if x.ax=i then⟨i,x.dq+n⟩::xs else⟨i,n⟩::x::xs
def Uw:List ah->Int->Int->List ah
 |[],i,n=>[]
 |x::xs,i,n=>if x.ax=i then(if n<x.dq then⟨i,x.dq-n⟩::xs else xs) else x::Uw xs i n
def yl(h:List ah):Int:=(h.map ah.dq).sum
structure qJ(a:aj):Prop where
 t:0<=a.gu/\a.gu<=100000
 v:0<=a.bB/\a.bB<=a.gu
 s:0<=a.eW/\a.eW<=a.gu
 l:a.ak.length<=8
 r:∀x∈a.ak,0<=x.ax/\1<=x.dq/\x.dq<=100000
 o:a.ak.Pairwise λx y=>x.ax<y.ax
 e:a.bB+a.eW+yl a.ak=a.gu
theorem KS{α:Type}{key:α->Int}:∀{xs:List α},(∀(k:Nat) (x y:α),xs[k]?=ς x->xs[k+1]?=ς y->key x<key y)->xs.Pairwise λx y=>key x<key y
 |[],_=>.nil
 |[x],_=>by simp
 |x::y::xs,h=>by
  have ih:=KS (xs:=y::xs) (key:=key) λk a b h1 h2=>h (k+1) a b (by simp_all) (by simp_all)
  have hxy:=h 0 x y rfl rfl
  refine List.Pairwise.cons (λz hz=>?_) ih
  rcases aa2.1 hz with e|hz
  .simp_all
  exact Int.lt_trans hxy (afs ih hz)
theorem Ka{key:α->Int}{xs:List α}(h:∀(k:Nat) (x:α),xs[k]?=ς x->jP key xs k x=ζ):xs.Pairwise λx y=>key x<key y:=by
 refine KS λk x y h1 h2=>?_
 have:=h (k+1) y h2
 simp only[jP,h1,ac8] at this
 simp_all
theorem Tx{key:α->Int}{xs:List α}(h:xs.Pairwise λx y=>key x<key y){x:α}(hx:xs[k]?=ς x):jP key xs k x=true:=by
 cases k with
 |zero=>rfl
 |succ k=>
  have hl:=(f5.1 hx).1
  simp only[jP,hV (show k<xs.length by omega),ac8]
  rw[leB_f]
  have:=List.pairwise_iff_getElem.1 h k (k+1) oaa hl oaa
  simp_all
theorem foldS:∀(h:List ah) (s:Int),(∀x∈h,0<=x.dq/\x.dq<=100000)->0<=s->s+100000*h.length<=9000000000000->h.foldl (λs x=>WR (s+x.dq)) s=s+yl h
 |[],s,_,_,_=>by simp[yl]
 |x::h,s,hx,h0,h1=>by
  have hh:=hx x (by simp)
  simp only[acn] at h1
  rw[afg,bY oaa,foldS h _ (λy hy=>hx y (by simp[hy])) oaa oaa]
  simp[yl];omega
theorem T9(l:a.ak.length<=8)(r:∀x∈a.ak,0<=x.ax/\1<=x.dq/\x.dq<=100000):Z3 a=yl a.ak:=by
 rw[Z3,foldS _ _ (λx hx=>by grind) oaa oaa];omega
theorem vv:∀{h:List ah},(∀x∈h,0<=x.ax/\1<=x.dq/\x.dq<=100000)->0<=yl h/\yl h<=100000*h.length/\∀x∈h,x.dq<=yl h
 |[],_=>by simp[yl]
 |x::h,r=>by
  have ih:=vv (h:=h) λy hy=>r y (by simp[hy])
  have hx:=r x (by simp)
  have e:yl (x::h)=x.dq+yl h:=by simp[yl]
  grind
theorem Cv:pG a=ζ↔qJ a:=by
 constructor
 .intro h
  simp only[pG,f4,cT,gN] at h
  obtain⟨h1,h2,h3,h4,h5,h6⟩:=h
  have h4:=BU h4
  have r:∀x∈a.ak,0<=x.ax/\1<=x.dq/\x.dq<=100000:=λx hx=>by
   obtain⟨k,hk⟩:=ac7 hx
   have:=h5 k x hk
   simp only[J2,f4,ac8,cT] at this
   simp_all
  have hs:=vv r
  refine⟨h1,h2,h3,by omega,r,Ka λk x hk=>?_,?_⟩
  .have:=h5 k x hk
   simp only[J2,f4] at this
   simp_all
  have h6:=CH h6
  rw[T9 oaa r,bY (n:=a.bB+a.eW) oaa,bY oaa] at h6
  exact h6
 rintro⟨h1,h2,h3,h4,r,h5,h6⟩
 have hs:=vv r
 simp only[pG,f4,cT,gN]
 refine⟨h1,h2,h3,leB_t.2 oaa,λk x hk=>?_,eqB_t.2 ?_⟩
 .have hx:=r x (v0 hk)
  simp only[J2,f4,ac8,cT]
  exact⟨ltB_f.2 oaa,by omega,Tx h5 hk⟩
 rw[T9 oaa r,bY (n:=a.bB+a.eW) oaa,bY oaa]
 exact h6
theorem qJ.ok(h:qJ a):d5 a:=⟨by have:=h.l;omega,λ_ _=>trivial⟩
theorem NH{h:List ah}(o:h.Pairwise λx y=>x.ax<y.ax)(i:Int):
 (∃t m d,h=t++⟨i,m⟩::d/\(∀x∈t,x.ax<i)/\∀x∈d,i<x.ax)\/(∃t d,h=t++d/\(∀x∈t,x.ax<i)/\∀x∈d,i<x.ax):=by
 induction h with
 |nil=>exact .inr ⟨[],[],rfl,by simp,by simp⟩
 |cons x h ih=>
  have hx:=λy hy=>afs o (a':=y) hy
  by_cases h1:x.ax<i
  .grind
  by_cases h2:x.ax=i
  .exact .inl ⟨[],x.dq,h,by rw[<-h2];rfl,by simp,λy hy=>by simp_all⟩
  refine .inr ⟨[],x::h,rfl,by simp,λy hy=>?_⟩
  grind
theorem Lp{d:List ah}{m n:Int}(h:∀x∈t,x.ax<i):Ln (t++⟨i,m⟩::d) i n=t++⟨i,m+n⟩::d:=by
 induction t with
 |nil=>simp[Ln]
 |cons x t ih=>rw[ade,Ln,if_pos (h x (by simp)),ih λy hy=>h y (by simp[hy])];rfl
theorem Lq{d:List ah}{n:Int}(h:∀x∈t,x.ax<i)(h2:∀x∈d,i<x.ax):Ln (t++d) i n=t++⟨i,n⟩::d:=by
 induction t with
 |nil=>cases d with
  |nil=>rfl
  |cons y d=>have:=h2 y (by simp);rw[adT,Ln,if_neg oaa,if_neg oaa];rfl
 |cons x t ih=>rw[ade,Ln,if_pos (h x (by simp)),ih λy hy=>h y (by simp[hy])];rfl
theorem Lx{d:List ah}{m n:Int}(h:∀x∈t,x.ax<i):Uw (t++⟨i,m⟩::d) i n=t++(if n<m then⟨i,m-n⟩::d else d):=by
 induction t with
 |nil=>simp[Uw]
 |cons x t ih=>rw[ade,Uw,if_neg (by grind),ih λy hy=>h y (by simp[hy])];rfl
theorem og{d:List ah}{m:Int}(e:a.ak=t++⟨i,m⟩::d)(h:∀x∈t,x.ax<i):jk a i=m:=by
 rw[jk,e,List.find?_append,show t.find? (λx=>eqB x.ax i)=ξ from by rw[List.find?_eq_none];intro x hx;have:=h x hx;simp[eqB];omega]
 simp[eqB]
theorem s4(h:∀x∈a.ak,x.ax≠i):jk a i=0:=by
 rw[jk,show a.ak.find? (λx=>eqB x.ax i)=ξ from by simp_all]
theorem aab{d:List ah}(h:∀x∈t,x.ax<i)(h2:∀x∈d,i<=x.ax):((t++d).takeWhile λx=>ltB x.ax i)=t:=by
 rw[List.takeWhile_append_of_pos (λx hx=>ltB_t.2 (h x hx))]
 cases d with
 |nil=>simp
 |cons y d=>simp_all
theorem Gn{L:Int->Option (bJ Int Int)}(ok:qJ a)(hL:∀v1,L v1=bif ltB v1 (a.ak.length:Int) then(aeP (ix a.ak v1) λx2=>bif eqB x2.ax i then(dn (ς v1)) else(ς (.next (WR (v1+1))))) else(dn (ς (-1)))):
 iter L FU 0=ς (oR (λx=>eqB x.ax i) 0 a.ak):=by
 have:=ok.l
 exact wc (L:=L) a.ak (λx=>eqB x.ax i) oaa (λk x hx hk=>by
  simp only[hL,ci hk,bz,hx,WRs (k:=k),au]
  rfl) (by simp[hL,dn])
theorem Rx(ok:qJ a){n:Int}(h0:0<=n/\n<=100000):GM a.ak i n=ς (Ln a.ak i n):=by
 have hl:=ok.l
 have hrun:=yo (L:=yb a.ak i) a.ak (λx=>ltB x.ax i) oaa (λk x hx=>by
  have hk:=(f5.1 hx).1
  simp[yb,ci hk,hx]) (by simp[yb])
 rw[GM,hrun]
 rcases NH ok.o i with⟨t,m,d,e,h1,h2⟩|⟨t,d,e,h1,h2⟩
 .have hm:m<=100000/\1<=m:=by have:=ok.r ⟨i,m⟩ (by rw[e];simp);simp only at this;omega
  have htl:t.length+1<=8:=by have:=congrArg ae8 e;simp at this;omega
  rw[e,aab h1 (λx hx=>by grind),Lp h1]
  have hx:(t++(⟨i,m⟩:ah)::d)[t.length]?=ς ⟨i,m⟩:=by simp
  have a1:c8 16 (t++(⟨i,m⟩:ah)::d).length=true:=cy oaa (by grind)
  simp only[ci (show t.length<(t++(⟨i,m⟩:ah)::d).length by simp),bz,hx,adT,a1,bT,aeX,bY (n:=m+n) oaa,au]
  simp
 have htl:t.length<=8/\d.length<=8:=by have:=congrArg ae8 e;simp at this;omega
 rw[e,aab h1 (λx hx=>by grind),Lq h1 h2]
 have hc:(bif ltB (t.length:Int) (((t++d).length:Nat):Int) then(aeP (ix (t++d) (t.length:Int)) λx8=>ς (eqB x8.ax i)) else ς η)=ς false:=by
  cases d with
  |nil=>simp
  |cons y d=>
   have:=h2 y (by simp)
   rw[ci (show t.length<(t++y::d).length by simp),bz,show(t++y::d)[t.length]?=ς y by simp,aeW,eqB_f.2 (show y.ax≠i by omega)];rfl
 have a1:d6 (t++d) 0 (t.length:Int)=true:=by simp[d6];omega
 have a2:d6 (t++d) (t.length:Int) (((t++d).length:Nat):Int)=true:=by simp[d6];omega
 have a3:c8 16 t.length=true:=cy oaa oaa
 have a4:c8 16 (t++[(⟨i,n⟩:ah)]).length=true:=cy oaa (by simp;omega)
 have a5:c8 16 (t++[(⟨i,n⟩:ah)]++d).length=true:=cy oaa (by simp;omega)
 simp_all
theorem LY{d:List ah}{m:Int}(h1:∀x∈t,x.ax<i):oR (λx=>eqB x.ax i) 0 (t++(⟨i,m⟩:ah)::d)=(t.length:Int):=by
 have:=SI (λx:ah=>eqB x.ax i) ⟨i,m⟩ d (by simp) t 0 (λy hy=>eqB_f.2 (by grind))
 simp_all
theorem Qw{d:List ah}(h1:∀x∈t,x.ax<i)(h2:∀x∈d,i<x.ax):oR (λx=>eqB x.ax i) 0 (t++d)= -1:=
 SJ _ _ _ λy hy=>eqB_f.2 (by grind)
theorem Ry(ok:qJ a){d:List ah}{m n:Int}(e:a.ak=t++⟨i,m⟩::d)(h1:∀x∈t,x.ax<i)(hn:0<=n/\n<=m):GN a.ak (t.length:Int) n=ς (Uw a.ak i n):=by
 have hl:=ok.l
 have hm:m<=100000/\1<=m:=by have:=ok.r ⟨i,m⟩ (by rw[e];simp);simp only at this;omega
 have htl:t.length+1+d.length<=8:=by have:=congrArg ae8 e;simp at this;omega
 rw[e,Lx h1]
 have hx:(t++(⟨i,m⟩:ah)::d)[t.length]?=ς ⟨i,m⟩:=by simp
 have a1:c8 16 (t++(⟨i,m⟩:ah)::d).length=true:=cy oaa (by grind)
 simp only[GN,adT,a1,bz,hx,aeX,au]
 by_cases hb:n<m
 .rw[ltB_t.2 hb,if_pos hb]
  simp only[cond_true,bY (n:=m-n) oaa]
  simp
 rw[ltB_f.2 oaa,if_neg hb]
 have a2:d6 (t++(⟨i,m⟩:ah)::d) 0 (t.length:Int)=true:=by simp[d6];omega
 have a3:d6 (t++(⟨i,m⟩:ah)::d) ((t.length+1:Nat):Int) (((t++(⟨i,m⟩:ah)::d).length:Nat):Int)=true:=by simp[d6];omega
 have e2:(t++(⟨i,m⟩:ah)::d).drop (t.length+1)=d:=by rw[<-ad4,afo];rfl
 have a4:c8 16 (t++d).length=true:=cy oaa (by simp;omega)
 simp only[a2,WRs (k:=t.length),a3,aeX,e2,afr,a4,au]
theorem X0{d:List ah}{x:ah}(e:a.ak=t++x::d)(hl:t.length+1+d.length<=8):mb a (t.length:Int)=ς {a with ak:=t++d}:=by
 have a2:d6 (t++x::d) 0 (t.length:Int)=true:=by simp[d6];omega
 have a3:d6 (t++x::d) ((t.length+1:Nat):Int) (((t++x::d).length:Nat):Int)=true:=by simp[d6];omega
 have e2:(t++x::d).drop (t.length+1)=d:=by rw[<-ad4,afo];rfl
 have a4:c8 16 (t++d).length=true:=cy oaa (by simp;omega)
 have a5:c8 16 t.length=true:=cy oaa oaa
 simp only[mb,e,a2,WRs (k:=t.length),a3,cond_true,aeX,e2,afr,adT,a4,a5]
def full(a:aj)(i:Int):Bool:=leB 8 (a.ak.length:Int)&&!a.ak.any λx=>eqB x.ax i
def mp(x y:Int):Int:=if y<x then y else x
def iU(a:aj)(i n:Int):aj×Int:=
 bif ltB i 0||(!inR n 1 100000||(eqB a.bB 0||full a i)) then(a,0) else({a with bB:=a.bB-mp n a.bB,ak:=Ln a.ak i (mp n a.bB)},mp n a.bB)
def yU(a:aj)(i n:Int):aj:=bif ltB 0 n then {a with eW:=a.eW+n,ak:=Uw a.ak i n} else a
theorem Tl(x y:Int):Pw x y=ς (mp x y):=by
 rw[Pw,mp];by_cases h:y<x
 .rw[ltB_t.2 h,if_pos h];rfl
 rw[ltB_f.2 oaa,if_neg h];rfl
theorem Yo(x y:Int):UH x y=ς (mp x y):=Tl x y
def OF(x y:Int):Int:=if x<y then y else x
theorem Yl(x y:Int):ML x y=ς (OF x y):=by
 rw[ML,OF];by_cases h:x<y
 .rw[ltB_t.2 h,if_pos h];rfl
 rw[ltB_f.2 oaa,if_neg h];rfl
theorem max_i(x y:Int):iMax x y=ς (OF x y):=Yl x y
theorem any_A{d:List ah}{m:Int}:((t++(⟨i,m⟩:ah)::d).any λx=>eqB x.ax i)=true:=by simp
theorem WU{d:List ah}(h1:∀x∈t,x.ax<i)(h2:∀x∈d,i<x.ax):((t++d).any λx=>eqB x.ax i)=false:=by
 rw[List.any_eq_false];intro y hy
 rcases aau.1 hy with hy|hy
 .have:=h1 y hy;simp[eqB];omega
 have:=h2 y hy;simp[eqB];omega
theorem VG(ok:qJ a)(i n:Int):DF a i n=ς (iU a i n):=by
 have hv:=Cv.2 ok
 have hd:=ok.v
 have ht:=ok.t
 have hfind:re a i=ς (oR (λx=>eqB x.ax i) 0 a.ak):=Gn ok λv=>rfl
 have hf:(bif leB 8 (a.ak.length:Int) then(aeP (re a i) λr5=>ς (ltB r5 0)) else ς η)=ς (full a i):=by
  rw[hfind,full]
  cases leB 8 (a.ak.length:Int)
  .rfl
  rcases NH ok.o i with⟨t,m,d,e,h1,h2⟩|⟨t,d,e,h1,h2⟩
  .rw[e,LY h1,any_A];simp[ltB]
  rw[e,Qw h1 h2,WU h1 h2];simp[ltB]
 simp only[DF,GU ok.ok,As ok.ok,hv,hf,gY,Tl,iU,au]
 cases h1:ltB i 0<;>cases h2:inR n 1 100000<;>cases h3:eqB a.bB 0<;>cases h4:full a i<;>try rfl
 rw[cT] at h2
 have h3:=XA h3
 have hmin:1<=mp n a.bB/\mp n a.bB<=100000/\mp n a.bB<=a.bB:=by unfold mp;split<;>omega
 simp only[Rx ok (show 0<=mp n a.bB/\mp n a.bB<=100000 by omega),bY (n:=a.bB-mp n a.bB) oaa,afq,au]
theorem VF(ok:qJ a)(i n:Int):CW a i n=ς (iU a i n):=by
 have hv:=Cv.2 ok
 have hd:=ok.v
 have ht:=ok.t
 have hl:=ok.l
 have hfind:fC a i=ς (oR (λx=>eqB x.ax i) 0 a.ak):=Gn ok λv=>rfl
 simp only[CW,D3 ok.ok,Ar ok.ok,hv,hfind,jl,Yo,iU,au]
 cases h1:ltB i 0<;>cases h2:inR n 1 100000<;>cases h3:eqB a.bB 0<;>try rfl
 rw[cT] at h2
 have h3:=XA h3
 have hmin:1<=mp n a.bB/\mp n a.bB<=100000/\mp n a.bB<=a.bB:=by unfold mp;split<;>omega
 simp only[bY (n:=a.bB-mp n a.bB) oaa,adD,au]
 rcases NH ok.o i with⟨t,m,d,e,k1,k2⟩|⟨t,d,e,k1,k2⟩
 .have hm:m<=100000/\1<=m:=by have:=ok.r ⟨i,m⟩ (by rw[e];simp);simp only at this;omega
  rw[full,e,LY k1,any_A,Lp k1,show leB 0 (t.length:Int)=ζ from leB_t.2 oaa]
  have hx:(t++(⟨i,m⟩:ah)::d)[t.length]?=ς ⟨i,m⟩:=by simp
  simp only[bz,hx,aeX,bY (n:=m+mp n a.bB) oaa,afm,au]
  simp
 have htl:t.length+d.length<=8:=by have:=congrArg ae8 e;simp at this;omega
 rw[full,e,Qw k1 k2,WU k1 k2,Lq k1 k2,show leB 0 (-1)=η from by simp[leB]]
 cases h4:leB 8 (((t++d).length:Nat):Int)
 .have hlt:(t++d).length<8:=by have:=FQ h4;omega
  have hrun:=yo (L:=uP i a) a.ak (λx=>ltB x.ax i) oaa (λk x hx=>by
   have hk:=(f5.1 hx).1
   simp[uP,ci hk,hx]) (by simp[uP])
  rw[e,aab k1 (λx hx=>by grind)] at hrun
  have hs:=SN t d cS (⟨i,mp n a.bB⟩:ah)
  have b1:c8 16 (t++d++[cS]).length=true:=cy oaa (by grind)
  have b2:d6 (t++d++[cS]) ((t.length+1:Nat):Int) (((t++d++[cS]).length:Nat):Int)=true:=by simp[d6];omega
  have b3:d6 (t++d++[cS]) (t.length:Int) (((t++d++[cS]).length:Nat):Int)=true:=by simp[d6];omega
  obtain⟨y,_,hy⟩:=ix_in (xs:=cpD (t++d++[cS]) (t.length+1) ((t++d++[cS]).drop t.length)) (i:=(t.length:Int)) oaa (by simp;omega)
  simp only[hrun,WRs (k:=t.length),aeX,b1,b2,b3,hy,hs,afF,au]
  simp
 rfl
theorem EP(ok:qJ a)(i:Int):0<=jk a i/\jk a i<=100000:=by
 rcases NH ok.o i with⟨t,m,d,e,h1,h2⟩|⟨t,d,e,h1,h2⟩
 .rw[og e h1];have:=ok.r ⟨i,m⟩ (by rw[e];simp);grind
 rw[s4 (λx hx=>by grind)];omega
theorem abe(ok:qJ a){n:Int}(hn:0<=n/\n<=jk a i):MH a i n=ς (yU a i n,ζ):=by
 have hv:=Cv.2 ok
 have ht:=ok.t
 have hs:=ok.s
 have hr:=EP ok i
 have hfind:re a i=ς (oR (λx=>eqB x.ax i) 0 a.ak):=Gn ok λv=>rfl
 have hin:inR n 0 (jk a i)=true:=cT.2 hn
 simp only[MH,GU ok.ok,As ok.ok,hv,hfind,Pk ok.ok,gY,hin,yU,au]
 cases h0:ltB 0 n
 .rfl
 have h0:=zv h0
 rcases NH ok.o i with⟨t,m,d,e,h1,h2⟩|⟨t,d,e,h1,h2⟩
 .rw[og e h1] at hn hr
  have hc:=Ry ok e h1 hn
  rw[show oR (λx=>eqB x.ax i) 0 a.ak=(t.length:Int) by rw[e];exact LY h1]
  simp only[hc,bY (n:=a.eW+n) oaa,au]
 rw[s4 (λx hx=>by grind)] at hn
 omega
theorem abd(ok:qJ a){n:Int}(hn:0<=n/\n<=jk a i):LS a i n=ς (yU a i n,ζ):=by
 have hv:=Cv.2 ok
 have ht:=ok.t
 have hs:=ok.s
 have hl:=ok.l
 have hr:=EP ok i
 have hfind:fC a i=ς (oR (λx=>eqB x.ax i) 0 a.ak):=Gn ok λv=>rfl
 have hin:inR n 0 (jk a i)=true:=cT.2 hn
 simp only[LS,D3 ok.ok,Ar ok.ok,hv,hfind,Pj ok.ok,jl,hin,yU,au]
 rcases NH ok.o i with⟨t,m,d,e,h1,h2⟩|⟨t,d,e,h1,h2⟩
 .rw[og e h1] at hn
  have hm:m<=100000/\1<=m:=by have:=ok.r ⟨i,m⟩ (by rw[e];simp);simp only at this;omega
  have htl:t.length+1+d.length<=8:=by have:=congrArg ae8 e;simp at this;omega
  have hx:(t++(⟨i,m⟩:ah)::d)[t.length]?=ς ⟨i,m⟩:=by simp
  have hset:∀z:ah,(t++(⟨i,m⟩:ah)::d).set t.length z=t++z::d:=λz=>by simp
  have hx2:∀z:ah,(t++z::d)[t.length]?=ς z:=λz=>by simp
  rw[e,LY h1,show ltB (t.length:Int) 0=η from ltB_f.2 oaa,Lx h1]
  simp only[bz,hx,hset,hx2,aeX,bY (n:=m-n) oaa,bY (n:=a.eW+n) oaa,au]
  cases h0:ltB 0 n
  .have h0:=Dc h0
   have hn0:n=0:=by omega
   subst hn0
   rw[show m-0=m by omega,eqB_f.2 (show m≠0 by omega),show a.eW+0=a.eW by omega]
   simp only[<-e,au]
  have h0:=zv h0
  by_cases hb:n<m
  .rw[if_pos hb,eqB_f.2 (show m-n≠0 by omega)];rfl
  rw[if_neg hb,eqB_t.2 (show m-n=0 by omega)]
  simp only[X0 (a:={a with eW:=a.eW+n,ak:=t++(⟨i,m-n⟩:ah)::d}) rfl htl,au]
 have h0:n=0:=by
  rw[s4 (λx hx=>by grind)] at hn
  omega
 subst h0
 rw[e,Qw h1 h2]
 simp[ltB]
structure WOK(w:aG):Prop where
 n:1<=w.bw/\w.bw<=100000
 l:w.ar.length<=8
 f:1<=w.bw-w.ar.length
 u:∀(k:Nat) (x:ab),w.ar[k]?=ς x->x.df=w.bw-w.ar.length+k/\x.be.length<=60
theorem WOK.ok(h:WOK w):fy w:=⟨by have:=h.l;omega,λx hx=>by
 obtain⟨k,hk⟩:=ac7 hx
 exact⟨by have:=(h.u k x hk).2;omega,λ_ _=>trivial⟩⟩
theorem uJ{n:Nat}:yE n=ζ↔n<=60:=by simp[yE,ltB];omega
theorem GQ:ly w=ζ↔WOK w:=by
 constructor
 .intro h
  simp only[ly,f4,cT,gN,unB,uJ] at h
  obtain⟨h1,h2,h3,h4⟩:=h
  have h2:=BU h2
  have h3:=BU h3
  rw[bY oaa] at h3
  refine⟨h1,by omega,h3,λk x hx=>?_⟩
  have hk:=(f5.1 hx).1
  have:=h4 k x hx
  have e:=CH this.1
  rw[bY (n:=w.bw-(w.ar.length:Int)) oaa,bY oaa] at e
  omega
 rintro⟨h1,h2,h3,h4⟩
 simp only[ly,f4,cT,gN,unB,uJ]
 refine⟨h1,leB_t.2 oaa,leB_t.2 (by rw[bY oaa];omega),λk x hx=>?_⟩
 have hk:=(f5.1 hx).1
 have:=h4 k x hx
 exact⟨eqB_t.2 (by rw[bY (n:=w.bw-(w.ar.length:Int)) oaa,bY oaa];exact this.1),this.2⟩
def it(xs:List ab):Int:=(xs.map λx=>(x.be.length:Int)).sum
theorem yk:∀{xs:List ab},(∀x∈xs,x.be.length<=60)->0<=it xs/\it xs<=60*xs.length
 |[],_=>by simp[it]
 |x::xs,h=>by
  have ih:=yk (xs:=xs) λy hy=>h y (by simp[hy])
  have:=h x (by simp)
  have e:it (x::xs)=x.be.length+it xs:=by simp[it]
  grind
theorem KN{xs:List ab}(h:∀x∈xs,x.be.length<=60)(hl:xs.length<=1000):B6 xs=it xs:=by
 have key:∀(xs:List ab) (s:Int),(∀x∈xs,x.be.length<=60)->0<=s->s+60*xs.length<=9000000000->xs.foldl (λa x=>WR (a+(x.be.length:Int))) s=s+it xs:=by
  intro xs
  induction xs with
  |nil=>intro s _ _ _;simp[it]
  |cons x xs ih=>
   intro s h h0 h1
   have hx:=h x (by simp)
   simp only[acn] at h1
   rw[afg,bY oaa,ih _ (λy hy=>h y (by simp[hy])) oaa oaa]
   simp[it];omega
 have:=key xs 0 h oaa oaa
 rw[B6,this];omega
theorem WOK.d(h:WOK w):∀x∈w.ar,x.be.length<=60:=λx hx=>by
 obtain⟨k,hk⟩:=ac7 hx;exact(h.u k x hk).2
structure QOK(q:cq):Prop where
 i:0<=q.ax
 u:0<=q.et
 g:q.et<=q.cH
 m:q.cH<=100000
theorem IF:qd q=ζ↔QOK q:=by
 simp only[qd,f4,leB_t]
 exact⟨λ⟨a,b,c,d⟩=>⟨a,b,c,d⟩,λ⟨a,b,c,d⟩=>⟨a,b,c,d⟩⟩
theorem GD(h:QOK q):Rj q=q.cH-q.et:=by
 rw[Rj,IF.2 h];obtain⟨a,b,c,d⟩:=h
 simp only[cond_true];rw[bY oaa]
structure SP(s:ag):Prop where
 ok:dw s
 rcd:E9 s.bO=ζ
 plan:DX s.fr=ζ
 page:lx s.fJ=ζ
 win:WOK s.aC
 q:QOK s.bM
 st:0<=s.bF/\s.bF<=1
 k1:s.bF=1->vR s.bp=ζ
 k2:0<s.bN->vR s.aA.f9=ζ
 ps:0<=s.bN/\s.bN<=999999
 gn:0<=s.av/\s.av<=999999
 ep:0<=s.a8/\s.a8<=999999
 rk:0<=s.bp/\s.bp<=2147483646
 ce:0<=s.bC/\s.bC<=5
 qu:0<=s.dy/\s.dy<=5
 rt:0<=s.du/\s.du<=3
 sl:s.aS.length<=24
 sd:∀p∈s.aS,p.be.length<=60
 nx:s.aC.bw<=s.aS.length+1
 un:∀x∈s.aC.ar,Gg s x=ζ
 pd:it s.aC.ar<=s.bM.cH-s.bM.et
theorem Ad(ok:dw s):lU s=ζ↔SP s:=by
 constructor
 .intro h
  simp only[lU,f4,cT,GQ,IF,aa4,Gh,uJ,yy,KJ] at h
  obtain⟨h1,h2,h3,h4,h5,h6,⟨h7,h8⟩,h9,h10,h11,h12,h13,h14,h15,h16,h17,h18,h19,h20⟩:=h
  have h16:=BU h16
  have h18:=BU h18
  have h20:=BU h20
  rw[bY oaa] at h18
  rw[GD h5,KN h4.d (by have:=h4.l;omega)] at h20
  refine⟨ok,h1,h2,h3,h4,h5,h6,λe=>?_,λe=>?_,h9,h10,h11,h12,h13,h14,h15,by omega,h17,h18,h19,h20⟩
  .simp_all
  rw[ltB_t.2 e] at h8;simp_all
 rintro⟨_,h1,h2,h3,h4,h5,h6,h7,h8,h9,h10,h11,h12,h13,h14,h15,h16,h17,h18,h19,h20⟩
 simp only[lU,f4,cT,GQ,IF,aa4,Gh,uJ,yy,KJ]
 refine⟨h1,h2,h3,h4,h5,h6,⟨?_,?_⟩,h9,h10,h11,h12,h13,h14,h15,leB_t.2 oaa,h17,leB_t.2 (by rw[bY oaa];omega),h19,leB_t.2 (by rw[GD h5,KN h4.d (by have:=h4.l;omega)];omega)⟩
 .cases e:eqB s.bF 1
  .rfl
  simp_all
 cases e:ltB 0 s.bN
 .rfl
 simp_all
def Pt(s:ag)(m:aD):bm:=
 let q:=s.bO.df+1
 let v:=vec s.bO.f9 (Qj s.bO.ID q) q
 bif eqB s.bO.df 999999 then⟨s,[]⟩ else⟨{s with bO:={s.bO with df:=q},aA:=v,bN:=q},[⟨2,m.bC,q,0,0,v,0⟩]⟩
def GH(s:ag)(k:Int):aD:=Ck s.bp ⟨k,s.bC,s.av,s.a8,0,db,0⟩
def zY(s:ag)(c:Int):ag:=⟨s.bO,s.fr,1,db,0,s.bN,s.aA.f9,s.a8+1,c,0,eA,s.aS,s.aC,s.du,s.bM⟩
def Ft(s:ag)(m:aD):bm:=
 bif leB s.bN 0||(!eqB m.av s.bN||(!eqB m.cj s.aA.D0||leB 999999 s.a8)) then⟨s,[]⟩ else⟨zY s m.bC,[GH (zY s m.bC) 4]⟩
def yw(s:ag)(m:aD):Bool:=eqB s.bF 1&&(eqB m.av s.av&&yN s.bp m)
def xU(s:ag)(m:aD):ag:={s with a8:=m.a8,bC:=m.bC,dy:=0,fJ:=eA,du:=0}
def Fs(s:ag)(m:aD):bm:=
 bif !yw s m||(ltB m.a8 s.a8||(eqB m.a8 s.a8&&!eqB m.bC s.bC)) then⟨s,[]⟩ else⟨xU s m,[GH (xU s m) 6]⟩
def ot(w:aG)(k:Int):aG:=bif ltB w.bw k then w else⟨w.bw,w.ar.filter λx=>leB k x.df⟩
def uB(q:cq)(n:Int):cq:=bif inR n 0 (q.cH-q.et) then {q with et:=q.et+n} else q
def pf(s:ag)(k:Int):ag:={s with dy:=0,aC:=ot s.aC k,bM:=uB s.bM (it s.aC.ar-it (ot s.aC k).ar)}
def Ps(s:ag)(m:aD):bm:=bif !yw s m||ltB s.aC.bw m.cj then⟨s,[]⟩ else⟨pf s m.cj,[]⟩
def sUp(s:ag)(m:aD):bm:=
 bif !pe m then⟨s,[]⟩ else bif eqB m.eb 1 then Pt s m else bif eqB m.eb 3 then Ft s m else bif eqB m.eb 5 then Fs s m else bif eqB m.eb 8 then Ps s m else⟨s,[]⟩
theorem Dj(h:dw s):pD s=ς ⟨s,[]⟩:=by simp[pD,vQ h]
theorem Zh(h:dw s){l:List aD}(hl:l.length<=1048576):di s l=ς ⟨s,l⟩:=by simp[di,DG h,ZR hl]
theorem A0(h:dw s):di s []=ς ⟨s,[]⟩:=Zh h (by simp)
theorem MC(h:dw s)(m:aD):di s [m]=ς ⟨s,[m]⟩:=Zh h (by simp)
theorem Mz{r:bI}(h:E9 r=ζ):0<=r.df/\r.df<=999999:=by
 simp only[E9,f4,cT] at h;omega
theorem att_s(h:SP s)(m:aD):pt s m=ς (Pt s m):=by
 have hr:=Mz h.rcd
 simp only[pt,chal_s,rO,rec_s,h.rcd,vec_s,Dj h.ok,vQ h.ok,bY (n:=s.bO.df+1) oaa,Pt,au]
 cases he:eqB s.bO.df 999999
 .simp only[bT,eqB_f.2 (show s.bO.df+1≠s.bO.df by omega),afp,ae3,au]
 simp_all
theorem att_i(h:SP s)(m:aD):oH s m=ς (Pt s m):=by
 have hr:=Mz h.rcd
 simp only[oH,chal_i,ru,rec_i,h.rcd,vec_i,A0 h.ok,bY (n:=s.bO.df+1) oaa,Pt,au]
 cases he:eqB s.bO.df 999999
 .simp only[bT,eqB_f.2 (show s.bO.df+1≠s.bO.df by omega),afp,ae3,au]
  rw[MC (s:={s with bO:={s.bO with df:=s.bO.df+1},aA:=vec s.bO.f9 (Qj s.bO.ID (s.bO.df+1)) (s.bO.df+1),bN:=s.bO.df+1}) h.ok]
  rfl
 simp_all
theorem resp_s(h:SP s)(m:aD):mq s m=ς (Ft s m):=by
 have he:=h.ep
 simp only[mq,p9,Dj h.ok,vQ h.ok,ur,MT,aeW,bY (n:=s.a8+1) oaa,Ft]
 cases leB s.bN 0<;>cases eqB m.av s.bN<;>cases eqB m.cj s.aA.D0<;>cases leB 999999 s.a8<;>rfl
theorem resp_i(h:SP s)(m:aD):lZ s m=ς (Ft s m):=by
 have he:=h.ep
 have hh:dw (zY s m.bC):=h.ok
 have a:∀x,di ⟨s.bO,s.fr,1,db,0,s.bN,s.aA.f9,s.a8+1,m.bC,0,eA,s.aS,s.aC,s.du,s.bM⟩ [x]=ς ⟨zY s m.bC,[x]⟩:=λx=>MC hh x
 simp only[lZ,pN,A0 h.ok,mO,MS,aeW,bY (n:=s.a8+1) oaa,a,Ft]
 cases leB s.bN 0<;>cases eqB m.av s.bN<;>cases eqB m.cj s.aA.D0<;>cases leB 999999 s.a8<;>rfl
theorem SS(s:ag)(m:aD):wH s m=ς (yw s m):=by
 simp only[wH,aai,aeW,yw];grind
theorem acr(h:SP s)(m:aD):kq s m=ς (Fs s m):=by
 simp only[kq,SS,Dj h.ok,vQ h.ok,ur,MT,aeW,Fs]
 cases yw s m<;>cases ltB m.a8 s.a8<;>cases eqB m.a8 s.a8<;>cases eqB m.bC s.bC<;>rfl
theorem acq(h:SP s)(m:aD):jW s m=ς (Fs s m):=by
 have hh:dw (xU s m):=h.ok
 have a:∀x,di {s with a8:=m.a8,bC:=m.bC,dy:=0,fJ:=eA,du:=0} [x]=ς ⟨xU s m,[x]⟩:=λx=>MC hh x
 simp only[jW,RO,A0 h.ok,mO,MS,aeW,a,Fs,yw]
 cases eqB s.bF 1<;>cases eqB m.av s.av<;>cases yN s.bp m<;>cases ltB m.a8 s.a8<;>cases eqB m.a8 s.a8<;>cases eqB m.bC s.bC<;>rfl
theorem ackB_s(h:WOK w)(k:Int):lq w k=ς (ot w k):=by
 have hl:=h.l
 simp only[lq,I9 h.ok,aeW,ot]
 cases ltB w.bw k
 .have:=eg (step:=iV w k) w.ar (λi s=>((i:Int),s)) (tv 32 (λx=>leB k x.df) (λx=>x)) ς oaa
   (λi x s hx hi=>by
    have hd:=h.d x (v0 hx)
    simp only[iV,ci hi,bz,hx,adT,cy (by_:=1) (n:=x.be.length) oaa oaa,WRs (k:=i),tv,au]
    cases leB k x.df<;>simp
    cases c8 32 (s.length+1)<;>rfl) (λs=>by simp[iV]) ([]:List ab)
  rw[uH oaa _ _ _ _ (by simp;omega)] at this
  simp_all
 rfl
theorem Su(h:WOK w)(p:ab->Bool):okL dg (w.ar.filter p):=
 ⟨by have:=afv p w.ar;have:=h.l;omega,λx hx=>h.ok.2 x (afl.1 hx).1⟩
theorem ackB_i(h:WOK w)(k:Int):kW w k=ς (ot w k):=by
 have hl:=h.l
 simp only[kW,EU h.ok,aeW,ot]
 cases ltB w.bw k
 .have:=eg (step:=ge w k) w.ar (λi s=>((i:Int),s)) (tv 32 (λx=>leB k x.df) (λx=>x)) ς oaa
   (λi x s hx hi=>by
    simp only[ge,ci hi,bz,hx,WRs (k:=i),tv,au]
    cases leB k x.df<;>simp
    grind) (λs=>by simp[ge]) ([]:List ab)
  rw[uH oaa _ _ _ _ (by simp;omega)] at this
  simp only[show iter (ge w k) FU (0,[])=_ from this,adT,List.map_id',B7 (Su h _),au]
 rfl
theorem Uv(h:QOK q)(n:Int):∃b,qz q n=ς (uB q n,b):=by
 obtain⟨a,b,c,d⟩:=h
 simp only[qz,Dx,IF.2 ⟨a,b,c,d⟩,gY,bY (n:=q.cH-q.et) oaa,uB,au]
 cases hn:inR n 0 (q.cH-q.et)
 .simp_all
 rw[cT] at hn
 simp only[bY (n:=q.et+n) oaa,au];simp_all
theorem Uu(h:QOK q)(n:Int):∃b,qg q n=ς (uB q n,b):=by
 obtain⟨a,b,c,d⟩:=h
 simp only[qg,GC,IF.2 ⟨a,b,c,d⟩,jl,bY (n:=q.cH-q.et) oaa,uB,au]
 cases hn:inR n 0 (q.cH-q.et)
 .simp_all
 rw[cT] at hn
 simp only[bY (n:=q.et+n) oaa,au];simp_all
theorem K6(p:ab->Bool):∀xs:List ab,it xs=it (xs.filter p)+it (xs.filter λx=>!p x)
 |[]=>rfl
 |x::xs=>by
  have ih:=K6 p xs
  have e:∀ys,it (x::ys)=x.be.length+it ys:=λys=>by simp[it]
  grind
theorem MY(n:Int):∀(xs:List ab) (s:Int),(∀x∈xs,x.be.length<=60)->0<=s->s+60*xs.length<=9000000000->
 xs.foldl (λa x=>bif ltB x.df n then WR (a+(x.be.length:Int)) else a) s=s+it (xs.filter λx=>ltB x.df n)
 |[],s,_,_,_=>by simp[it]
 |x::xs,s,h,h0,h1=>by
  have hx:=h x (by simp)
  simp only[acn] at h1
  rw[afg,afC]
  cases ltB x.df n
  .simp only[cond_false]
   exact MY n xs s (λy hy=>h y (by simp[hy])) h0 oaa
  simp only[cond_true]
  rw[bY oaa,MY n xs _ (λy hy=>h y (by simp[hy])) oaa oaa]
  simp[it];omega
theorem Lm(h:WOK w){k:Int}(hk:ltB w.bw k=η):it w.ar-it (ot w k).ar=it (w.ar.filter λx=>ltB x.df k):=by
 rw[ot,hk,K6 (λx=>leB k x.df) w.ar]
 simp only[cond_false]
 have:(λx:ab=>ltB x.df k)=λx=>!leB k x.df:=by funext x;rw[u6]
 grind
theorem ack_s(h:SP s)(m:aD):nE s m=ς (Ps s m):=by
 obtain⟨b,hb⟩:=Uv h.q (it s.aC.ar-it (ot s.aC m.cj).ar)
 have hu:=h.win.d
 have hl:=h.win.l
 have hu2:∀x∈(ot s.aC m.cj).ar,x.be.length<=60:=λx hx=>by
  rw[ot] at hx;grind
 have hl2:(ot s.aC m.cj).ar.length<=8:=by
  rw[ot];cases ltB s.aC.bw m.cj
  .grind
  exact hl
 have s1:=yk hu
 have s2:=yk hu2
 have e1:WR (B6 s.aC.ar-B6 (ot s.aC m.cj).ar)=it s.aC.ar-it (ot s.aC m.cj).ar:=by
  rw[KN hu oaa,KN hu2 oaa,bY oaa]
 simp only[nE,SS,Dj h.ok,vQ h.ok,ackB_s h.win,nb_s (show s.aC.ar.length<=1048576 by omega),nb_s (show(ot s.aC m.cj).ar.length<=1048576 by omega),aeW,e1,hb,Ps]
 cases yw s m<;>cases ltB s.aC.bw m.cj<;>rfl
theorem aaY(h:WOK w)(k:Int):fy (ot w k):=by
 rw[ot];cases ltB w.bw k
 .exact Su h _
 exact h.ok
theorem ack_i(h:SP s)(m:aD):m0 s m=ς (Ps s m):=by
 have hu:=h.win.d
 have hl:=h.win.l
 have hrun:iter (jV s m) FU (0,0)=ς (it (s.aC.ar.filter λx=>ltB x.df m.cj)):=by
  rw[wd s.aC.ar (λa x=>bif ltB x.df m.cj then WR (a+(x.be.length:Int)) else a) oaa (λk x a hx hk=>by
   simp only[jV,ci hk,bz,hx,WRs (k:=k),au]
   grind) (λa=>by simp[jV]),MY m.cj s.aC.ar 0 hu oaa oaa]
  simp
 obtain⟨b,hb⟩:=Uu h.q (it (s.aC.ar.filter λx=>ltB x.df m.cj))
 simp only[m0,RO,A0 h.ok,hrun,hb,ackB_i h.win,aeW,Ps,yw]
 cases eqB s.bF 1<;>cases eqB m.av s.av<;>cases yN s.bp m<;>try rfl
 cases hk:ltB s.aC.bw m.cj
 .have ho:dw (pf s m.cj):=⟨h.ok.1,h.ok.2.1,aaY h.win _⟩
  have:=A0 ho
  rw[pf,Lm h.win hk] at this
  simp only[ae3,afd,pf,Lm h.win hk,this,au]
 rfl
theorem up_s(h:SP s)(m:aD):pw s m=ς (sUp s m):=by
 simp only[pw,Tv,Dj h.ok,att_s h,resp_s h,acr h,ack_s h,aeW,sUp]
 grind
theorem up_i(h:SP s)(m:aD):oK s m=ς (sUp s m):=by
 simp only[oK,Tu,A0 h.ok,att_i h,resp_i h,acq h,ack_i h,aeW,sUp]
 grind
theorem uv(t d:List ah):yl (t++d)=yl t+yl d:=by simp[yl,List.sum_append]
@[simp] theorem sumR_cons (x:ah) (d:List ah):yl (x::d)=x.dq+yl d:=by simp[yl]
theorem Y1{d:List ah}{m m':Int}(h:(t++⟨i,m⟩::d).Pairwise λx y=>x.ax<y.ax):(t++⟨i,m'⟩::d).Pairwise λx y=>x.ax<y.ax:=by
 rw[ae7,ae2] at h ⊢
 simp_all
theorem pw_ins{d:List ah}{m:Int}(h:(t++d).Pairwise λx y=>x.ax<y.ax)(h1:∀x∈t,x.ax<i)(h2:∀x∈d,i<x.ax):(t++(⟨i,m⟩:ah)::d).Pairwise λx y=>x.ax<y.ax:=by
 rw[ae7] at h ⊢
 simp_all
theorem ack{d:List ah}(h1:∀x∈t,x.ax<i)(h2:∀x∈d,i<x.ax):∀x∈t++d,x.ax≠i:=λx hx=>by
 grind
theorem Rk(ok:qJ a)(i n:Int):
 qJ (iU a i n).1/\jk (iU a i n).1 i=jk a i+(iU a i n).2/\0<=(iU a i n).2/\(iU a i n).2<=a.bB/\(iU a i n).1.bB=a.bB-(iU a i n).2/\(iU a i n).1.eW=a.eW/\(iU a i n).1.gu=a.gu:=by
 have hv:=ok.v
 have ht:=ok.t
 have hs:=ok.s
 have hl:=ok.l
 have he:=ok.e
 rw[iU]
 cases h1:ltB i 0<;>cases h2:inR n 1 100000<;>cases h3:eqB a.bB 0<;>cases h4:full a i<;>simp only[afd,Bool.or_true,Bool.true_or,adD,au]<;>try exact⟨ok,by omega,by omega,by omega,by omega,by simp,by simp⟩
 rw[cT] at h2
 have h1:=Dc h1
 have h3:=XA h3
 have hmin:1<=mp n a.bB/\mp n a.bB<=100000/\mp n a.bB<=a.bB:=by unfold mp;split<;>omega
 generalize mp n a.bB=g at*
 rcases NH ok.o i with⟨t,m,d,e,k1,k2⟩|⟨t,d,e,k1,k2⟩
 .have hm:=ok.r ⟨i,m⟩ (by rw[e];simp)
  have hsum:=(vv ok.r).2.2 ⟨i,m⟩ (by rw[e];simp)
  simp only at hm hsum
  rw[e,uv,sumR_cons] at he
  simp only at he
  have hs1:=vv (h:=t) λx hx=>ok.r x (by simp_all)
  have hs2:=vv (h:=d) λx hx=>ok.r x (by simp_all)
  have ho:=ok.o
  rw[e] at ho
  rw[og e k1]
  simp only[e,Lp k1]
  have hll:(t++(⟨i,m+g⟩:ah)::d).length=a.ak.length:=by rw[e];simp
  refine⟨⟨ht,by grind,hs,by simp_all,λx hx=>?_,Y1 ho,by simp only[uv,sumR_cons];omega⟩,og (t:=t) (d:=d) rfl k1,by omega,by omega,θ,θ,θ⟩
  rcases aau.1 hx with hx|hx
  .exact ok.r x (by simp_all)
  rcases aa2.1 hx with e'|hx
  .grind
  exact ok.r x (by simp_all)
 rw[s4 (a:=a) (λx hx=>by grind)]
 have hb:a.ak.length<8:=by
  rw[full,e,WU k1 k2] at h4
  simp only[Bool.not_false,ae3] at h4
  have:=FQ h4
  rw[e];omega
 rw[e,uv] at he
 have ho:=ok.o
 rw[e] at ho
 simp only[e,Lq k1 k2]
 refine⟨⟨ht,by grind,hs,by grind,λx hx=>?_,pw_ins ho k1 k2,by simp only[uv,sumR_cons];omega⟩,Eq.trans (og (t:=t) (d:=d) rfl k1) oaa,by omega,by omega,θ,θ,θ⟩
 rcases aau.1 hx with hx|hx
 .exact ok.r x (by simp_all)
 rcases aa2.1 hx with e'|hx
 .simp_all
 exact ok.r x (by simp_all)
theorem Xh(ok:qJ a){n:Int}(hn:0<=n/\n<=jk a i):
 qJ (yU a i n)/\jk (yU a i n) i=jk a i-n/\(yU a i n).eW=a.eW+n/\(yU a i n).bB=a.bB/\(yU a i n).gu=a.gu:=by
 have hv:=ok.v
 have ht:=ok.t
 have hs:=ok.s
 have hl:=ok.l
 have he:=ok.e
 rw[yU]
 cases h0:ltB 0 n
 .have h0:=Dc h0
  grind
 have h0:=zv h0
 simp only[cond_true]
 rcases NH ok.o i with⟨t,m,d,e,k1,k2⟩|⟨t,d,e,k1,k2⟩
 .rw[og e k1] at hn ⊢
  have hm:=ok.r ⟨i,m⟩ (by rw[e];simp)
  simp only at hm
  rw[e,uv,sumR_cons] at he
  have hs1:=vv (h:=t) λx hx=>ok.r x (by simp_all)
  have hs2:=vv (h:=d) λx hx=>ok.r x (by simp_all)
  have ho:=ok.o
  rw[e] at ho
  have hll:t.length+1+d.length=a.ak.length:=by rw[e];simp;omega
  simp only at he
  simp only[e,Lx k1]
  by_cases hb:n<m
  .simp only[if_pos hb]
   refine⟨⟨ht,by omega,by grind,by simp;omega,λx hx=>?_,Y1 ho,by simp only[uv,sumR_cons];omega⟩,og (t:=t) (d:=d) rfl k1,θ,θ,θ⟩
   rcases aau.1 hx with hx|hx
   .exact ok.r x (by simp_all)
   rcases aa2.1 hx with e'|hx
   .grind
   exact ok.r x (by simp_all)
  simp only[if_neg hb]
  have ho2:(t++d).Pairwise λx y=>x.ax<y.ax:=ho.sublist (by simp)
  refine⟨⟨ht,by omega,by grind,by simp;omega,λx hx=>ok.r x (by grind),ho2,by simp only[uv];omega⟩,?_,θ,θ,θ⟩
  rw[s4 (a:={a with eW:=a.eW+n,ak:=t++d}) (ack k1 k2)];omega
 rw[s4 (λx hx=>by grind)] at hn
 omega
structure MOK(a:aj)(q:cq):Prop where
 acc:qJ a
 quo:QOK q
 res:jk a q.ax=q.cH
theorem wk:Co a q=ζ↔MOK a q:=by
 simp only[Co,f4,Cv,IF,eqB_t]
 exact⟨λ⟨x,y,z⟩=>⟨x,y,z⟩,λ⟨x,y,z⟩=>⟨x,y,z⟩⟩
def km(a:aj)(q:cq)(n:Int):aj×cq:=
 let r:=iU a q.ax n
 (r.1,{q with cH:=q.cH+r.2})
theorem Cg(h:MOK a q)(n:Int):MOK (km a q n).1 (km a q n).2/\q.cH<=(km a q n).2.cH:=by
 obtain⟨h1,h2,h3,h4,h5,h6,h7⟩:=Rk h.acc q.ax n
 have:=EP h1 q.ax
 have hr:=h.res
 obtain⟨a1,a2,a3,a4⟩:=h.quo
 exact⟨⟨h1,⟨a1,a2,by simp only[km];omega,by simp only[km];omega⟩,by simp only[km];omega⟩,by simp only[km];omega⟩
theorem VC(h:MOK a q)(n:Int):qB a q n=ς (km a q n):=by
 have h0:=(Cg h n).1.quo
 have hq:=h.quo
 simp only[km] at h0
 have hg:=h0.m
 have hg2:=h0.g
 simp only at hg hg2
 simp only[qB,VG h.acc,L8 h.acc.ok,wk.2 h,Dx,bY (n:=q.cH+(iU a q.ax n).2) (by have:=hq.u;omega),IF.2 h0,km,au]
theorem VB(h:MOK a q)(n:Int):qi a q n=ς (km a q n):=by
 have h0:=(Cg h n).1.quo
 have hq:=h.quo
 simp only[km] at h0
 have hg:=h0.m
 have hg2:=h0.g
 simp only at hg hg2
 simp only[qi,VF h.acc,L7 h.acc.ok,wk.2 h,bY (n:=q.cH+(iU a q.ax n).2) (by have:=hq.u;omega),ltB_f.2 hg,km,au]
def lL(a:aj)(q:cq):aj×cq:=(yU a q.ax q.et,⟨q.ax,q.cH-q.et,0⟩)
theorem VA(h:MOK a q):MOK (lL a q).1 (lL a q).2/\(lL a q).1.eW=a.eW+q.et/\(lL a q).1.gu=a.gu/\(lL a q).1.bB=a.bB:=by
 obtain⟨a1,a2,a3,a4⟩:=h.quo
 have hr:=h.res
 obtain⟨h1,h2,h3,h4,h5⟩:=Xh h.acc (i:=q.ax) (n:=q.et) oaa
 exact⟨⟨h1,⟨a1,by simp[lL],by simp only[lL];omega,by simp only[lL];omega⟩,by simp only[lL];omega⟩,h3,h5,h4⟩
theorem Zg(h:MOK a q):sN a q=ς (lL a q):=by
 obtain⟨a1,a2,a3,a4⟩:=h.quo
 have hr:=h.res
 simp only[sN,L8 h.acc.ok,wk.2 h,abe h.acc (i:=q.ax) (n:=q.et) oaa,bY (n:=q.cH-q.et) oaa,lL,au]
theorem Zf(h:MOK a q):oL a q=ς (lL a q):=by
 obtain⟨a1,a2,a3,a4⟩:=h.quo
 have hr:=h.res
 simp only[oL,L7 h.acc.ok,wk.2 h,abd h.acc (i:=q.ax) (n:=q.et) oaa,bY (n:=q.cH-q.et) oaa,lL,au]
def pc(s:ag)(n:Int):Int:=OF 0 (it s.aC.ar+n-(s.bM.cH-s.bM.et))
theorem YE(hw:WOK s.aC)(hq:QOK s.bM){n:Int}(hn:0<=n/\n<=1000):pq s n=ς (pc s n):=by
 have hs:=yk hw.d
 have hl:=hw.l
 obtain⟨a1,a2,a3,a4⟩:=hq
 simp only[pq,pp,nb_s (show s.aC.ar.length<=1048576 by omega),KN hw.d (show s.aC.ar.length<=1000 by omega),rem_s,GD ⟨a1,a2,a3,a4⟩,Yl,aeW,pc,bY (n:=it s.aC.ar+n) oaa,bY (n:=it s.aC.ar+n-(s.bM.cH-s.bM.et)) oaa]
theorem YD(hw:WOK s.aC)(hq:QOK s.bM){n:Int}(hn:0<=n/\n<=1000):oG s n=ς (pc s n):=by
 have hs:=yk hw.d
 have hl:=hw.l
 obtain⟨a1,a2,a3,a4⟩:=hq
 simp only[oG,iI,nb_i (show s.aC.ar.length<=1048576 by omega),KN hw.d (show s.aC.ar.length<=1000 by omega),rem_i,GD ⟨a1,a2,a3,a4⟩,max_i,aeW,pc,bY (n:=it s.aC.ar+n) oaa,bY (n:=it s.aC.ar+n-(s.bM.cH-s.bM.et)) oaa]
def dB(s:ag)(a:aj)(n:Int):ag×aj:=
 bif leB (pc s n) 0 then(s,a) else
  let r:=km a s.bM (OF (pc s n) s.fr.dR)
  ({s with bM:=r.2},r.1)
theorem Xy(h:SP s)(hm:MOK a s.bM){n:Int}(hn:0<=n/\n<=1000):sK s a n=ς (dB s a n):=by
 simp only[sK,vQ h.ok,YE h.win h.q hn,GU hm.acc.ok,Yl,VC hm,aeW,dB]
 grind
theorem Xx(h:SP s)(hm:MOK a s.bM){n:Int}(hn:0<=n/\n<=1000):sm s a n=ς (dB s a n):=by
 simp only[sm,DG h.ok,YD h.win h.q hn,D3 hm.acc.ok,max_i,VB hm,aeW,dB]
 grind
def Bj(w:aG)(b:List Int):aG:=⟨w.bw+1,w.ar++[⟨w.bw,b⟩]⟩
theorem GJ(h:WOK w){b:List Int}(hn:w.bw<100000)(hl:w.ar.length<8)(hb:b.length<=60):WOK (Bj w b):=by
 have h1:=h.n
 have h3:=h.f
 refine⟨by simp only[Bj];omega,by simp[Bj];omega,by simp[Bj];omega,λk x hx=>?_⟩
 simp only[Bj] at hx ⊢
 rw[ads,List.length_singleton]
 by_cases hk:k<w.ar.length
 .rw[List.getElem?_append_left hk] at hx
  have:=h.u k x hx
  omega
 grind
theorem send_s(h:WOK w){b:List Int}(hn:w.bw<100000)(hl:w.ar.length<8)(hb:b.length<=60):ra w b=ς (Bj w b,⟨w.bw,b⟩,ζ):=by
 have h1:=h.n
 have hs:=GJ h hn hl hb
 have e:(⟨WR (w.bw+1),w.ar++[(⟨w.bw,b⟩:ab)]⟩:aG)=Bj w b:=by rw[bY oaa];rfl
 simp only[ra,I9 h.ok,adT,cy (by_:=1) (n:=b.length) oaa oaa,cy (by_:=32) (n:=(w.ar++[(⟨w.bw,b⟩:ab)]).length) oaa (by simp;omega),e,PC hs.ok,GQ.2 hs,au]
theorem send_i(h:WOK w){b:List Int}(hn:w.bw<100000)(hl:w.ar.length<8)(hb:b.length<=60):qP w b=ς (Bj w b,⟨w.bw,b⟩,ζ):=by
 have h1:=h.n
 have hs:=GJ h hn hl hb
 have e:(⟨WR (w.bw+1),w.ar++[(⟨w.bw,b⟩:ab)]⟩:aG)=Bj w b:=by rw[bY oaa];rfl
 simp only[qP,EU h.ok,Au (show b.length<=1048576 by omega),cy (by_:=32) (n:=(w.ar++[(⟨w.bw,b⟩:ab)]).length) oaa (by simp;omega),e,PB hs.ok,GQ.2 hs,au]
structure SG(s:ag)(a:aj):Prop where
 sp:SP s
 b1:∀p∈s.aS,okB p.be
 b2:∀x∈s.aC.ar,okB x.be
 mo:MOK a s.bM
def wm(s:ag):Option aP:=bif leB s.aC.bw (s.aS.length:Int)&&ltB (s.aC.ar.length:Int) 8 then s.aS[(s.aC.bw-1).toNat]? else ξ
def g7:Nat->ag->aj->List am->ag×aj×List am
 |0,s,a,r=>(s,a,r)
 |k+1,s,a,r=>match wm s with
  |none=>(s,a,r)
  |some x=>
   let e:=dB s a (x.be.length:Int)
   bif ltB 0 (pc e.1 (x.be.length:Int)) then(e.1,e.2,r)
   else g7 k {e.1 with aC:=Bj e.1.aC x.be} e.2 (r++[wE e.1.bp e.1.av e.1.a8 ⟨e.1.aC.bw,x.be⟩])
theorem tX(h:SP s){x:aP}(e:wm s=ς x):x∈s.aS/\ix s.aS (WR (s.aC.bw-1))=ς x/\s.aS[(s.aC.bw-1).toNat]?=ς x/\s.aC.bw<=s.aS.length/\s.aC.ar.length<8/\x.be.length<=60:=by
 have hn:=h.win.n
 rw[wm] at e
 cases h1:leB s.aC.bw (s.aS.length:Int)<;>cases h2:ltB (s.aC.ar.length:Int) 8<;>rw[h1,h2] at e<;>try cases e
 have h1:=BU h1
 have h2:=zv h2
 have e:s.aS[(s.aC.bw-1).toNat]?=ς x:=e
 have hm:=v0 e
 refine⟨hm,?_,e,h1,by omega,h.sd x hm⟩
 rw[bY oaa,ix,leB_t.2 (show 0<=s.aC.bw-1 by omega)]
 exact e
theorem Iq(h:SP s)(e:wm s=ξ):(leB s.aC.bw (s.aS.length:Int)&&ltB (s.aC.ar.length:Int) 8)=false:=by
 have hn:=h.win.n
 cases h1:leB s.aC.bw (s.aS.length:Int)&&ltB (s.aC.ar.length:Int) 8
 .rfl
 rw[wm,h1] at e
 rw[f4] at h1
 have h1:=BU h1.1
 have e:s.aS[(s.aC.bw-1).toNat]?=none:=e
 rw[List.getElem?_eq_none_iff] at e
 omega
theorem Ax(h:SG s a){n:Int}(hn:0<=n/\n<=60):SG (dB s a n).1 (dB s a n).2:=by
 rw[dB]
 cases leB (pc s n) 0
 .obtain⟨h1,h2⟩:=Cg h.mo (OF (pc s n) s.fr.dR)
  have hp:=h.sp.pd
  have hu:(km a s.bM (OF (pc s n) s.fr.dR)).2.et=s.bM.et:=rfl
  exact⟨{h.sp with q:=h1.quo,pd:=by grind},h.b1,h.b2,h1⟩
 exact h
theorem GI(h:SG s a){x:aP}(e:wm s=ς x)(hq:ltB 0 (pc s (x.be.length:Int))=η):SG {s with aC:=Bj s.aC x.be} a:=by
 obtain⟨hm,_,hx,hn,hl,hb⟩:=tX h.sp e
 have hs:=h.sp.sl
 have hq:=Dc hq
 have hnn:=h.sp.win.n
 have hpd:it (s.aC.ar++[⟨s.aC.bw,x.be⟩])<=s.bM.cH-s.bM.et:=by
  have e1:it (s.aC.ar++[⟨s.aC.bw,x.be⟩])=it s.aC.ar+x.be.length:=by simp[it]
  rw[pc,OF] at hq
  rw[e1]
  split at hq<;>omega
 refine⟨{h.sp with ok:=⟨h.sp.ok.1,h.sp.ok.2.1,(GJ h.sp.win oaa hl hb).ok⟩,win:=GJ h.sp.win oaa hl hb,nx:=by simp only[Bj];omega,un:=λy hy=>?_,pd:=hpd},h.b1,λy hy=>?_,h.mo⟩
 .simp only[Bj,aau,ad9] at hy
  rcases hy with hy|rfl
  .exact h.sp.un y hy
  simp only[Gg,hx,TX];simp_all
 simp only[Bj,aau,ad9] at hy
 rcases hy with hy|rfl
 .exact h.b2 y hy
 exact h.b1 x hm
theorem uF(s:ag)(a:aj)(n:Int):∃q,(dB s a n).1={s with bM:=q}:=by
 rw[dB];cases leB (pc s n) 0
 .simp_all
 grind
theorem I7:∀(k fu:Nat) (s:ag) (a:aj) (r:List am),SG s a->k<=2->k<fu->r.length+k<=1000->
 iter uR fu ((2:Int)-(k:Nat),r,s,a)=ς ((g7 k s a r).2.2,(g7 k s a r).1,(g7 k s a r).2.1)
 |0,fu,s,a,r,h,h1,h2,h3=>by
  cases fu with
  |zero=>omega
  |succ fu=>rw[iter];simp[uR,g7]
 |k+1,fu,s,a,r,h,h1,h2,h3=>by
  cases fu with
  |zero=>omega
  |succ fu=>
   have hlt:ltB ((2:Int)-((k+1:Nat):Int)) 2=true:=ltB_t.2 oaa
   have hc:(bif ltB (s.aS.length:Int) s.aC.bw then ς ζ else ς (leB 8 (s.aC.ar.length:Int)))=ς (!(leB s.aC.bw (s.aS.length:Int)&&ltB (s.aC.ar.length:Int) 8)):=by
    rw[u6 (s.aS.length:Int),u6 (s.aC.ar.length:Int)]
    cases leB s.aC.bw (s.aS.length:Int)<;>cases leB 8 (s.aC.ar.length:Int)<;>rfl
   rw[iter]
   simp only[uR,hlt,hc,g7,au]
   cases e:wm s with
   |none=>rw[Iq h.sp e];rfl
   |some x=>
    obtain⟨hm,hx,_,hn,hl,hb⟩:=tX h.sp e
    have hcc:(leB s.aC.bw (s.aS.length:Int)&&ltB (s.aC.ar.length:Int) 8)=true:=by rw[leB_t.2 hn,ltB_t.2 oaa];rfl
    have he:=Ax h (n:=(x.be.length:Int)) oaa
    have hsl:=h.sp.sl
    have hnn:=h.sp.win.n
    simp only[hcc,hx,Xx h.sp h.mo (n:=(x.be.length:Int)) oaa,YD he.sp.win he.sp.q (n:=(x.be.length:Int)) oaa,au]
    cases hq:ltB 0 (pc (dB s a (x.be.length:Int)).1 (x.be.length:Int))
    .obtain⟨q,hk⟩:=uF s a (x.be.length:Int)
     have e2:wm (dB s a (x.be.length:Int)).1=ς x:=by rw[hk];exact e
     have hg:=GI he e2 hq
     have hw:(dB s a (x.be.length:Int)).1.aC=s.aC:=by rw[hk]
     have hww:=he.sp.win
     simp only[send_i hww (b:=x.be) (by grind) (by simp_all) hb,ZH (x:=⟨(dB s a (x.be.length:Int)).1.aC.bw,x.be⟩) (by grind) (by grind) (h.b1 x hm) (by grind),cy (by_:=64) (n:=(r++[wE (dB s a (x.be.length:Int)).1.bp (dB s a (x.be.length:Int)).1.av (dB s a (x.be.length:Int)).1.a8 ⟨(dB s a (x.be.length:Int)).1.aC.bw,x.be⟩]).length) oaa (by simp;omega),bY (n:=(2:Int)-((k+1:Nat):Int)+1) oaa,au]
     rw[show(2:Int)-((k+1:Nat):Int)+1=2-(k:Nat) by omega]
     exact I7 k fu _ _ _ hg oaa oaa (by simp;omega)
    rfl
theorem I8(s0:ag):∀(k fu:Nat) (s:ag) (a:aj) (g:List aD) (r:List am),SG s a->s.aS=s0.aS->s.bp=s0.bp->s.av=s0.av->s.a8=s0.a8->k<=2->k<fu->r.length+k<=1000->
 iter (vd s0) fu ((2:Int)-(k:Nat),⟨s,a,g,r⟩)=ς ⟨(g7 k s a r).1,(g7 k s a r).2.1,g,(g7 k s a r).2.2⟩
 |0,fu,s,a,g,r,h,c1,c2,c3,c4,h1,h2,h3=>by
  cases fu with
  |zero=>omega
  |succ fu=>rw[iter];simp[vd,g7]
 |k+1,fu,s,a,g,r,h,c1,c2,c3,c4,h1,h2,h3=>by
  cases fu with
  |zero=>omega
  |succ fu=>
   have hlt:ltB ((2:Int)-((k+1:Nat):Int)) 2=true:=ltB_t.2 oaa
   have hc:(bif leB s.aC.bw (s0.aS.length:Int) then ς (ltB (s.aC.ar.length:Int) 8) else ς η)=ς (leB s.aC.bw (s.aS.length:Int)&&ltB (s.aC.ar.length:Int) 8):=by
    rw[<-c1]
    cases leB s.aC.bw (s.aS.length:Int)<;>rfl
   rw[iter]
   simp only[vd,hlt,hc,g7,au]
   cases e:wm s with
   |none=>rw[Iq h.sp e];rfl
   |some x=>
    obtain⟨hm,hx,_,hn,hl,hb⟩:=tX h.sp e
    have hcc:(leB s.aC.bw (s.aS.length:Int)&&ltB (s.aC.ar.length:Int) 8)=true:=by rw[leB_t.2 hn,ltB_t.2 oaa];rfl
    have he:=Ax h (n:=(x.be.length:Int)) oaa
    have hsl:=h.sp.sl
    have hnn:=h.sp.win.n
    rw[c1] at hx
    simp only[hcc,hx,Xy h.sp h.mo (n:=(x.be.length:Int)) oaa,YE he.sp.win he.sp.q (n:=(x.be.length:Int)) oaa,au]
    cases hq:ltB 0 (pc (dB s a (x.be.length:Int)).1 (x.be.length:Int))
    .obtain⟨q,hk⟩:=uF s a (x.be.length:Int)
     have e2:wm (dB s a (x.be.length:Int)).1=ς x:=by rw[hk];exact e
     have hg:=GI he e2 hq
     have hw:(dB s a (x.be.length:Int)).1.aC=s.aC:=by rw[hk]
     have hww:=he.sp.win
     have d1:(dB s a (x.be.length:Int)).1.bp=s0.bp:=by rw[hk];exact c2
     have d2:(dB s a (x.be.length:Int)).1.av=s0.av:=by rw[hk];exact c3
     have d3:(dB s a (x.be.length:Int)).1.a8=s0.a8:=by rw[hk];exact c4
     simp only[send_s hww (b:=x.be) (by grind) (by simp_all) hb,Ak,ZI (x:=⟨(dB s a (x.be.length:Int)).1.aC.bw,x.be⟩) (by grind) (by grind) (h.b1 x hm) (by grind),<-d1,<-d2,<-d3,cy (by_:=64) (n:=(r++[wE (dB s a (x.be.length:Int)).1.bp (dB s a (x.be.length:Int)).1.av (dB s a (x.be.length:Int)).1.a8 ⟨(dB s a (x.be.length:Int)).1.aC.bw,x.be⟩]).length) oaa (by simp;omega),bY (n:=(2:Int)-((k+1:Nat):Int)+1) oaa,au]
     rw[show(2:Int)-((k+1:Nat):Int)+1=2-(k:Nat) by omega]
     exact I8 s0 k fu _ _ _ _ hg (by simp_all) d1 d2 d3 oaa oaa (by simp;omega)
    rfl
theorem VX(h:SG s a)(hs:s.bF=1):CX s a=ς ⟨(g7 2 s a []).1,(g7 2 s a []).2.1,[],(g7 2 s a []).2.2⟩:=by
 have:=I7 2 FU s a [] h oaa (by have:=gP;omega) (by simp)
 rw[show(2:Int)-((2:Nat):Int)=0 by omega] at this
 simp only[CX,DG h.sp.ok,D3 h.mo.acc.ok,EV h.sp.ok,(Ad h.sp.ok).2 h.sp,eqB_t.2 hs,this,au]
theorem VY(h:SG s a)(hs:s.bF=1):Aa s a=ς ⟨(g7 2 s a []).1,(g7 2 s a []).2.1,[],(g7 2 s a []).2.2⟩:=by
 have:=I8 s 2 FU s a [] [] h rfl rfl rfl rfl oaa (by have:=gP;omega) (by simp)
 rw[show(2:Int)-((2:Nat):Int)=0 by omega] at this
 have hz:({bU with aX:=s,eu:=a}:bk)=⟨s,a,[],[]⟩:=rfl
 simp only[Aa,ut,Ai,vQ h.sp.ok,GU h.mo.acc.ok,EW h.sp.ok,(Ad h.sp.ok).2 h.sp,eqB_t.2 hs,hz,this,au]
theorem PA:∀(k:Nat) (s:ag) (a:aj) (r:List am),SG s a->SG (g7 k s a r).1 (g7 k s a r).2.1
 |0,s,a,r,h=>h
 |k+1,s,a,r,h=>by
  rw[g7]
  cases e:wm s with
  |none=>exact h
  |some x=>
   obtain⟨hm,hx,_,hn,hl,hb⟩:=tX h.sp e
   have he:=Ax h (n:=(x.be.length:Int)) oaa
   simp only
   cases hq:ltB 0 (pc (dB s a (x.be.length:Int)).1 (x.be.length:Int))
   .obtain⟨q,hk⟩:=uF s a (x.be.length:Int)
    exact PA k _ _ _ (GI he (by rw[hk];exact e) hq)
   exact he
theorem Hm(xs:List α):(xs.filter λ_=>ζ)=xs:=List.filter_eq_self.2 (by simp)
def Cw(s:ag):List am:=bif eqB s.bF 1 then(s.aC.ar.take 2).map λx=>wE s.bp s.av s.a8 x else []
theorem aac(h:WOK s.aC)(hx:x∈s.aC.ar):1<=x.df/\x.df<s.aC.bw/\x.df<=100000/\x.be.length<=60:=by
 obtain⟨k,hk⟩:=ac7 hx
 have hl:=(f5.1 hk).1
 have:=h.u k x hk
 have h1:=h.f
 have h2:=h.n
 omega
theorem aaZ(h:SG s a):qO s=ς (Cw s):=by
 simp only[qO,Cw]
 cases eqB s.bF 1
 .rfl
 have hm:mp 2 (s.aC.ar.length:Int)=(((min 2 s.aC.ar.length:Nat)):Int):=by unfold mp;split<;>omega
 have hs:d6 s.aC.ar 0 (((min 2 s.aC.ar.length:Nat)):Int)=true:=by simp[d6];omega
 have ht:s.aC.ar.take (min 2 s.aC.ar.length)=s.aC.ar.take 2:=by
  rcases Nat.le_total 2 s.aC.ar.length with h|h
  .simp_all
  grind
 have hrun:=eg (step:=lF s (((min 2 s.aC.ar.length:Nat)):Int)) (s.aC.ar.take 2) (λi r=>((i:Int),r)) (tv 64 (λ_=>ζ) (λx=>wE s.bp s.av s.a8 x)) ς (by simp;omega)
  (λi x r hx hi=>by
   have hxm:x∈s.aC.ar:=List.mem_of_mem_take (v0 hx)
   have hu:=aac h.sp.win hxm
   simp only[lF,aeX,ht,ci hi,bz,hx,ZH (x:=x) oaa oaa (h.b2 x hxm) oaa,lW (show i<9223372036854775807 by grind),tv,au]
   simp_all) (λr=>by simp[lF,ht]) ([]:List am)
 rw[uH oaa _ _ _ _ (by simp;omega)] at hrun
 have hrun:iter (lF s (((min 2 s.aC.ar.length:Nat)):Int)) FU (0,[])=_:=hrun
 simp only[Yo,hm,hs,hrun,adT,Hm,au]
theorem aa0(h:SG s a):oi s=ς (Cw s):=by
 have key:∀(n:Nat) (fu k:Nat) (r:List am),n=(s.aC.ar.take 2).length-k->k<=(s.aC.ar.take 2).length->n<fu->r.length+n<=100->eqB s.bF 1=ζ->
  iter (jK s) fu ((k:Int),r)=ς (r++((s.aC.ar.take 2).drop k).map λx=>wE s.bp s.av s.a8 x):=by
  intro n
  have hle:(s.aC.ar.take 2).length=min 2 s.aC.ar.length:=by simp
  induction n with
  |zero=>
   intro fu k r hn hk hf hr hs
   cases fu with
   |zero=>omega
   |succ fu=>
    have hk':k=(s.aC.ar.take 2).length:=by omega
    have hc:(bif ltB (k:Int) (s.aC.ar.length:Int) then(bif ltB (k:Int) 2 then ς (eqB s.bF 1) else ς η) else ς η)=ς false:=by
     by_cases h2:k<s.aC.ar.length
     .rw[ci h2,ltB_f.2 (show(2:Int)<=k by omega)];rfl
     rw[ltB_f.2 (show(s.aC.ar.length:Int)<=k by omega)];rfl
    rw[iter]
    simp only[jK,hc,au]
    simp_all
  |succ n ih=>
   intro fu k r hn hk hf hr hs
   cases fu with
   |zero=>omega
   |succ fu=>
    have hlt:k<(s.aC.ar.take 2).length:=by omega
    have hc:(bif ltB (k:Int) (s.aC.ar.length:Int) then(bif ltB (k:Int) 2 then ς (eqB s.bF 1) else ς η) else ς η)=ς true:=by
     rw[ci (show k<s.aC.ar.length by omega),ltB_t.2 (show(k:Int)<2 by omega),hs];rfl
    obtain⟨x,hx⟩:∃x,s.aC.ar[k]?=ς x:=⟨_,hV (show k<s.aC.ar.length by omega)⟩
    have hxm:=v0 hx
    have hu:=aac h.sp.win hxm
    have hd:(s.aC.ar.take 2).drop k=x::(s.aC.ar.take 2).drop (k+1):=by
     rw[adI hlt];congr 1
     have:=(f5.1 hx).2
     simpa using this
    rw[iter]
    simp only[jK,hc,bz,hx,Ak,ZI (x:=x) oaa oaa (h.b2 x hxm) oaa,cy (by_:=64) (n:=(r++[wE s.bp s.av s.a8 x]).length) oaa (by simp;omega),WRs (k:=k),au]
    rw[ih fu (k+1) _ oaa oaa oaa (by simp;omega) hs,hd]
    simp
 rw[oi,Cw]
 cases hs:eqB s.bF 1
 .have h0:iter (jK s) FU (0,[])=ς []:=by
   have:FU=(FU-1)+1:=by have:=gP;omega
   rw[this,iter]
   have hc:(bif ltB 0 (s.aC.ar.length:Int) then(bif ltB 0 2 then ς (eqB s.bF 1) else ς η) else ς η)=ς false:=by
    rw[hs];cases ltB 0 (s.aC.ar.length:Int)<;>cases ltB 0 2<;>rfl
   simp only[jK,hc,au]
  rw[h0];rfl
 have:=key _ FU 0 [] rfl oaa (by have:=gP;simp;omega) (by simp;omega) hs
 simp_all
def uA(m:aU)(a:Int):List Int:=(m.bh.zipIdx.filter λy=>eqB y.1.eO a).map λy=>(y.2:Int)
def WP(m:aU):List Int:=(f6 m.bh.length).map λ(k:Nat)=>(k:Int)
def Fk(m:aU)(a t:Int):List Int:=bif eqB t 1&&ltB 0 (((uA m a).length:Nat):Int) then uA m a else bif inR t 1 4 then WP m else []
theorem Uk{xs:List α}{y:α×Nat}(h:xs.zipIdx[k]?=ς y):xs[k]?=ς y.1/\y.2=k:=by
 grind
theorem WV(h:m.bh.length<=1000)(a:Int):sJ m a=ς (uA m a):=by
 have hrun:=eg (step:=kE m a) m.bh.zipIdx (λi r=>((i:Int),r)) (tv 8 (λy=>eqB y.1.eO a) (λy=>(y.2:Int))) ς (by simp;omega)
  (λi y r hy hi=>by
   obtain⟨hx,e⟩:=Uk hy
   have hi:i<m.bh.length:=by simpa using hi
   simp only[kE,ci hi,bz,hx,WRs (k:=i),tv,e,au]
   cases eqB y.1.eO a
   .rfl
   cases c8 8 (r++[(i:Int)]).length<;>rfl) (λr=>by simp[kE]) ([]:List Int)
 rw[uH oaa _ _ _ _ (by simp;omega)] at hrun
 rw[sJ,show iter (kE m a) FU (0,[])=_ from hrun]
 rfl
theorem area_i(h:m.bh.length<=1000)(a:Int):xa m a=ς (uA m a):=WV h a
theorem N2(n:Nat):∀(v:List Int),v.length=n->(∀k:Nat,k<n->v[k]?=ς (k:Int))->v=(f6 n).map λ(k:Nat)=>(k:Int):=by
 intro v hv h
 apply ae6
 grind
theorem all_i{L:Int×List Int->Option (bJ (Int×List Int) (List Int))}(n:Nat)(hn:n<=1000)(hL:∀(k:Nat) (v:List Int),L ((k:Int),v)=bif ltB (k:Int) (n:Int) then(aeP (ix v (k:Int)) λ_=>ς (.next (WR ((k:Int)+1),v.set ((k:Int)).toNat (k:Int)))) else ς (.done v)):
 iter L FU (0,aal n 0)=ς ((f6 n).map λ(k:Nat)=>(k:Int)):=by
 have:Wp (iter L FU (0,aal n 0)) (λr=>r=(f6 n).map λ(k:Nat)=>(k:Int)):=by
  refine Wp.iterF (λs=>∃i:Nat,i<=n/\s.1=(i:Int)/\s.2.length=n/\∀j:Nat,j<i->s.2[j]?=ς (j:Int)) (λs=>((n:Int)-s.1).toNat) ⟨0,by omega,rfl,by simp,by omega⟩ (by simp;omega) ?_
  rintro⟨v2,v3⟩ ⟨i,hi,rfl,h3,h4⟩
  simp only at h3 h4
  rw[hL]
  refine Wp.cond (λhlt=>?_) (λhlt=>?_)
  .have hlt:=zv hlt
   refine Wp.ix oaa oaa λx hx hxi=>Wp.some ?_
   rw[bY oaa]
   refine⟨⟨i+1,by omega,by simp,by simp_all,λj hj=>?_⟩,by omega⟩
   grind
  have hlt:=Dc hlt
  exact Wp.some (N2 n v3 h3 λk hk=>h4 k oaa)
 obtain⟨r,hr,rfl⟩:=this.ex
 exact hr
theorem aco(h:m.bh.length<=1000)(a t:Int):sr m a t=ς (Fk m a t):=by
 have hmk:jh 8 (m.bh.length:Int) (m.bh.length:Int)=true:=gH oaa oaa
 have hr1:=all_i (L:=rv m) m.bh.length h (λk v=>by simp only[rv,afw,aeX])
 have hr2:=all_i (L:=rx m) m.bh.length h (λk v=>by simp only[rx,afw,aeX])
 simp only[sr,jl,area_i h,hmk,aeX,hr1,hr2,Fk,WP,au]
 cases h1:eqB t 1
 .grind
 have h1:=CH h1
 subst h1
 rw[show inR 1 1 4=ζ from by simp[inR,leB]]
 grind
theorem acp(h:m.bh.length<=1000)(a t:Int):sM m a t=ς (Fk m a t):=by
 simp only[sM,WV h,aeW,Fk,WP]
 cases hb:inR t 1 4
 .have h0:iter (iF m t) FU (0,[])=ς []:=by
   have:FU=(FU-1)+1:=by have:=gP;omega
   rw[this,iter]
   simp only[iF,gY,hb,aeW]
   cases ltB 0 (m.bh.length:Int)<;>rfl
  grind
 have hrun:=eg (step:=iF m t) m.bh.zipIdx (λi r=>((i:Int),r)) (tv 8 (λ_=>ζ) (λy=>(y.2:Int))) ς (by simp;omega)
  (λi y r hy hi=>by
   obtain⟨hx,e⟩:=Uk hy
   have hi:i<m.bh.length:=by simpa using hi
   simp only[iF,ci hi,gY,hb,WRs (k:=i),tv,e,au]
   simp_all) (λr=>by simp[iF]) ([]:List Int)
 rw[uH oaa _ _ _ _ (by simp;omega)] at hrun
 have hall:(m.bh.zipIdx.filter λ_=>ζ).map (λy:cZ×Nat=>(y.2:Int))=(f6 m.bh.length).map λ(k:Nat)=>(k:Int):=by
  rw[Hm]
  refine N2 _ _ (by simp) λk hk=>?_
  simp[List.getElem?_zipIdx,hV hk]
 grind
def yA(p:bL)(m:aU):bL×List Int:=
 bif ltB 0 p.eG then({p with eG:=p.eG-1},[]) else
  let t:=bif ltB p.em 4 then p.em+1 else 1
  (⟨p.eO,t,3⟩,Fk m p.eO t)
structure POK(p:bL):Prop where
 a:0<=p.em/\p.em<=4
 w:0<=p.eG/\p.eG<=3
theorem acX(hp:POK p)(h:m.bh.length<=1000):vf p m=ς (yA p m):=by
 have h1:=hp.a
 have h2:=hp.w
 simp only[vf,acp h,aeW,yA,bY (n:=p.eG-1) oaa,bY (n:=p.em+1) oaa,D7]
theorem acW(hp:POK p)(h:m.bh.length<=1000):uT p m=ς (yA p m):=by
 have h1:=hp.a
 have h2:=hp.w
 simp only[uT,aco h,aeW,yA,bY (n:=p.eG-1) oaa,bY (n:=p.em+1) oaa,D7]
def mA(m:aU)(c:Int):Int:=bif ia m c then(match m.bh[c.toNat]? with|some x=>x.eO|none=>0) else 0
def OO(c:Int):aD:={gq with eb:=7,bC:=c}
def K4(s:ag)(a:aj)(m:aU):bk:=
 let r:=yA {s.fJ with eO:=mA m s.bC} m
 ⟨{s with fJ:=r.1},a,r.2.map OO,[]⟩
theorem KR{L:Int×List aD->Option (bJ (Int×List aD) (List aD))}(xs:List Int)(hl:xs.length<=10000)(hL:∀(v:Int) (r:List aD),L (v,r)=bif ltB v (xs.length:Int) then(aeP (ix xs v) λx10=>bif c8 88 (r++[{gq with eb:=7,bC:=x10}]).length then(ς (.next (WR (v+1),(r++[{gq with eb:=7,bC:=x10}])))) else ξ) else(ς (.done r))):
 iter L FU (0,[])=ς (xs.map OO):=by
 have hrun:=eg (step:=L) xs (λi r=>((i:Int),r)) (tv 88 (λ_=>ζ) OO) ς oaa
  (λi x r hx hi=>by
   simp only[hL,ci hi,bz,hx,WRs (k:=i),tv,OO,au]
   simp_all) (λr=>by simp[hL]) ([]:List aD)
 rw[uH oaa _ _ _ _ (by simp;omega)] at hrun
 refine Eq.trans (show iter L FU (0,[])=_ from hrun) (by rw[Hm,adT])
theorem E6(h:m.bh.length<=1000):(yA p m).2.length<=1000:=by
 have hc:(uA m p.eO).length<=1000:=by
  simp only[uA,List.length_map]
  have:=afv (λy:cZ×Nat=>eqB y.1.eO p.eO) m.bh.zipIdx
  simp at this;omega
 rw[yA];cases ltB 0 p.eG
 .simp only[cond_false,Fk]
  cases eqB (bif ltB p.em 4 then p.em+1 else 1) 1&&ltB 0 (((uA m p.eO).length:Nat):Int)
  .cases inR (bif ltB p.em 4 then p.em+1 else 1) 1 4<;>simp[WP];omega
  exact hc
 simp
theorem page_s(h:SP s)(ha:qJ a)(hp:POK s.fJ)(hm:1<=m.bh.length/\m.bh.length<=1000):Aj s a m=ς (K4 s a m):=by
 have hz:({bU with aX:=s,eu:=a}:bk)=⟨s,a,[],[]⟩:=rfl
 have hin:(bif ia m s.bC then(aeP (ix m.bh s.bC) λx4=>ς x4.eO) else ς 0)=ς (mA m s.bC):=by
  rw[mA]
  cases hc:ia m s.bC
  .rfl
  obtain⟨d,_,h1,h2⟩:=CB hc
  simp_all
 have hpp:POK {s.fJ with eO:=mA m s.bC}:=⟨hp.a,hp.w⟩
 have hr:=KR (L:=Fv (yA {s.fJ with eO:=mA m s.bC} m)) _ (by have:=E6 (p:={s.fJ with eO:=mA m s.bC}) hm.2;omega) (λv r=>rfl)
 simp only[Aj,ut,vQ h.ok,GU ha.ok,gY,aeW,bY (n:=(m.bh.length:Int)-1) oaa,hz]
 rw[show inR s.bC 0 ((m.bh.length:Int)-1)=ia m s.bC from rfl,hin]
 simp only[aeW,acX hpp hm.2,hr,K4]
theorem page_i(hp:POK s.fJ)(hm:1<=m.bh.length/\m.bh.length<=1000):uW s a m=ς (K4 s a m):=by
 have hin:(bif ia m s.bC then(aeP (Gp m s.bC) λr3=>ς r3) else ς 0)=ς (mA m s.bC):=by
  rw[mA]
  cases hc:ia m s.bC
  .rfl
  obtain⟨d,_,h1,h2⟩:=CB hc
  simp only[Gp,D5 (show m.bh.length<=1048576 by omega),hc,h1,h2,au]
 have hpp:POK {s.fJ with eO:=mA m s.bC}:=⟨hp.a,hp.w⟩
 have hr:=KR (L:=zk (yA {s.fJ with eO:=mA m s.bC} m)) _ (by have:=E6 (p:={s.fJ with eO:=mA m s.bC}) hm.2;omega) (λv r=>rfl)
 simp only[uW,D5 (show m.bh.length<=1048576 by omega),hin,aeW,acW hpp hm.2,hr,K4]
def fA(s:ag)(a:aj):aj×cq:=bif leB s.fr.dR s.bM.et then lL a s.bM else(a,s.bM)
def Jz(s:ag):Bool:=ltB 0 (s.aC.ar.length:Int)
def jI(s:ag):Int:=bif Jz s then mp 5 (s.dy+1) else 0
def oh(s:ag):List am×Int:=bif Jz s&&ltB 0 s.du then([],s.du-1) else bif Jz s then(Cw s,3) else([],s.du)
def TU(s:ag)(a:aj)(m:aU):bk:=
 let g:=fA s a
 let t:=g7 2 {s with dy:=jI s,du:=(oh s).2,bM:=g.2} g.1 []
 ⟨t.1,t.2.1,[],(oh s).1++t.2.2⟩
def uk(s:ag)(a:aj)(m:aU):bk:=
 bif !eqB s.bF 1 then⟨s,a,[],[]⟩ else bif ltB 4 (jI s) then K4 {s with dy:=jI s,bM:=(fA s a).2} (fA s a).1 m else TU s a m
theorem NV(h:SG s a):MOK (fA s a).1 (fA s a).2/\(fA s a).2.cH-(fA s a).2.et=s.bM.cH-s.bM.et/\(fA s a).2.ax=s.bM.ax/\(fA s a).1.eW+(fA s a).2.et=a.eW+s.bM.et/\(fA s a).1.gu=a.gu/\(fA s a).1.bB=a.bB:=by
 rw[fA]
 cases leB s.fr.dR s.bM.et
 .exact⟨h.mo,rfl,rfl,rfl,rfl,rfl⟩
 obtain⟨h1,h2,h3,h4⟩:=VA h.mo
 simp only[cond_true]
 exact⟨h1,by simp[lL],rfl,by rw[h2];simp[lL],h3,h4⟩
theorem Dw(h:SP s):0<=jI s/\jI s<=5:=by
 have:=h.qu
 rw[jI];cases Jz s
 .simp
 simp only[cond_true,mp];omega
theorem DA(h:SP s):0<=(oh s).2/\(oh s).2<=3:=by
 have:=h.rt
 rw[oh];cases Jz s
 .exact this
 cases hb:ltB 0 s.du
 .simp
 have:=zv hb
 simp;omega
theorem SG.upd(h:SG s a){q r:Int}(hq:0<=q/\q<=5)(hr:0<=r/\r<=3):SG {s with dy:=q,du:=r,bM:=(fA s a).2} (fA s a).1:=by
 obtain⟨h1,h2,_⟩:=NV h
 have hp:=h.sp.pd
 exact⟨{h.sp with q:=h1.quo,qu:=hq,rt:=hr,pd:=by simp_all},h.b1,h.b2,h1⟩
theorem Uo(s:ag):(Cw s).length<=2:=by
 rw[Cw];grind
theorem EQ(s:ag):(oh s).1.length<=2:=by
 have:=Uo s
 rw[oh];grind
theorem A3:∀(k:Nat) (s:ag) (a:aj) (r:List am),(g7 k s a r).2.2.length<=r.length+k
 |0,s,a,r=>by simp[g7]
 |k+1,s,a,r=>by
  rw[g7]
  cases wm s with
  |none=>simp
  |some x=>
   simp only
   cases ltB 0 (pc (dB s a (x.be.length:Int)).1 (x.be.length:Int))
   .have:=A3 k {(dB s a (x.be.length:Int)).1 with aC:=Bj (dB s a (x.be.length:Int)).1.aC x.be} (dB s a (x.be.length:Int)).2 (r++[wE (dB s a (x.be.length:Int)).1.bp (dB s a (x.be.length:Int)).1.av (dB s a (x.be.length:Int)).1.a8 ⟨(dB s a (x.be.length:Int)).1.aC.bw,x.be⟩])
    grind
   simp_all
theorem acZ(h:SG s a)(hm:1<=m.bh.length/\m.bh.length<=1000)(hp:POK s.fJ):sP s a m=ς (uk s a m):=by
 have hz:({bU with aX:=s,eu:=a}:bk)=⟨s,a,[],[]⟩:=rfl
 have hqu:=h.sp.qu
 have hrt:=h.sp.rt
 simp only[sP,Ai,ut,vQ h.sp.ok,GU h.mo.acc.ok,EW h.sp.ok,(Ad h.sp.ok).2 h.sp,aeW,hz,uk]
 cases hs:eqB s.bF 1
 .rfl
 have hst:=CH hs
 have hq:=Dw h.sp
 have hr:=DA h.sp
 have hqq:∀(k:Int->Option bk),(aeP (bif ltB 0 (s.aC.ar.length:Int) then(aeP (Pw 5 (WR (s.dy+1))) λr9=>ς r9) else ς 0) k)=k (jI s):=λk=>by
  rw[jI,Jz,bY (n:=s.dy+1) oaa,Tl]
  grind
 have hrr:∀(u:cq) (k:List am×Int->Option bk),SG {s with dy:=jI s,du:=3,bM:=u} (fA s a).1->
  (aeP (bif ltB 0 (s.aC.ar.length:Int) then ς (ltB 0 s.du) else ς η) λ(v11:Bool)=>aeP (bif v11 then(ς (([]:List am),WR (s.du-1))) else(aeP (bif ltB 0 (s.aC.ar.length:Int) then(aeP (oi {s with dy:=jI s,du:=3,bM:=u}) λr16=>ς (r16,3)) else(ς (([]:List am),s.du))) λx=>ς (x.1,x.2))) k)=k ((oh s).1,(oh s).2):=λu k hu=>by
  rw[oh,Jz,bY (n:=s.du-1) oaa,aa0 hu]
  cases ltB 0 (s.aC.ar.length:Int)<;>cases ltB 0 s.du<;>rfl
 have hl:c8 64 ((oh s).1++(g7 2 {s with dy:=jI s,du:=(oh s).2,bM:=(fA s a).2} (fA s a).1 []).2.2).length=true:=by
  have h1:=EQ s
  have h2:=A3 2 {s with dy:=jI s,du:=(oh s).2,bM:=(fA s a).2} (fA s a).1 []
  simp only[afk] at h2
  exact cy oaa (by simp;omega)
 have hu:=h.upd hq (show(0:Int)<=3/\(3:Int)<=3 by omega)
 have hv:=h.upd hq hr
 have hw:=h.upd hq h.sp.rt
 have hpp:POK ({s with dy:=jI s,bM:=(fA s a).2}:ag).fJ:=hp
 have e1:=page_s (s:={s with dy:=jI s,bM:=(fA s a).2}) hw.sp hw.mo.acc hpp hm
 have e2:=VY hv hst
 rw[fA] at hu e1 e2 hl
 simp only[au]
 rw[TU,fA]
 cases hg:leB s.fr.dR s.bM.et
 .rw[hg] at hu e1 e2 hl
  simp only[cond_false] at hu e1 e2 hl ⊢
  have hu':=hrr s.bM
  rw[fA,hg] at hu'
  rw[hqq]
  cases ltB 4 (jI s)
  .simp_all
  simp_all
 rw[hg] at hu e1 e2 hl
 simp only[cond_true] at hu e1 e2 hl ⊢
 have hu':=hrr (lL a s.bM).2
 rw[fA,hg] at hu'
 simp only[Zg h.mo,aeW]
 rw[hqq]
 cases ltB 4 (jI s)
 .simp_all
 simp_all
theorem U1(x y:Int):mp x y=mp y x:=by unfold mp;omega
theorem acY(h:SG s a)(hm:1<=m.bh.length/\m.bh.length<=1000)(hp:POK s.fJ):sv s a m=ς (uk s a m):=by
 have hz:({bU with aX:=s,eu:=a}:bk)=⟨s,a,[],[]⟩:=rfl
 have hqu:=h.sp.qu
 have hrt:=h.sp.rt
 simp only[sv,DG h.sp.ok,D3 h.mo.acc.ok,EV h.sp.ok,(Ad h.sp.ok).2 h.sp,hz,uk,au]
 cases hs:eqB s.bF 1
 .rfl
 have hst:=CH hs
 have hq:=Dw h.sp
 have hr:=DA h.sp
 have hu:=h.upd hq (show(0:Int)<=3/\(3:Int)<=3 by omega)
 have hv:=h.upd hq hr
 have hgr:(bif leB s.fr.dR s.bM.et then(aeP (oL a s.bM) λr14=>ς ({s with bM:=r14.2},r14.1)) else ς (s,a))=ς ({s with bM:=(fA s a).2},(fA s a).1):=by
  rw[fA,Zf h.mo];cases leB s.fr.dR s.bM.et<;>rfl
 have hqq:(bif ltB 0 (s.aC.ar.length:Int) then(aeP (UH (WR (s.dy+1)) 5) λr9=>ς r9) else ς 0)=ς (jI s):=by
  rw[jI,Jz,bY (n:=s.dy+1) oaa,Yo,U1]
  cases ltB 0 (s.aC.ar.length:Int)<;>rfl
 have hl:c8 64 ((oh s).1++(g7 2 {s with dy:=jI s,du:=(oh s).2,bM:=(fA s a).2} (fA s a).1 []).2.2).length=true:=by
  have h1:=EQ s
  have h2:=A3 2 {s with dy:=jI s,du:=(oh s).2,bM:=(fA s a).2} (fA s a).1 []
  simp only[afk] at h2
  exact cy oaa (by simp;omega)
 have hpp:POK ({s with dy:=jI s,bM:=(fA s a).2}:ag).fJ:=hp
 have e1:=page_i (s:={s with dy:=jI s,bM:=(fA s a).2}) (a:=(fA s a).1) hpp hm
 have e2:=VX hv hst
 simp only[hgr,hqq,au]
 cases ltB 4 (jI s)
 .simp only[cond_false,TU]
  have hrr2:∀(k:List am×Int->Option bk),(aeP (bif ltB 0 (s.aC.ar.length:Int) then ς (ltB 0 s.du) else ς η) λ(v11:Bool)=>aeP (bif v11 then(ς (([]:List am),WR (s.du-1))) else(aeP (bif ltB 0 (s.aC.ar.length:Int) then(aeP (qO {s with dy:=jI s,du:=3,bM:=(fA s a).2}) λr16=>ς (r16,3)) else(ς (([]:List am),s.du))) λx=>ς (x.1,x.2))) k)=k (oh s):=λk=>by
   rw[oh,Jz,bY (n:=s.du-1) oaa,aaZ hu]
   cases ltB 0 (s.aC.ar.length:Int)<;>cases ltB 0 s.du<;>rfl
  simp_all
 simp only[e1,au]
 rfl
structure RP(r:aB):Prop where
 ok:dM r
 v:pI r=ζ
 b1:∀x∈r.aA,okB x.be
 b2:∀p∈r.aY,okB p.be
structure DP(d:aF):Prop where
 card:yB d.ea=ζ
 st:0<=d.bF/\d.bF<=3
 ce:0<=d.bC/\d.bC<=5
 gn:0<=d.av/\d.av<=999999
 ep:0<=d.a8/\d.a8<=999999
 rk:0<=d.bp/\d.bp<=2147483646
 k:2<=d.bF->vR d.bp=ζ
 wt:0<=d.eG/\d.eG<=3
 rc:RP d.ct
theorem DP.ok{d:aF}(h:DP d):dD d:=h.rc.ok
theorem DP.of{d:aF}(h:sW d=ζ)(ok:dD d)(b1:∀x∈d.ct.aA,okB x.be)(b2:∀p∈d.ct.aY,okB p.be):DP d:=by
 simp only[sW,f4,cT] at h
 obtain⟨h1,h2,h3,h4,h5,h6,h7,h8,h9⟩:=h
 refine⟨h1,h2,h3,h4,h5,h6,λe=>?_,h8,⟨ok,h9,b1,b2⟩⟩
 rw[cT.2 ⟨e,h2.2⟩] at h7;simp_all
theorem Xf{d:aF}(h:DP d):DP (uD d).bS:=by
 have hw:=h.wt
 rw[uD]
 cases hb:ltB 0 d.eG
 .cases eqB d.bF 1
  .cases eqB d.bF 2&&!d.bR
   .exact h
   exact {h with wt:=⟨by simp,by simp⟩}
  exact {h with wt:=⟨by simp,by simp⟩}
 have:=zv hb
 exact {h with wt:=⟨by grind,by grind⟩}
theorem Sl{d:aF}(h:DP d):DP (BF d).bS:={h with wt:=⟨by simp[BF],by simp[BF]⟩}
theorem Ue{k r q:Int}(h0:0<=q)(h1:q<=999999):1<=(vec k r q).f9/\(vec k r q).f9<=2147483646:=by
 rw[vec,cT.2 ⟨h0,h1⟩];exact ab4 _ _
theorem AW{m:aD}(h:pe m=ζ):(1<=m.eb/\m.eb<=8)/\(0<=m.bC/\m.bC<=5)/\(0<=m.av/\m.av<=999999)/\(0<=m.a8/\m.a8<=999999)/\0<=m.cj/\m.cj<=1000000000000:=by
 simp only[pe,f4,cT] at h;exact h
theorem aba{d:aF}(h:DP d){m:aD}(hm:pe m=ζ)(h1:d.bF=1):DP (NG d m).bS:=by
 obtain⟨_,_,hg,_⟩:=AW hm
 have hu:=RL d.ea.f9 m.cW.ei m.cW.gL
 have hk:=Ue (k:=d.ea.f9) (r:=m.cW.ei) hu.1 hu.2
 rw[NG]
 cases eqB (Am d.ea.f9 d.ea.d7 m.cW) 0
 .exact h
 refine {h with card:=?_,gn:=hg,rk:=⟨by grind,by simp_all⟩,k:=λe=>by simp_all}
 have hc:=h.card
 simp only[yB,f4] at hc ⊢
 exact⟨hc.1,hc.2.1,cT.2 hu⟩
theorem abc{d:aF}(h:DP d)(m:aD):DP (Ea d m).bS:=by
 have he:=h.ep
 rw[Ea]
 cases h1:!pe m||(!eqB m.bC d.bC||eqB d.bF 0)
 .have hm:pe m=true:=by revert h1;cases pe m<;>simp
  obtain⟨_,_,hg,hep,_⟩:=AW hm
  simp only[cond_false]
  cases h2:eqB m.eb 2&&eqB d.bF 1
  .simp only[cond_false]
   cases h4:eqB m.eb 4&&(eqB d.bF 1&&(vR d.bp&&(eqB m.av d.av&&yN d.bp m)))
   .simp only[cond_false]
    cases h6:eqB m.eb 6&&(eqB d.bF 2&&(eqB m.av d.av&&(eqB m.a8 d.a8&&yN d.bp m)))
    .simp only[cond_false]
     cases h7:eqB m.eb 7&&(eqB d.bF 3&&ltB d.a8 999999)
     .simp only[cond_false]
      cases h8:eqB m.eb 7&&eqB d.bF 2
      .exact h
      exact Sl h
     simp only[f4] at h7
     have h3:=CH h7.2.1
     have:=zv h7.2.2
     exact Sl {h with st:=⟨by simp,by simp⟩,ep:=⟨by grind,by grind⟩,k:=λ_=>h.k (by omega)}
    exact {h with}
   simp only[f4] at h4
   exact {h with st:=⟨by simp,by simp⟩,ep:=hep,k:=λ_=>h4.2.2.1}
  rw[f4] at h2
  exact aba h hm (CH h2.2)
 exact h
theorem Hb:∀(xs:List ab) (n:Int) (dl:List aP),∃t d,xs=t++d/\tl xs n dl=⟨n+t.length,d,dl++t.map λx=>⟨x.be⟩⟩/\(∀(k:Nat) (x:ab),t[k]?=ς x->x.df=n+k)/\((∃y ys,d=y::ys/\(y.df≠n+t.length\/24<=dl.length+t.length))\/d=[])/\(t≠[]->dl.length+t.length<=24)
 |[],n,dl=>⟨[],[],rfl,by simp[tl],by simp,.inr rfl,by simp⟩
 |x::xs,n,dl=>by
  rw[tl]
  by_cases h:x.df=n/\dl.length<24
  .rw[if_pos h]
   obtain⟨t,d,e1,e2,e3,e4,e5⟩:=Hb xs (n+1) (dl++[⟨x.be⟩])
   refine⟨x::t,d,by rw[e1];rfl,?_,λk y hy=>?_,?_,λ_=>?_⟩
   .rw[e2];simp;omega
   .cases k with
    |zero=>simp_all
    |succ k=>grind
   .grind
   simp only[acn]
   by_cases ht:t=[]
   .grind
   grind
  rw[if_neg h]
  refine⟨[],x::xs,rfl,by simp,by simp,.inl ⟨x,xs,rfl,?_⟩,by simp⟩
  grind
structure RcV(r:aB):Prop where
 n:r.bw=(r.aY.length:Int)+1
 l:r.aY.length<=24
 d:∀p∈r.aY,p.be.length<=60
 pl:r.aA.length<=8
 pr:∀x∈r.aA,r.bw+1<=x.df/\x.df<=r.bw+7/\x.be.length<=60
 po:r.aA.Pairwise λx y=>x.df<y.df
theorem Zq:pI r=ζ↔RcV r:=by
 constructor
 .intro h
  have hl:=s6 h
  simp only[pI,f4,Gh,aa4,uJ,gN] at h
  obtain⟨h1,h2,h3,h4,h5⟩:=h
  have hp:∀(k:Nat) (x:ab),r.aA[k]?=ς x->(r.bw+1<=x.df/\x.df<=r.bw+7)/\jP ab.df r.aA k x=ζ/\x.be.length<=60:=λk x hx=>by
   have:=h5 k x hx
   simp only[Dn,f4,cT,uJ] at this
   rw[bY (n:=r.bw+1) oaa,bY (n:=r.bw+8) oaa,bY (n:=r.bw+8-1) oaa] at this
   grind
  refine⟨hl.1,hl.2.1,h3,hl.2.2,λx hx=>?_,Ka λk x hx=>(hp k x hx).2.1⟩
  obtain⟨k,hk⟩:=ac7 hx
  grind
 rintro⟨h1,h2,h3,h4,h5,h6⟩
 simp only[pI,f4,Gh,aa4,uJ,gN]
 refine⟨eqB_t.2 (by rw[bY oaa];exact h1),leB_t.2 oaa,h3,leB_t.2 oaa,λk x hx=>?_⟩
 have:=h5 x (v0 hx)
 simp only[Dn,f4,cT,uJ]
 rw[bY (n:=r.bw+1) oaa,bY (n:=r.bw+8) oaa,bY (n:=r.bw+8-1) oaa]
 exact⟨by omega,Tx h6 hx,this.2.2⟩
theorem R6{α:Type}{key:α->Int}:∀{xs:List α} {a b:Int},(xs.Pairwise λx y=>key x<key y)->(∀x∈xs,a<=key x/\key x<=b)->(xs.length:Int)<=max 0 (b-a+1)
 |[],a,b,_,_=>by simp;omega
 |x::xs,a,b,h,hr=>by
  have hx:=hr x (by simp)
  have ih:=R6 (xs:=xs) (a:=key x+1) (b:=b) (ae2.1 h).2 λy hy=>⟨by have:=(ae2.1 h).1 y hy;omega,(hr y (by simp[hy])).2⟩
  grind
theorem dw_ge{x:ab}:∀{xs:List ab},(xs.Pairwise λa b=>a.df<b.df)->∀y∈xs.dropWhile (before x.df),x.df<=y.df
 |[],_,y,hy=>by simp at hy
 |z::xs,h,y,hy=>by
  rw[afx] at hy
  cases hb:before x.df z<;>rw[hb] at hy
  .have hz:=Dc hb
   rcases aa2.1 hy with e|hy
   .simp_all
   have:=(ae2.1 h).1 y hy;omega
  exact dw_ge (ae2.1 h).2 y hy
theorem aaa{α:Type}(p:α->Bool):∀(xs:List α) (y:α),y∈xs.takeWhile p->p y=ζ
 |[],y,h=>by simp at h
 |x::xs,y,h=>by
  rw[ae9] at h
  cases hp:p x<;>rw[hp] at h
  .simp at h
  rcases aa2.1 h with e|h
  .simp_all
  exact aaa p xs y h
theorem tw_lt{q:Int}{xs:List ab}:∀y∈xs.takeWhile (before q),y.df<q:=λy hy=>zv (show ltB y.df q=ζ from aaa (before q) xs y hy)
theorem X5{xs:List ab}(h:xs.Pairwise λa b=>a.df<b.df)(hn:∀y∈xs,y.df≠x.df):(sD x xs).Pairwise λa b=>a.df<b.df:=by
 have e:=afe (p:=before x.df) (l:=xs)
 rw[<-e,ae7] at h
 obtain⟨h1,h2,h3⟩:=h
 rw[sD,afj,ae7]
 refine⟨h1,ae2.2 ⟨λy hy=>?_,h2⟩,λa ha b hb=>?_⟩
 .have hm:y∈xs:=afn _ hy
  have:=hn y hm
  have hge:x.df<=y.df:=by
   have hs:xs.Pairwise λa b=>a.df<b.df:=by rw[<-e,ae7];exact⟨h1,h2,h3⟩
   exact dw_ge hs y hy
  omega
 rcases aau.1 hb with hb|hb
 .simp at hb;subst hb;exact tw_lt a ha
 simp_all
theorem HR{y:ab}{xs:List ab}:y∈sD x xs↔y=x\/y∈xs:=by
 rw[sD]
 constructor
 .intro h
  simp only[aau,ad9] at h
  rcases h with(h|h)|h
  .exact .inr (afu _ h)
  .exact .inl h
  exact .inr (afn _ h)
 rintro(h|h)
 .simp[h]
 rw[<-afe (p:=before x.df) (l:=xs)] at h
 grind
theorem RG(h:RcV r)(hl:Be r x=η):
 ∃t d,sD x r.aA=t++d/\(∀(k:Nat) (y:ab),t[k]?=ς y->y.df=r.bw+k)/\(rh r x).bw=r.bw+t.length/\(rh r x).aY=r.aY++t.map (λy=>⟨y.be⟩)/\RcV (rh r x)/\
  ((rh r x).aA=d\/(rh r x).aA=[])/\r.aY.length+t.length<=24/\(x.df=r.bw->t≠[]):=by
 obtain⟨t,d,e1,e2,e3,e4,e5⟩:=Hb (sD x r.aA) r.bw r.aY
 have hl2:=hl
 simp only[Be,adc,afa] at hl
 obtain⟨l1,l2,l3,l4,l5⟩:=hl
 have l2:=Dc l2
 rw[cT] at l3
 have l5:=FQ l5
 have hn:∀y∈r.aA,y.df≠x.df:=λy hy=>by
  simp_all
 have hasc:=X5 h.po hn
 have hrng:∀y∈sD x r.aA,r.bw<=y.df/\y.df<=r.bw+7/\y.be.length<=60:=λy hy=>by
  rcases HR.1 hy with rfl|hy
  .omega
  have:=h.pr y hy;omega
 have hlen:=R6 (key:=ab.df) hasc (a:=r.bw) (b:=r.bw+7) λy hy=>⟨(hrng y hy).1,(hrng y hy).2.1⟩
 have htl:r.aY.length+t.length<=24:=by
  by_cases ht:t=[]
  .grind
  exact e5 ht
 have hd:∀y∈d,r.bw+t.length<=y.df:=λy hy=>by
  by_cases ht:t=[]
  .simp_all
  obtain⟨k,hk⟩:∃k,t.length=k+1:=⟨t.length-1,by have:=List.length_pos_iff.2 ht;omega⟩
  grind
 have hdl:(r.aY++t.map λy=>(⟨y.be⟩:aP)).length=r.aY.length+t.length:=by simp
 have hdata:∀p∈r.aY++t.map λy=>(⟨y.be⟩:aP),p.be.length<=60:=λp hp=>by
  rcases aau.1 hp with hp|hp
  .exact h.d p hp
  obtain⟨y,hy,rfl⟩:=adP.1 hp
  simp_all
 have hnx:=h.n
 have hsome:x.df=r.bw->t≠[]:=λe ht=>by
  subst ht
  simp only[adT] at e1
  rcases e4 with⟨y,ys,e,h4⟩|e
  .simp only[afk] at h4
   have hy:y.df<=x.df:=by
    have hx:x∈d:=by rw[<-e1];exact HR.2 (.inl rfl)
    rw[e] at hx
    rcases aa2.1 hx with e'|hx
    .simp_all
    rw[e1,e] at hasc
    have:=(ae2.1 hasc).1 x hx
    omega
   grind
  have:(sD x r.aA).length=0:=by rw[e1,e];rfl
  rw[zi] at this;omega
 refine⟨t,d,e1,e3,?_⟩
 rw[rh,hl2]
 simp only[cond_false,e2,hdl]
 cases h24:leB 24 ((r.aY.length+t.length:Nat):Int)
 .have h24:=FQ h24
  simp only[cond_false]
  refine⟨θ,θ,⟨by grind,by simp_all,hdata,?_,λy hy=>?_,?_⟩,.inl trivial,htl,hsome⟩
  .grind
  .have h1:=hrng y (by simp_all)
   have h2:=hd y hy
   refine⟨?_,by grind,h1.2.2⟩
   simp only
   rcases e4 with⟨z,zs,e,h4⟩|e
   .have hz:=hd z (by rw[e];simp)
    have hzn:z.df≠r.bw+t.length:=by rcases h4 with h4|h4;exact h4;omega
    rw[e] at hy
    rcases aa2.1 hy with e'|hy'
    .grind
    rw[e1,e,ae7] at hasc
    have:=(ae2.1 hasc.2.1).1 y hy'
    omega
   simp_all
  grind
 have h24:=BU h24
 simp only[cond_true]
 exact⟨θ,θ,⟨by grind,by simp_all,hdata,by simp,by simp,.nil⟩,.inr trivial,htl,hsome⟩
theorem ZW(h:RP r)(hx:okB x.be):RP (rh r x):=by
 cases hl:Be r x
 .have hv:=Zq.1 h.v
  obtain⟨t,d,e1,e3,e4,e5,e6,e7,e8,e9⟩:=RG hv hl
  have hb:∀y∈t++d,okB y.be:=λy hy=>by
   rw[<-e1] at hy
   rcases HR.1 hy with rfl|hy
   .exact hx
   exact h.b1 y hy
  refine⟨PG h.ok x,Zq.2 e6,λy hy=>?_,λp hp=>?_⟩
  .grind
  rw[e5] at hp
  rcases aau.1 hp with hp|hp
  .exact h.b2 p hp
  grind
 rw[rh,hl];exact h
theorem YO(root g e:Int)(x:am):okB (zG root g e x).1.be:=by
 rw[zG];split
 .exact abf _ _
 intro y hy;simp[bE] at hy
theorem abb{d:aF}(h:DP d)(x:am):DP (D9 d x).bS:=by
 simp only[D9]
 cases eqB d.bF 2&&(zG d.bp d.av d.a8 x).2
 .exact h
 exact {h with rc:=ZW h.rc (YO _ _ _ _)}
theorem zPage:lx eA=true:=by decide+kernel
theorem Kr{k:Int}:∀{xs:List ab} {f:Int},(∀(i:Nat) (x:ab),xs[i]?=ς x->x.df=f+i)->(xs.filter λx=>leB k x.df)=xs.drop (k-f).toNat
 |[],f,_=>by simp
 |x::xs,f,h=>by
  have hx:x.df=f:=by have:=h 0 x rfl;simpa using this
  have ih:=Kr (k:=k) (xs:=xs) (f:=f+1) λi y hy=>by have:=h (i+1) y (by simp_all);omega
  rw[afC,hx]
  by_cases hk:k<=f
  .rw[leB_t.2 hk,if_pos rfl,ih,show(k-f).toNat=0 by omega,show(k-(f+1)).toNat=0 by omega];rfl
  rw[leB_f.2 oaa,if_neg (by simp),ih,show(k-f).toNat=(k-(f+1)).toNat+1 by omega];rfl
theorem Un(h:WOK w){k:Int}(hk:ltB w.bw k=η):ot w k=⟨w.bw,w.ar.drop (k-(w.bw-w.ar.length)).toNat⟩:=by
 rw[ot,hk,Kr (f:=w.bw-w.ar.length) λi x hx=>(h.u i x hx).1];rfl
theorem Ni(h:WOK w)(k:Int):WOK (ot w k):=by
 cases hk:ltB w.bw k
 .have hl:=h.l
  have hf:=h.f
  have hn:=h.n
  rw[Un h hk]
  generalize (k-(w.bw-w.ar.length)).toNat=m
  refine⟨hn,by simp;omega,by simp;omega,λi x hx=>?_⟩
  simp only at hx ⊢
  rw[List.getElem?_drop] at hx
  have hi:=(f5.1 hx).1
  have:=h.u _ x hx
  grind
 rw[ot,hk];exact h
theorem GV(w:aG)(k:Int):∀x∈(ot w k).ar,x∈w.ar:=λx hx=>by
 rw[ot] at hx;grind
theorem WO(h:WOK w)(k:Int):0<=it (ot w k).ar/\it (ot w k).ar<=it w.ar:=by
 have h1:=yk λx hx=>h.d x (GV w k x hx)
 refine⟨h1.1,?_⟩
 cases hk:ltB w.bw k
 .have:=Lm h hk
  have h2:=yk (xs:=w.ar.filter λx=>ltB x.df k) λx hx=>h.d x (afl.1 hx).1
  omega
 rw[ot,hk];simp_all
theorem Qk{n:Int}(h:0<=n/\n<=q.cH-q.et):uB q n={q with et:=q.et+n}:=by rw[uB,cT.2 h];rfl
theorem VJ(h:SG s a)(k:Int):SG (pf s k) a/\(pf s k).bM={s.bM with et:=s.bM.et+(it s.aC.ar-it (ot s.aC k).ar)}:=by
 have hs:=WO h.sp.win k
 have hp:=h.sp.pd
 have hq:=h.sp.q
 have e:(pf s k).bM={s.bM with et:=s.bM.et+(it s.aC.ar-it (ot s.aC k).ar)}:=Qk ⟨by omega,by omega⟩
 have hu:=hq.u
 have hg:=hq.g
 have hq':QOK (pf s k).bM:=by rw[e];exact⟨hq.i,by grind,by grind,hq.m⟩
 refine⟨⟨{h.sp with ok:=⟨h.sp.ok.1,h.sp.ok.2.1,(Ni h.sp.win k).ok⟩,win:=Ni h.sp.win k,q:=hq',qu:=⟨by simp[pf],by simp[pf]⟩,nx:=?_,un:=λx hx=>h.sp.un x (GV _ _ x hx),pd:=?_},h.b1,λx hx=>h.b2 x (GV _ _ x hx),⟨h.mo.acc,hq',?_⟩⟩,e⟩
 .have:(pf s k).aC.bw=s.aC.bw:=by simp only[pf,ot];cases ltB s.aC.bw k<;>rfl
  rw[this];exact h.sp.nx
 .rw[e];simp only[pf];omega
 rw[e];exact h.mo.res
theorem acC(h:SG s a)(m:aD):SG (Pt s m).aX a:=by
 have hr:=Mz h.sp.rcd
 simp only[Pt]
 cases he:eqB s.bO.df 999999
 .have he:=XA he
  have hk:=Ue (k:=s.bO.f9) (r:=Qj s.bO.ID (s.bO.df+1)) (q:=s.bO.df+1) oaa oaa
  refine⟨{h.sp with rcd:=?_,k2:=λ_=>?_,ps:=⟨by grind,by grind⟩},h.b1,h.b2,h.mo⟩
  .have hc:=h.sp.rcd
   simp only[E9,f4] at hc
   simp only[cond_false,E9,f4]
   exact⟨hc.1,hc.2.1,cT.2 oaa⟩
  exact cT.2 hk
 exact h
theorem acB(h:SG s a){c:Int}(hc:0<=c/\c<=5)(hp:0<s.bN)(he:s.a8<999999):SG (zY s c) a:=by
 have hk:=h.sp.k2 hp
 have hkr:=cT.1 hk
 have hep:=h.sp.ep
 exact⟨{h.sp with page:=zPage,st:=⟨by simp[zY],by simp[zY]⟩,k1:=λ_=>hk,k2:=λe=>by simp[zY] at e,ps:=⟨by simp[zY],by simp[zY]⟩,gn:=h.sp.ps,ep:=⟨by simp only[zY];omega,by simp only[zY];omega⟩,rk:=⟨by simp only[zY];omega,by simp only[zY];omega⟩,ce:=hc,qu:=⟨by simp[zY],by simp[zY]⟩},h.b1,h.b2,h.mo⟩
theorem ZA(h:SG s a){m:aD}(hm:pe m=ζ):SG (Ft s m).aX a:=by
 obtain⟨_,hc,_⟩:=AW hm
 rw[Ft]
 cases hb:leB s.bN 0||(!eqB m.av s.bN||(!eqB m.cj s.aA.D0||leB 999999 s.a8))
 .simp only[adc] at hb
  exact acB h hc (FQ hb.1) (FQ hb.2.2.2)
 exact h
theorem Zy(h:SG s a){m:aD}(hm:pe m=ζ):SG (Fs s m).aX a:=by
 obtain⟨_,hc,_,he,_⟩:=AW hm
 rw[Fs]
 cases !yw s m||(ltB m.a8 s.a8||(eqB m.a8 s.a8&&!eqB m.bC s.bC))
 .exact⟨{h.sp with page:=zPage,ep:=he,ce:=hc,qu:=⟨by simp[xU],by simp[xU]⟩,rt:=⟨by simp[xU],by simp[xU]⟩},h.b1,h.b2,h.mo⟩
 exact h
theorem acA(h:SG s a)(m:aD):SG (Ps s m).aX a:=by
 rw[Ps]
 cases !yw s m||ltB s.aC.bw m.cj
 .exact(VJ h m.cj).1
 exact h
theorem sUp_SG(h:SG s a)(m:aD):SG (sUp s m).aX a:=by
 rw[sUp]
 cases hm:pe m
 .exact h
 cases eqB m.eb 1
 .cases eqB m.eb 3
  .cases eqB m.eb 5
   .cases eqB m.eb 8
    .exact h
    exact acA h m
   exact Zy h hm
  exact ZA h hm
 exact acC h m
theorem Z0(ha:0<=p.eO/\p.eO<=2)(hp:POK p)(m:aU):lx (yA p m).1=true:=by
 have h1:=hp.a
 have h2:=hp.w
 rw[yA]
 simp only[lx,f4,cT]
 cases hb:ltB 0 p.eG
 .simp only[cond_false]
  refine⟨ha,?_,by omega⟩
  cases hc:ltB p.em 4
  .simp
  have:=zv hc
  grind
 have:=zv hb
 grind
theorem It(h:lx p=ζ):POK p:=by
 simp only[lx,f4,cT] at h;exact⟨h.2.1,h.2.2⟩
theorem Uq(h:DW m=ζ)(c:Int):0<=mA m c/\mA m c<=2:=by
 rw[mA]
 cases hc:ia m c
 .simp
 obtain⟨d,_,_,h2⟩:=CB hc
 simp only[DW,f4,gN] at h
 have:=h.2 _ d h2
 simp only[Fy,f4,cT] at this
 simp_all
theorem ZE(h:SG s a)(hm:DW m=ζ):SG (uk s a m).aX (uk s a m).eu:=by
 rw[uk]
 cases eqB s.bF 1
 .exact h
 simp only[au]
 have hq:=Dw h.sp
 cases ltB 4 (jI s)
 .exact PA 2 _ _ _ (h.upd hq (DA h.sp))
 have h1:=h.upd hq h.sp.rt
 have hp:=It h.sp.page
 exact⟨{h1.sp with page:=Z0 (p:={s.fJ with eO:=mA m s.bC}) (Uq hm _) ⟨hp.a,hp.w⟩ m},h1.b1,h1.b2,h1.mo⟩
structure FP(nd nc:Nat)(f:a9):Prop where
 d:0<=f.bS/\f.bS<nd
 c:0<=f.bC/\f.bC<nc
 b:okB f.cF.bH.be
 ok:fP f
structure MP(nc:Nat)(i:Nat)(d:aF)(s:ag)(a:aj):Prop where
 dp:DP d
 dc:d.bC<nc
 sg:SG s a
 sc:s.bC<nc
 si:s.bM.ax=i
 ids:Qv d s=ζ
structure NP(B:Int)(n:ae):Prop where
 map:DW n.fH=ζ
 mok:ji n.fH
 core:Fz n.lA=ζ
 up:n.lA.jS≠0
 ld:n.aH.length<=4
 ls:n.aT.length=n.aH.length
 la:n.bu.length=n.aH.length
 m:∀(i:Nat) d s a,n.aH[i]?=ς d->n.aT[i]?=ς s->n.bu[i]?=ς a->MP n.fH.bh.length i d s a
 fl:n.aJ.length<=200
 fs:∀f∈n.aJ,FP n.aH.length n.fH.bh.length f
 dn:inR n.dK 0 (WR ((Nx .i64 1 (n.fH.bh.length:Int))-1))=ζ
 nw:0<=n.vU/\n.vU<=100000
 lo:B=B
theorem Dg(h:DW m=ζ):1<=m.bh.length/\m.bh.length<=6:=by
 simp only[DW,f4,cT] at h;omega
theorem NP.at_(h:NP B n){i:Nat}(hi:i<n.aH.length):∃d s a,n.aH[i]?=ς d/\n.aT[i]?=ς s/\n.bu[i]?=ς a/\MP n.fH.bh.length i d s a:=by
 have h1:=h.ls
 have h2:=h.la
 obtain⟨d,hd⟩:∃d,n.aH[i]?=ς d:=⟨_,hV hi⟩
 obtain⟨s,hs⟩:∃s,n.aT[i]?=ς s:=⟨_,hV (show i<n.aT.length by omega)⟩
 obtain⟨a,ha⟩:∃a,n.bu[i]?=ς a:=⟨_,hV (show i<n.bu.length by omega)⟩
 exact⟨d,s,a,hd,hs,ha,h.m i d s a hd hs ha⟩
theorem NP.mono{B':Int}(h:NP B n)(hb:B<=B'):NP B' n:={h with lo:=rfl}
def iy(n:ae)(f:a9):ae:=bif leB 200 (n.aJ.length:Int) then {n with my:=WR (n.my+1)} else {n with aJ:=n.aJ++[f]}
theorem Tp(hf:fP f):pF n f=ς (iy n f):=by
 simp only[pF,NO hf,aeW,iy]
 cases hb:leB 200 (n.aJ.length:Int)
 .have:=FQ hb
  rw[cy oaa (by simp;omega)];rfl
 rfl
theorem Mm(hf:fP f):yu n f=ς (iy n f):=by
 simp only[yu,Ku hf,aeW,iy]
 cases hb:leB 200 (n.aJ.length:Int)
 .have:=FQ hb
  rw[cy oaa (by simp;omega)];rfl
 rfl
theorem QO(h:NP B n)(hf:FP n.aH.length n.fH.bh.length f)(hB:B<4611686018427387904):NP (B+1) (iy n f):=by
 have hl:=h.lo
 rw[iy]
 cases hb:leB 200 (n.aJ.length:Int)
 .have hb:=FQ hb
  refine {h.mono (show B<=B+1 by omega) with fl:=by simp;omega,fs:=λg hg=>?_}
  rcases aau.1 hg with hg|hg
  .exact h.fs g hg
  simp_all
 exact {h.mono (show B<=B+1 by omega) with lo:=rfl}
theorem Di(n:ae)(f:a9):(iy n f).aH=n.aH/\(iy n f).aT=n.aT/\(iy n f).bu=n.bu/\(iy n f).fH=n.fH/\(iy n f).dK=n.dK/\(iy n f).lA=n.lA/\(iy n f).vU=n.vU:=by
 rw[iy];grind
def kL(n:ae)(l:List a9):ae:=l.foldl iy n
theorem um:∀(l:List a9) (n:ae),(kL n l).aH=n.aH/\(kL n l).aT=n.aT/\(kL n l).bu=n.bu/\(kL n l).fH=n.fH/\(kL n l).dK=n.dK/\(kL n l).lA=n.lA/\(kL n l).vU=n.vU
 |[],n=>⟨rfl,rfl,rfl,rfl,rfl,rfl,rfl⟩
 |f::l,n=>by
  have h1:=Di n f
  have h2:=um l (iy n f)
  have e:kL n (f::l)=kL (iy n f) l:=rfl
  simp_all
theorem Ac:∀(l:List a9) {B:Int} {n:ae},NP B n->(∀f∈l,FP n.aH.length n.fH.bh.length f)->B+l.length<4611686018427387904->NP (B+l.length) (kL n l)
 |[],B,n,h,_,_=>by simpa [kL] using h
 |f::l,B,n,h,hf,hB=>by
  simp only[acn] at hB ⊢
  have h1:=QO h (hf f (by simp)) oaa
  have hk:=Di n f
  have:=Ac l h1 (λg hg=>by simp_all) oaa
  rw[show B+((l.length+1:Nat):Int)=B+1+(l.length:Int) by omega]
  exact this
theorem AB(g:ae->a9->Option ae){α:Type}(mk:α->a9)(hg:∀n x,g n (mk x)=ς (iy n (mk x))):∀(l:List α) (n:ae),lB (λ(n:ae) x=>aeP (g n (mk x)) λr=>ς (bJ.next (ρ:=ae) r)) ς l n=ς (kL n (l.map mk))
 |[],n=>rfl
 |x::l,n=>by rw[lB,hg];exact AB g mk hg l _
def qa(i:Int)(up:Bool)(m:aD):a9:=⟨i,up,η,m.bC,m,kU⟩
def wx(i c:Int)(x:am):a9:=⟨i,η,ζ,c,gq,x⟩
theorem ac5:ik kU:=⟨by decide,λ_ _=>trivial⟩
theorem GK(i:Int)(up:Bool)(m:aD):fP (qa i up m):=ac5
theorem Rv(n:ae)(i:Int)(up:Bool){l:List aD}(hl:l.length<=1048576):lR n i up l=ς (kL n (l.map (qa i up))):=by
 have:=eg (step:=lS i up l) l (λk n=>((k:Int),n)) (λn x=>aeP (pF n (qa i up x)) λr=>ς (.next r)) ς oaa
  (λk x n hx hk=>by
   simp only[lS,ci hk,bz,hx,WRs (k:=k),qa,au]
   simp_all) (λn=>by simp[lS]) n
 rw[AB pF (qa i up) (λn x=>Tp (GK i up x))] at this
 rw[lR,show iter (lS i up l) FU (0,n)=_ from this];rfl
theorem Xn(n:ae)(i:Int){l:List aD}(hl:l.length<=1048576):je n i l=ς (kL n (l.map (qa i η))):=by
 have:=eg (step:=jD i l) l (λk n=>((k:Int),n)) (λn x=>aeP (yu n (qa i η x)) λr=>ς (.next r)) ς oaa
  (λk x n hx hk=>by
   simp only[jD,ci hk,bz,hx,WRs (k:=k),au]
   rw[show({jM with bS:=i,bC:=x.bC,cg:=x}:a9)=qa i η x from rfl]
   simp_all) (λn=>by simp[jD]) n
 rw[AB yu (qa i η) (λn x=>Mm (GK i η x))] at this
 rw[je,show iter (jD i l) FU (0,n)=_ from this];rfl
def ki(n:ae)(i:Nat)(r:aZ):ae:=kL {n with aH:=n.aH.set i r.bS} (r.dV.map (qa i ζ))
theorem IC{i:Nat}(hi:i<n.aH.length){r:aZ}(hr:r.dV.length<=1048576):lQ n (i:Int) r=ς (ki n i r):=by
 simp only[lQ,bz,hV hi,aeW,aeX,Rv _ _ _ hr,ki]
theorem IB{i:Nat}(hi:i<n.aH.length){r:aZ}(hr:r.dV.length<=1048576):iL n (i:Int) r=ς (ki n i r):=by
 have:=eg (step:=na (i:Int) r) r.dV (λk n=>((k:Int),n)) (λn x=>aeP (yu n (qa i ζ x)) λr=>ς (.next r)) ς oaa
  (λk x n hx hk=>by
   simp only[na,ci hk,bz,hx,WRs (k:=k),qa,au]
   simp_all) (λn=>by simp[na]) {n with aH:=n.aH.set i r.bS}
 rw[AB yu (qa (i:Int) ζ) (λn x=>Mm (GK _ ζ x))] at this
 simp only[iL,bz,hV hi,aeW,aeX,ki]
 simp_all
theorem MR{nd nc:Nat}{i:Nat}(hi:i<nd){up:Bool}{m:aD}(hm:0<=m.bC/\m.bC<nc):FP nd nc (qa i up m):=
 ⟨by simp only[qa];omega,hm,λx hx=>by simp[qa,kU,wO] at hx,GK _ _ _⟩
theorem LL{xs:List α}{i j:Nat}{x y:α}(h:(xs.set i x)[j]?=ς y):(i=j/\x=y)\/(i≠j/\xs[j]?=ς y):=by
 grind
theorem NP.setM(h:NP B n){i:Nat}{d:aF}(hm:MP n.fH.bh.length i d s a):
 NP B {n with aH:=n.aH.set i d,aT:=n.aT.set i s,bu:=n.bu.set i a}:=by
 have h1:=h.ls
 have h2:=h.la
 refine {h with ld:=by simpa using h.ld,ls:=by simp_all,la:=by simp_all,m:=λj d' s' a' hd hs ha=>?_,fs:=λf hf=>by rw[List.length_set];exact h.fs f hf}
 rcases LL hd with⟨e1,e2⟩|⟨e1,e2⟩<;>rcases LL hs with⟨e3,e4⟩|⟨e3,e4⟩<;>rcases LL ha with⟨e5,e6⟩|⟨e5,e6⟩<;>first|omega|skip
 .simp_all
 exact h.m j d' s' a' e2 e4 e6
theorem Ae{xs:List α}{i:Nat}{x:α}(h:xs[i]?=ς x):xs.set i x=xs:=by
 apply ae6
 grind
theorem NP.setD(h:NP B n){i:Nat}{d:aF}(hs:n.aT[i]?=ς s)(ha:n.bu[i]?=ς a)(hm:MP n.fH.bh.length i d s a):NP B {n with aH:=n.aH.set i d}:=by
 have:=h.setM hm
 rwa [Ae hs,Ae ha] at this
theorem NP.setS(h:NP B n){i:Nat}{d:aF}(hd:n.aH[i]?=ς d)(ha:n.bu[i]?=ς a)(hm:MP n.fH.bh.length i d s a):NP B {n with aT:=n.aT.set i s}:=by
 have:=h.setM hm
 rwa [Ae hd,Ae ha] at this
structure DK(c:Int)(d:aF)(r:aZ):Prop where
 id:r.bS.ea.ID=d.ea.ID
 key:r.bS.ea.f9=d.ea.f9
 cell:r.bS.bC=c
 sg:∀m∈r.dV,m.bC=c
 len:r.dV.length<=1
theorem DK.none(d:aF):DK d.bC d ⟨d,[]⟩:=⟨rfl,rfl,rfl,by simp,by simp⟩
theorem aa9(d:aF):DK d.bC d (BF d):=⟨rfl,rfl,rfl,by simp[BF,CF,Ck],by simp[BF]⟩
theorem Xe{d d':aF}(h:d'.ea=d.ea):DK d'.bC d (BF d'):=⟨by rw[<-h];rfl,by rw[<-h];rfl,rfl,by simp[BF,CF,Ck],by simp[BF]⟩
theorem G9(d:aF):DK d.bC d (uD d):=by
 rw[uD]
 cases ltB 0 d.eG<;>cases eqB d.bF 1<;>cases eqB d.bF 2&&!d.bR<;>exact⟨rfl,rfl,rfl,by simp[Sm,CF,Ck],by simp⟩
theorem Lz(d:aF)(m:aD):DK d.bC d (Ea d m):=by
 rw[Ea]
 cases !pe m||(!eqB m.bC d.bC||eqB d.bF 0)
 .simp only[cond_false]
  cases eqB m.eb 2&&eqB d.bF 1
  .simp only[cond_false]
   cases eqB m.eb 4&&(eqB d.bF 1&&(vR d.bp&&(eqB m.av d.av&&yN d.bp m)))
   .simp only[cond_false]
    cases eqB m.eb 6&&(eqB d.bF 2&&(eqB m.av d.av&&(eqB m.a8 d.a8&&yN d.bp m)))
    .simp only[cond_false]
     cases eqB m.eb 7&&(eqB d.bF 3&&ltB d.a8 999999)
     .simp only[cond_false]
      cases eqB m.eb 7&&eqB d.bF 2
      .exact .none d
      exact aa9 d
     exact Xe (d:=d) (d':={d with bF:=2,a8:=d.a8+1}) rfl
    exact⟨rfl,rfl,rfl,by simp,by simp⟩
   exact⟨rfl,rfl,rfl,by simp,by simp⟩
  simp only[cond_true,NG]
  cases eqB (Am d.ea.f9 d.ea.d7 m.cW) 0<;>exact⟨rfl,rfl,rfl,by simp,by simp⟩
 exact .none d
theorem Ly(d:aF)(x:am):DK d.bC d (D9 d x):=by
 simp only[D9]
 cases eqB d.bF 2&&(zG d.bp d.av d.a8 x).2
 .exact .none d
 exact⟨rfl,rfl,rfl,by simp[dAck,Ck],by simp⟩
structure SK(c:Int)(s:ag)(r:bm):Prop where
 id:r.aX.bO.ID=s.bO.ID
 key:r.aX.bO.f9=s.bO.f9
 si:r.aX.bM.ax=s.bM.ax
 cell:r.aX.bC=s.bC\/r.aX.bC=c
 sg:∀m∈r.dV,m.bC=c
 len:r.dV.length<=1
 sub:r.aX.aS=s.aS
theorem SK.none(c:Int)(s:ag):SK c s ⟨s,[]⟩:=⟨rfl,rfl,rfl,.inl rfl,by simp,by simp,rfl⟩
theorem Rr(s:ag)(m:aD):SK m.bC s (sUp s m):=by
 rw[sUp]
 cases pe m
 .exact .none _ s
 simp only[au]
 cases eqB m.eb 1
 .simp only[cond_false]
  cases eqB m.eb 3
  .simp only[cond_false]
   cases eqB m.eb 5
   .simp only[cond_false]
    cases eqB m.eb 8
    .exact .none _ s
    simp only[cond_true,Ps]
    cases !yw s m||ltB s.aC.bw m.cj
    .refine⟨rfl,rfl,?_,.inl rfl,by simp,by simp,rfl⟩
     simp only[cond_false,pf,uB]
     grind
    exact .none _ s
   simp only[cond_true,Fs]
   cases !yw s m||(ltB m.a8 s.a8||(eqB m.a8 s.a8&&!eqB m.bC s.bC))
   .exact⟨rfl,rfl,rfl,.inr rfl,by simp[GH,Ck,xU],by simp,rfl⟩
   exact .none _ s
  simp only[cond_true,Ft]
  cases leB s.bN 0||(!eqB m.av s.bN||(!eqB m.cj s.aA.D0||leB 999999 s.a8))
  .exact⟨rfl,rfl,rfl,.inr rfl,by simp[GH,Ck,zY],by simp,rfl⟩
  exact .none _ s
 simp only[cond_true,Pt]
 cases eqB s.bO.df 999999
 .exact⟨rfl,rfl,rfl,.inl rfl,by simp,by simp,rfl⟩
 exact .none _ s
theorem MP.dev{nc i:Nat}{d:aF}(h:MP nc i d s a){c:Int}{r:aZ}(hk:DK c d r)(hd:DP r.bS)(hc:c<nc):MP nc i r.bS s a:=by
 refine⟨hd,by rw[hk.cell];exact hc,h.sg,h.sc,h.si,?_⟩
 have:=h.ids
 simp only[Qv,hk.id,hk.key] at this ⊢;exact this
theorem MP.ses{nc i:Nat}{d:aF}(h:MP nc i d s a){c:Int}{r:bm}(hk:SK c s r)(hs:SG r.aX a)(hc:c<nc):MP nc i d r.aX a:=by
 refine⟨h.dp,h.dc,hs,?_,by rw[hk.si];exact h.si,?_⟩
 .rcases hk.cell with e|e<;>rw[e]
  .exact h.sc
  exact hc
 have:=h.ids
 simp only[Qv,hk.id,hk.key] at this ⊢;exact this
theorem EL(h:NP B n){i:Nat}{d:aF}(hd:n.aH[i]?=ς d){c:Int}{r:aZ}(hk:DK c d r)(hr:DP r.bS)(hc:c<n.fH.bh.length)(hB:B+1<4611686018427387904):NP (B+1) (ki n i r):=by
 have hi:=(f5.1 hd).1
 obtain⟨d',s,a,h1,h2,h3,hm⟩:=h.at_ hi
 rw[hd] at h1;cases h1
 have hn:=h.setD h2 h3 (hm.dev hk hr hc)
 have hl:=hk.len
 have:=Ac (r.dV.map (qa i ζ)) hn (λf hf=>by
  obtain⟨m,hm',rfl⟩:=adP.1 hf
  rw[show({n with aH:=n.aH.set i r.bS}:ae).aH.length=n.aH.length by simp]
  refine MR hi ?_
  rw[hk.sg m hm',<-hk.cell];exact⟨hr.ce.1,by rw[hk.cell];exact hc⟩) (by simp;omega)
 exact this.mono (by simp;omega)
def Mw(n:ae)(i:Nat)(r:bm):ae:=kL {n with aT:=n.aT.set i r.aX} (r.dV.map (qa i η))
theorem Vy(h:NP B n){i:Nat}(hs:n.aT[i]?=ς s){c:Int}{r:bm}(hk:SK c s r)(hr:∀a,SG s a->SG r.aX a)(hc:0<=c/\c<n.fH.bh.length)(hB:B+1<4611686018427387904):NP (B+1) (Mw n i r):=by
 have hi:=(f5.1 hs).1
 have hls:=h.ls
 obtain⟨d,s',a,h1,h2,h3,hm⟩:=h.at_ (show i<n.aH.length by omega)
 rw[hs] at h2;cases h2
 have hn:=h.setS h1 h3 (hm.ses hk (hr a hm.sg) hc.2)
 have hl:=hk.len
 have:=Ac (r.dV.map (qa i η)) hn (λf hf=>by
  obtain⟨m,hm',rfl⟩:=adP.1 hf
  refine MR (show i<n.aH.length by omega) ?_
  rw[hk.sg m hm'];exact hc) (by simp;omega)
 exact this.mono (by simp;omega)
def pL(n:ae)(k:Nat):ae:={n with aJ:=n.aJ.take k++n.aJ.drop (k+1)}
theorem Lw(h:NP B n)(k:Nat):NP B (pL n k):=by
 have:=h.fl
 refine {h with fl:=by simp[pL];omega,fs:=λf hf=>?_}
 have:f∈n.aJ:=by
  simp only[pL,aau] at hf
  rcases hf with hf|hf
  .grind
  grind
 exact h.fs f this
theorem acU(hl:n.aJ.length<=200)(hf:n.aJ[k]?=ς f):DN n (k:Int)=ς (f,pL n k):=by
 have hk:=(f5.1 hf).1
 have a1:d6 n.aJ 0 (k:Int)=true:=by simp[d6];omega
 have a2:d6 n.aJ ((k+1:Nat):Int) (n.aJ.length:Int)=true:=by simp[d6];omega
 have a3:c8 176 (n.aJ.take k).length=true:=cy oaa (by simp;omega)
 have a4:c8 176 (n.aJ.take k++n.aJ.drop (k+1)).length=true:=cy oaa (by simp;omega)
 simp only[DN,bz,hf,a1,WRs (k:=k),a2,adT,aeX,a3,a4,pL,au]
theorem acT(hl:n.aJ.length<=200)(hf:n.aJ[k]?=ς f):nW n (k:Int)=ς (f,pL n k):=by
 have hk:=(f5.1 hf).1
 have a0:jh 176 0 (n.aJ.length:Int)=true:=by simp only[jh,decide_eq_true_eq];omega
 have a1:d6 n.aJ 0 (k:Int)=true:=by simp[d6];omega
 have a2:d6 n.aJ ((k+1:Nat):Int) (n.aJ.length:Int)=true:=by simp[d6];omega
 have a3:c8 176 (n.aJ.take k).length=true:=cy oaa (by simp;omega)
 have a4:c8 176 (n.aJ.take k++n.aJ.drop (k+1)).length=true:=cy oaa (by simp;omega)
 have a5:(aal (0:Int).toNat jM)=[]:=rfl
 simp only[nW,bz,hf,a0,a1,WRs (k:=k),a2,a5,adT,aeX,a3,a4,pL,au]
def UQ(n:ae)(c:Int):Bool:=ia n.fH c&&eqB (W2 .i64 (bShr .i64 n.dK c) 1) 0
theorem isUp_s(hm:1<=n.fH.bh.length/\n.fH.bh.length<=6)(c:Int):A1 n c=ς (UQ n c):=by
 have hmin:mp (n.fH.bh.length:Int) 6=(n.fH.bh.length:Int):=by unfold mp;split<;>omega
 simp only[A1,Tl,hmin,gY,aeW,bY (n:=(n.fH.bh.length:Int)-1) oaa,UQ]
 rw[show inR c 0 ((n.fH.bh.length:Int)-1)=ia n.fH c from rfl]
 cases hc:ia n.fH c
 .rfl
 have:=cT.1 (show inR c 0 ((n.fH.bh.length:Int)-1)=ζ from hc)
 rw[leB_t.2 this.1];rfl
theorem isUp_i(hm:1<=n.fH.bh.length/\n.fH.bh.length<=6)(c:Int):AD n c=ς (UQ n c):=by
 simp only[AD,D5 (show n.fH.bh.length<=1048576 by omega),aeW,UQ]
 cases hc:ia n.fH c
 .rfl
 have:=cT.1 (show inR c 0 ((n.fH.bh.length:Int)-1)=ζ from hc)
 rw[leB_t.2 this.1,ltB_t.2 (show c<6 by omega)];rfl
def Yg(n:ae):ae:={n with my:=WR (n.my+1)}
theorem SZ(h:NP B n)(hB:B<4611686018427387904):NP (B+1) (Yg n):=by
 have hl:=h.lo
 exact {h.mono (show B<=B+1 by omega) with lo:=rfl}
def tV(n:ae)(k:Nat):ae:=match n.aJ[k]? with
 |none=>n
 |some f=>
  let n1:=pL n k
  let i:=f.bS.toNat
  bif !UQ n1 f.bC then Yg n1 else
  bif f.pK then(bif f.jQ||!eqB f.cg.bC f.bC then n1 else match n1.aT[i]? with
   |none=>n1
   |some s=>Mw n1 i (sUp s f.cg))
  else match n1.aH[i]? with
   |none=>n1
   |some d=>bif !eqB d.bC f.bC then Yg n1 else ki n1 i (bif f.jQ then D9 d f.cF else Ea d f.cg)
theorem BH(h:NP B n)(k:Nat)(hB:B+1<4611686018427387904):NP (B+1) (tV n k):=by
 rw[tV]
 cases hf:n.aJ[k]? with
 |none=>exact h.mono oaa
 |some f=>
  have hp:=h.fs f (v0 hf)
  have h1:=Lw h k
  simp only
  cases UQ (pL n k) f.bC
  .exact SZ h1 oaa
  simp only[au]
  cases f.pK
  .simp only[cond_false]
   cases hd:(pL n k).aH[f.bS.toNat]? with
   |none=>exact h1.mono oaa
   |some d=>
    have hdi:=(f5.1 hd).1
    obtain⟨d',s,a,e1,e2,e3,hm⟩:=h1.at_ hdi
    rw[hd] at e1;cases e1
    simp only
    cases eqB d.bC f.bC
    .exact SZ h1 oaa
    simp only[au]
    cases f.jQ
    .exact EL h1 hd (Lz d f.cg) (abc hm.dp _) hm.dc hB
    exact EL h1 hd (Ly d f.cF) (abb hm.dp _) hm.dc hB
  simp only[cond_true]
  cases he:f.jQ||!eqB f.cg.bC f.bC
  .simp only[cond_false]
   simp only[adc,afa] at he
   have he:=CH he.2
   cases hs:(pL n k).aT[f.bS.toNat]? with
   |none=>exact h1.mono oaa
   |some s=>exact Vy h1 hs (Rr s f.cg) (λa ha=>sUp_SG ha _) (by rw[he];exact hp.c) hB
  exact h1.mono oaa
theorem Xj(i:Int)(h:0<=i):i=(i.toNat:Int):=by omega
theorem Uz(h:NP B n)(hk:k<n.aJ.length):vn n (k:Int)=ς (tV n k):=by
 obtain⟨f,hf⟩:∃f,n.aJ[k]?=ς f:=⟨_,hV hk⟩
 have hp:=h.fs f (v0 hf)
 have h1:=Lw h k
 have hls:=h1.ls
 have hdd:=hp.d
 obtain⟨d,s,a,e1,e2,e3,hm⟩:=h1.at_ (show f.bS.toNat<(pL n k).aH.length by simp only[pL];omega)
 have hdev:=Xj f.bS hdd.1
 have hix:ix (pL n k).aT f.bS=ς s:=by rw[hdev,bz];exact e2
 have hixd:ix (pL n k).aH f.bS=ς d:=by rw[hdev,bz];exact e1
 have hdl:=(f5.1 e1).1
 have hp1:lQ (pL n k) f.bS (D9 d f.cF)=ς (ki (pL n k) f.bS.toNat (D9 d f.cF)):=by
  rw[hdev];exact IC oaa (by have:=(Ly d f.cF).len;omega)
 have hp2:lQ (pL n k) f.bS (Ea d f.cg)=ς (ki (pL n k) f.bS.toNat (Ea d f.cg)):=by
  rw[hdev];exact IC oaa (by have:=(Lz d f.cg).len;omega)
 have hp3:∀n',lR n' f.bS η (sUp s f.cg).dV=ς (kL n' ((sUp s f.cg).dV.map (qa (f.bS.toNat:Int) η))):=λn'=>by
  rw[<-hdev];exact Rv _ _ _ (by have:=(Rr s f.cg).len;omega)
 simp only[vn,acU h.fl hf,isUp_s (Dg h1.map),hix,hixd,up_s hm.sg.sp,rad_s hm.dp.ok (show Tt f.cF from hp.b),sig_s hm.dp.ok hm.dp.card hm.dp.ep,hp1,hp2,hp3,aeW,tV,hf,e1,e2,Mw,Yg]
 grind
theorem Uy(h:NP B n)(hk:k<n.aJ.length):C0 n (k:Int)=ς (tV n k):=by
 obtain⟨f,hf⟩:∃f,n.aJ[k]?=ς f:=⟨_,hV hk⟩
 have hp:=h.fs f (v0 hf)
 have h1:=Lw h k
 have hls:=h1.ls
 have hdd:=hp.d
 obtain⟨d,s,a,e1,e2,e3,hm⟩:=h1.at_ (show f.bS.toNat<(pL n k).aH.length by simp only[pL];omega)
 have hdev:=Xj f.bS hdd.1
 have hix:ix (pL n k).aT f.bS=ς s:=by rw[hdev,bz];exact e2
 have hixd:ix (pL n k).aH f.bS=ς d:=by rw[hdev,bz];exact e1
 have hdl:=(f5.1 e1).1
 have hp1:iL (pL n k) f.bS (D9 d f.cF)=ς (ki (pL n k) f.bS.toNat (D9 d f.cF)):=by
  rw[hdev];exact IB oaa (by have:=(Ly d f.cF).len;omega)
 have hp2:iL (pL n k) f.bS (Ea d f.cg)=ς (ki (pL n k) f.bS.toNat (Ea d f.cg)):=by
  rw[hdev];exact IB oaa (by have:=(Lz d f.cg).len;omega)
 have hp3:∀n',je n' f.bS (sUp s f.cg).dV=ς (kL n' ((sUp s f.cg).dV.map (qa (f.bS.toNat:Int) η))):=λn'=>by
  rw[<-hdev];exact Xn _ _ (by have:=(Rr s f.cg).len;omega)
 simp only[C0,acT h.fl hf,isUp_i (Dg h1.map),hix,hixd,up_i hm.sg.sp,rad_i hm.dp.ok (show Tt f.cF from hp.b),sig_i hm.dp.ok hm.dp.card hm.dp.ep,hp1,hp2,hp3,aeW,tV,hf,e1,e2,Mw,Yg]
 grind
end Go.AM
