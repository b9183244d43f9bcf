/- A part. -/
import Derived.Test.YtcnfbcpgepbnkaaGreatL
set_option linter.unusedVariables false
set_option linter.unusedSimpArgs false
set_option maxHeartbeats 4000000
open Option renaming some->ς,none->ξ
open Bool renaming true->ζ,false->η
open True renaming intro->θ
open Option renaming bind_some->ab4,bind->abX,map_some->acu
open List renaming getElem?_eq_some_iff->aaa,getElem?_eq_getElem->aab,mem_of_getElem?->aac,length_cons->aaq,getElem?_of_mem->aau,replicate->aae,pairwise_cons->acb,takeWhile_append_dropWhile->aci,nil_append->aa3,mem_append->aaf,all_eq_true->aai,getElem_mem->ab9,takeWhile_cons->acf,pairwise_append->acj,mem_cons->aah,dropWhile_subset->acp,foldl_cons->ack,getElem?_mapIdx->ab1,ext_getElem?->ach,append_assoc->acm,take_of_length_le->acq,getElem?_eq_none->acw,takeWhile_subset->acx,dropWhile_cons->acy,mem_singleton->abl,mem_map->aa1,getElem?_set->acn,take_add_one->acs,drop_length->acC,filter_cons->acD,mem_filter->aco
open Bool renaming and_eq_true->v0,eq_iff_iff->ab5,or_eq_false_iff->aax,not_eq_false'->acg,not_eq_true'->aat,and_true->acd,true_and->acr,or_self->acI
open Int renaming tmod_eq_emod_of_nonneg->ace,toNat_natCast->ab8,add_assoc->ab6,reduceAdd->ab7,tmod->abY,mul_le_mul_of_nonneg_right->acv,add_emod_right->acz,emod_lt_of_pos->acA,emod_eq_of_lt->acB,natCast_mul->acE,natCast_add->acF,emod_nonneg->acG,mul_nonneg->acH,add_mul->acJ
open Nat renaming add_sub_cancel->aca,mul_le_mul->acl,zero_le->aao,le_refl->aan,le_trans->aar
namespace Go.AM
variable{σ τ ρ α β:Type}{a b:Int}{x:List Go.AM.D}
theorem oC:9223372036854775808<=FU:=by unfold FU;omega
def lu{α σ ρ:Type}(body:σ->α->Option (bN σ ρ))(fin:σ->Option ρ):List α->σ->Option ρ
 |[],s=>fin s
 |x::xs,s=>match body s x with
  |some (.next s')=>lu body fin xs s'
  |some (.done r)=>ς r
  |none=>ξ
def AT(f:σ->τ):Option (bN σ ρ)->Option (bN τ ρ)
 |some (.next s)=>ς (.next (f s))
 |some (.done r)=>ς (.done r)
 |none=>ξ
@[simp] theorem stepM_next (f:σ->τ) (s:σ):AT (ρ:=ρ) f (ς (.next s))=ς (.next (f s)):=rfl
@[simp] theorem stepM_done (f:σ->τ) (r:ρ):AT f (ς (.done r))=ς (.done r):=rfl
@[simp] theorem stepM_none (f:σ->τ):AT (ρ:=ρ) f ξ=none:=rfl
@[simp] theorem stepM_cond (f:σ->τ) (b:Bool) (x y:Option (bN σ ρ)):AT f (bif b then x else y)=bif b then AT f x else AT f y:=by cases b<;>rfl
@[simp] theorem stepM_bind (f:σ->τ) (o:Option α) (k:α->Option (bN σ ρ)):AT f (abX o k)=abX o (λa=>AT f (k a)):=by cases o<;>rfl
@[simp] theorem dn_some (r:ρ):dn (σ:=σ) (ς r)=ς (.done r):=rfl
@[simp] theorem dn_none {ρ:Type}:dn (σ:=σ) (ρ:=ρ) ξ=none:=rfl
theorem eE{step:τ->Option (bN τ ρ)}(xs:List α)(mk:Nat->σ->τ)(body:σ->α->Option (bN σ ρ))(fin:σ->Option ρ)(hl:xs.length<=9223372036854775806)(hs:∀(k:Nat) (x:α) (s:σ),xs[k]?=ς x->k<xs.length->step (mk k s)=AT (mk (k+1)) (body s x))(he:∀s,step (mk xs.length s)=dn (fin s))(s0:σ):iter step FU (mk 0 s0)=lu body fin xs s0:=by
 have key:∀(m n:Nat) (s:σ) (k:Nat),m=xs.length-k->k<=xs.length->m<n->iter step n (mk k s)=lu body fin (xs.drop k) s:=by
  intro m
  induction m with
  |zero=>
   intro n s k hm hk hn
   cases n with
   |zero=>omega
   |succ n=>
    have:k=xs.length:=by omega
    subst this
    rw[acC,lu,iter,he]
    cases fin s<;>rfl
  |succ m ih=>
   intro n s k hm hk hn
   cases n with
   |zero=>omega
   |succ n=>
    have hlt:k<xs.length:=by omega
    rw[List.drop_eq_getElem_cons hlt,lu,iter,hs k xs[k] s (aab hlt) hlt]
    cases hb:body s xs[k] with
    |none=>rfl
    |some o=>
     cases o with
     |done r=>rfl
     |next s'=>exact ih n s' (k+1) oaa oaa oaa
 have:=key (xs.length-0) FU s0 0 rfl (aao _) (by have:=oC;omega)
 simp_all
theorem bm(xs:List α)(k:Nat):ix xs (k:Int)=xs[k]?:=by simp[ix,leB]
theorem cG{n:Int}(h: -9223372036854775808<=n/\n<=9223372036854775807):WR n=n:=PU h
theorem lJ{k:Nat}(h:k<9223372036854775807):WR ((k:Int)+1)=((k+1:Nat):Int):=by rw[cG oaa];omega
theorem WRs{k:Nat}(h:k<9223372036854775807:=by omega):WR ((k:Int)+1)=((k+1:Nat):Int):=lJ h
theorem rt{p:Prop}(h:p:=by first|rfl|trivial):p:=h
theorem cr{a b:Nat}(h:a<b):ltB (a:Int) (b:Int)=true:=by simp[ltB,h]
theorem bH(a:Int):ltB a a=false:=by simp[ltB]
theorem bE(a:Int):eqB a a=true:=by simp[eqB]
theorem GC{step:Int×List β->Option (bN (Int×List β) (List β))}(f:α->β)(z:β)(xs:List α)(hl:xs.length<=9223372036854775806)(hs:∀(k:Nat) (x:α) (v:List β),xs[k]?=ς x->v.length=xs.length->step ((k:Int),v)=ς (.next (((k+1:Nat):Int),v.set k (f x))))(he:∀v,step ((xs.length:Nat),v)=ς (.done v)):iter step FU (0,aae xs.length z)=ς (xs.map f):=by
 have key:∀(m n:Nat) (k:Nat),m=xs.length-k->k<=xs.length->m<n->iter step n ((k:Int),(xs.take k).map f++aae (xs.length-k) z)=ς (xs.map f):=by
  intro m
  induction m with
  |zero=>
   intro n k hm hk hn
   cases n with
   |zero=>omega
   |succ n=>
    have:k=xs.length:=by omega
    subst this
    rw[iter,he]
    simp
  |succ m ih=>
   intro n k hm hk hn
   cases n with
   |zero=>omega
   |succ n=>
    have hlt:k<xs.length:=by omega
    rw[iter,hs k xs[k] _ (aab hlt) (by simp;omega)]
    have e:((xs.take k).map f++aae (xs.length-k) z).set k (f xs[k])=(xs.take (k+1)).map f++aae (xs.length-(k+1)) z:=by
     apply ach
     intro j
     rw[acn]
     by_cases hj:k=j
     .grind
     grind
    grind
 have:=key (xs.length-0) FU 0 rfl (aao _) (by have:=oC;omega)
 simp_all
attribute [local simp] bH bE bm
def okL(ok:α->Prop)(xs:List α):Prop:=xs.length<=1048576/\∀x∈xs,ok x
def oQ(pre:α->Prop)(xs:List α):Prop:=xs.length<=9223372036854775807/\∀x∈xs,pre x
theorem yT{α ρ:Type}{body:Unit->α->Option (bN Unit ρ)}{fin:Unit->Option ρ}:∀(xs:List α),(∀x∈xs,body () x=ς (.next ()))->lu body fin xs ()=fin ()
 |[],_=>rfl
 |x::xs,h=>by rw[lu,h x (by simp)];exact yT xs (λy hy=>h y (by simp[hy]))
def Sz(f:α->Int->Option Int)(ok pre:α->Prop):Prop:=
 ∀a left,pre a->0<=left->left<=1048576->∃r,f a left=ς r/\r<=1048576/\((ltB r 0=ζ/\r= -1)\/(ltB r 0=η/\0<=r/\ok a))
theorem Kp{r:Int}(h:r<0):ltB r 0=true:=by simp[ltB,h]
theorem Ko{r:Int}(h:0<=r):ltB r 0=false:=by simp_all
theorem IY{pre:α->Prop}{f:List α->Int->Option Int}(hf:∀xs left,f xs left=bif ltB (WR (left-(xs.length:Int))) 0 then ς (-1) else ς (WR (left-(xs.length:Int)))):Sz f (okL λ_=>True) (oQ pre):=by
 intro xs left hp h0 h1
 have:=hp.1
 rw[hf,cG oaa]
 by_cases hc:left<xs.length
 .refine⟨-1,by rw[Kp oaa];rfl,by omega,.inl ⟨Kp oaa,rfl⟩⟩
 refine⟨left-xs.length,by rw[Ko oaa];rfl,by omega,.inr ⟨Ko oaa,by omega,by omega,λ_ _=>trivial⟩⟩
theorem ve{e:α->Int->Option Int}{ok pre:α->Prop}{f:List α->Int->Option Int}{L:List α->Int×Int->Option (bN (Int×Int) Int)}(he:Sz e ok pre)(hf:∀xs left,f xs left=bif ltB (WR (left-(xs.length:Int))) 0 then ς (-1) else iter (L xs) FU (WR (left-(xs.length:Int)),0))(hL:∀xs v1 v2,L xs (v1,v2)=bif ltB v2 (xs.length:Int) then(abX (ix xs v2) λx=>abX (e x v1) λr=>bif ltB r 0 then dn (ς (-1)) else ς (.next (r,WR (v2+1)))) else dn (ς v1)):
 Sz f (okL ok) (oQ pre):=by
 intro xs left hp h0 h1
 have hl:=hp.1
 rw[hf,cG oaa]
 by_cases hc:left<xs.length
 .exact⟨-1,by rw[Kp oaa];rfl,by omega,.inl ⟨Kp oaa,rfl⟩⟩
 rw[Ko oaa]
 have hfor:=eE (step:=L xs) xs (λk (s:Int)=>(s,(k:Int))) (λs x=>abX (e x s) λr=>bif ltB r 0 then ς (.done (-1)) else ς (.next r)) (λs=>ς s) oaa
  (λk x s hx hk=>by simp[hL,cr hk,hx,lJ (show k<9223372036854775807 by omega)]) (λs=>by simp[hL]) (left-xs.length)
 have key:∀(ys:List α) (s:Int),(∀y∈ys,pre y)->0<=s->s<=1048576->∃r,lu (λs x=>abX (e x s) λr=>bif ltB r 0 then ς (.done (-1)) else ς (.next r)) (λs=>ς s) ys s=ς r/\r<=1048576/\((ltB r 0=ζ/\r= -1)\/(ltB r 0=η/\0<=r/\∀y∈ys,ok y)):=by
  intro ys
  induction ys with
  |nil=>intro s _ h2 h3;exact⟨s,rfl,h3,.inr ⟨Ko h2,h2,by simp⟩⟩
  |cons y ys ih=>
   intro s hy h2 h3
   obtain⟨r,k1,k2,k3⟩:=he y s (hy y (by simp)) h2 h3
   rw[lu,k1]
   grind
 obtain⟨r,m1,m2,m3⟩:=key xs (left-xs.length) hp.2 oaa oaa
 refine⟨r,by simp_all,m2,?_⟩
 rcases m3 with m3|⟨m3,m4,m5⟩
 .exact .inl m3
 exact .inr ⟨m3,m4,by omega,m5⟩
theorem pt{ok:α->Prop}{t:α->Option α}(z:α){f:List α->Option (List α)}{L:List α->Int×List α->Option (bN (Int×List α) (List α))}{by_:Nat}(hby:by_<=100000)(ht:∀a,ok a->t a=ς a)(hf:∀xs,f xs=bif iG by_ (xs.length:Int) (xs.length:Int) then(abX (iter (L xs) FU (0,aae ((xs.length:Int)).toNat z)) λv=>ς v) else ξ)(hL:∀xs v1 v2,L xs (v1,v2)=bif ltB v1 (xs.length:Int) then(abX (ix xs v1) λx=>abX (t x) λr=>abX (ix v2 v1) λ_=>ς (.next (WR (v1+1),v2.set v1.toNat r))) else ς (.done v2)):
 ∀xs,okL ok xs->f xs=ς xs:=by
 intro xs hx
 have hl:=hx.1
 have:=GC (step:=L xs) id z xs oaa
  (λk x v hx' hv=>by
   have hk:=(aaa.1 hx').1
   simp[hL,cr hk,hx',ht x (hx.2 x (aac hx')),lJ (show k<9223372036854775807 by omega),aab (show k<v.length by omega)])
  (λv=>by simp[hL])
 simp only[List.map_id] at this
 have hm:iG by_ (xs.length:Int) (xs.length:Int)=true:=by
  simp only[iG,decide_eq_true_eq]
  have h1:by_*xs.length<=100000*1048576:=acl hby hl
  have h2:((by_*xs.length:Nat):Int)<=104857600000:=by omega
  rw[acE] at h2
  omega
 simp_all
theorem oY{ok:α->Prop}{e:α->α->Option Bool}{f:List α->List α->Option Bool}{L:List α->List α->Int->Option (bN Int Bool)}(he:∀a,ok a->e a a=ς ζ)(hf:∀xs ys,f xs ys=bif !eqB (xs.length:Int) (ys.length:Int) then ς η else iter (L xs ys) FU 0)(hL:∀xs ys v1,L xs ys v1=bif ltB v1 (xs.length:Int) then(abX (ix xs v1) λx=>abX (ix ys v1) λy=>abX (e x y) λr=>bif !r then dn (ς η) else ς (.next (WR (v1+1)))) else dn (ς ζ)):
 ∀xs,okL ok xs->f xs xs=ς true:=by
 intro xs hx
 have hl:=hx.1
 have:=eE (step:=L xs xs) xs (λk (_:Unit)=>(k:Int)) (λ_ x=>abX (e x x) λr=>bif !r then ς (.done η) else ς (.next ())) (λ_=>ς ζ) oaa
  (λk x s hx' hk=>by simp[hL,cr hk,hx',lJ (show k<9223372036854775807 by omega)]) (λs=>by simp[hL]) ()
 rw[hf,bE]
 simp only[Bool.not_true,cond_false]
 refine Eq.trans (show iter (L xs xs) FU 0=_ from this) ?_
 exact yT xs (λx hx'=>by simp[he x (hx.2 x hx')])
def DM(by_:Nat)(p:α->Bool)(f:α->β)(acc:List β)(x:α):Option (bN (List β) (List β)):=
 bif p x then(bif dH by_ (acc++[f x]).length then ς (.next (acc++[f x])) else ξ) else ς (.next acc)
theorem CU{α β:Type}{by_:Nat}(hb:by_<=100000)(p:α->Bool)(f:α->β):∀(xs:List α) (acc:List β),acc.length+xs.length<=1048576->lu (DM by_ p f) ς xs acc=ς (acc++(xs.filter p).map f)
 |[],acc,h=>by simp[lu]
 |x::xs,acc,h=>by
  simp only[aaq] at h
  rw[lu]
  cases hp:p x with
  |false=>
   rw[List.filter_cons_of_neg (by simp[hp])]
   simpa [DM,hp] using CU hb p f xs acc oaa
  |true=>
   have ha:dH by_ (acc++[f x]).length=true:=by
    have h1:(acc++[f x]).length*by_<=1048577*100000:=acl (by simp;omega) hb
    simp only[dH,decide_eq_true_eq]
    refine⟨by omega,by simp;omega⟩
   rw[List.filter_cons_of_pos (by simp[hp])]
   simp only[DM,hp,ha,cond_true]
   rw[CU hb p f xs (acc++[f x]) (by simp;omega)]
   simp
theorem de{by_ n:Nat}(hb:by_<=100000)(hn:n<=1048577):dH by_ n=true:=by
 have h1:n*by_<=1048577*100000:=acl hn hb
 simp only[dH,decide_eq_true_eq]
 omega
def Bw(n:Int):Prop:=0<=n/\n<=255
theorem Wk{n:Int}(h:(Lit.int .u8 n).wf=ζ):Bw n:=by
 simp[Lit.wf,IntKind.min,IntKind.max,IntKind.signed,IntKind.bits] at h
 exact⟨by omega,by omega⟩
theorem xp{L:Int->Option (bN Int Int)}(xs:List α)(p:α->Bool)(hl:xs.length<=9223372036854775806)(hs:∀(k:Nat) (x:α),xs[k]?=ς x->k<xs.length->L (k:Int)=bif p x then ς (.done (k:Int)) else ς (.next ((k+1:Nat):Int)))(he:L (xs.length:Int)=ς (.done (-1))):
 iter L FU 0=ς (ye p 0 xs):=by
 have key:∀(m n:Nat) (k:Nat),m=xs.length-k->k<=xs.length->m<n->iter L n (k:Int)=ς (ye p k (xs.drop k)):=by
  intro m
  induction m with
  |zero=>
   intro n k hm hk hn
   cases n with
   |zero=>omega
   |succ n=>
    have:k=xs.length:=by omega
    subst this
    rw[iter,he,acC,ye]
  |succ m ih=>
   intro n k hm hk hn
   cases n with
   |zero=>omega
   |succ n=>
    have hlt:k<xs.length:=by omega
    rw[iter,hs k xs[k] (aab hlt) hlt,TZ hlt]
    cases p xs[k] with
    |true=>rfl
    |false=>grind
 have:=key (xs.length-0) FU 0 rfl (aao _) (by have:=oC;omega)
 simp_all
theorem Bl{α:Type}(p:α->Bool):∀(xs:List α) (i:Nat),ye p (i:Int) xs= -1/\(∀x∈xs,p x=η)\/∃j:Nat,ye p (i:Int) xs=((i+j:Nat):Int)/\∃x,xs[j]?=ς x/\p x=ζ/\∀y∈xs.take j,p y=η
 |[],i=>.inl ⟨rfl,by simp⟩
 |x::xs,i=>by
  rw[ye]
  cases hp:p x with
  |true=>exact .inr ⟨0,by simp,x,rfl,hp,by simp⟩
  |false=>
   rcases Bl p xs (i+1) with⟨h1,h2⟩|⟨j,h1,y,h2,h3,h4⟩
   .simp_all
   refine .inr ⟨j+1,?_,y,by simp_all,h3,by simp_all⟩
   grind
theorem Jr{L:Int->Option (bN Int Bool)}(xs:List α)(p:α->Bool)(hl:xs.length<=9223372036854775806)(hs:∀(k:Nat) (x:α),xs[k]?=ς x->k<xs.length->L (k:Int)=bif p x then ς (.done ζ) else ς (.next ((k+1:Nat):Int)))(he:L (xs.length:Int)=ς (.done η)):
 iter L FU 0=ς (xs.any p):=by
 have:=eE (step:=L) xs (λk (_:Unit)=>(k:Int)) (λ_ x=>bif p x then ς (.done ζ) else ς (.next ())) (λ_=>ς η) hl
  (λk x s hx hk=>by simp_all) (λs=>by rw[he];rfl) ()
 refine Eq.trans (show iter L FU 0=_ from this) ?_
 have key:∀xs:List α,lu (λ(_:Unit) x=>bif p x then ς (bN.done ζ) else ς (.next ())) (λ_=>ς η) xs ()=ς (xs.any p):=by
  intro xs
  induction xs with
  |nil=>rfl
  |cons x xs ih=>rw[lu];grind
 exact key xs
theorem SD{L:Int->Option (bN Int Bool)}(xs:List α)(p:α->Bool)(hl:xs.length<=9223372036854775806)(hs:∀(k:Nat) (x:α),xs[k]?=ς x->k<xs.length->L (k:Int)=bif p x then ς (.next ((k+1:Nat):Int)) else ς (.done η))(he:L (xs.length:Int)=ς (.done ζ)):
 iter L FU 0=ς (xs.all p):=by
 have:=eE (step:=L) xs (λk (_:Unit)=>(k:Int)) (λ_ x=>bif p x then ς (.next ()) else ς (.done η)) (λ_=>ς ζ) hl
  (λk x s hx hk=>by simp_all) (λs=>by rw[he];rfl) ()
 refine Eq.trans (show iter L FU 0=_ from this) ?_
 have key:∀xs:List α,lu (λ(_:Unit) x=>bif p x then ς (.next ()) else ς (bN.done η)) (λ_=>ς ζ) xs ()=ς (xs.all p):=by
  intro xs
  induction xs with
  |nil=>rfl
  |cons x xs ih=>rw[lu];grind
 exact key xs
def Mk(f:α->Int->Option Int)(ok:α->Prop)(B:Int):Prop:=
 ∀a k,ok a->0<=k->k+B<=9223372036854775807->∃k',f a k=ς k'/\k<=k'/\k'<=k+B
theorem pe{f:List α->Int->Option Int}{L:List α->Int×Int->Option (bN (Int×Int) Int)}{ok:α->Prop}{B:Int}(hb:0<=b)(hB:1048576*b<=B)(hf:∀xs k,f xs k=abX (iter (L xs) FU (k,0)) λr=>ς r)(he:∀xs k,L xs (k,(xs.length:Int))=ς (.done k))(hs:∀(xs:List α) (k:Int) (i:Nat) (x:α),xs[i]?=ς x->i<xs.length->xs.length<=1048576->ok x->0<=k->k+b<=9223372036854775807->∃k',L xs (k,(i:Int))=ς (.next (k',((i+1:Nat):Int)))/\k<=k'/\k'<=k+b):
 Mk f (okL ok) B:=by
 intro xs k hok h0 h1
 have key:∀(m n i:Nat) (k:Int),m=xs.length-i->i<=xs.length->m<n->0<=k->k+m*b<=9223372036854775807->∃k',iter (L xs) n (k,(i:Int))=ς k'/\k<=k'/\k'<=k+m*b:=by
  intro m
  induction m with
  |zero=>
   intro n i k hm hi hn hk hkb
   cases n with
   |zero=>omega
   |succ n=>
    have:i=xs.length:=by omega
    subst this
    exact⟨k,by rw[iter,he],by omega,by omega⟩
  |succ m ih=>
   intro n i k hm hi hn hk hkb
   cases n with
   |zero=>omega
   |succ n=>
    have hlt:i<xs.length:=by omega
    have hmul:((m+1:Nat):Int)*b=m*b+b:=by rw[acF,acJ];simp
    have hmb:0<=(m:Int)*b:=acH oaa hb
    rw[hmul] at hkb
    obtain⟨k1,e1,l1,u1⟩:=hs xs k i xs[i] (aab hlt) hlt hok.1 (hok.2 _ (ab9 hlt)) hk oaa
    obtain⟨k2,e2,l2,u2⟩:=ih n (i+1) k1 oaa oaa oaa oaa oaa
    exact⟨k2,by rw[iter,e1];exact e2,by omega,by omega⟩
 have hlb:(xs.length:Int)*b<=1048576*b:=acv (by have:=hok.1;omega) hb
 obtain⟨k',e,l,u⟩:=key xs.length FU 0 k oaa oaa (by have:=oC;have:=hok.1;omega) h0 oaa
 grind
theorem allK{L:Int->Option (bN Int Bool)}(xs:List α)(p:Nat->α->Bool)(c:Option Bool)(hl:xs.length<=9223372036854775806)(hs:∀(k:Nat) (x:α),xs[k]?=ς x->k<xs.length->L (k:Int)=bif p k x then ς (.next ((k+1:Nat):Int)) else ς (.done η))(he:L (xs.length:Int)=dn c):
 iter L FU 0=bif xs.zipIdx.all (λy=>p y.2 y.1) then c else ς false:=by
 have:=eE (step:=L) xs.zipIdx (λk (_:Unit)=>(k:Int)) (λ_ y=>bif p y.2 y.1 then ς (.next ()) else ς (.done η)) (λ_=>c) (by simp_all)
  (λk y s hy hk=>by
   have hk':k<xs.length:=by simpa using hk
   have:y=(xs[k],k):=by rw[aab hk] at hy;simpa using hy.symm
   simp_all) (λs=>by simp_all) ()
 refine Eq.trans (show iter L FU 0=_ from this) ?_
 have key:∀ys:List (α×Nat),lu (λ(_:Unit) y=>bif p y.2 y.1 then ς (.next ()) else ς (bN.done η)) (λ_=>c) ys ()=bif ys.all (λy=>p y.2 y.1) then c else ς false:=by
  intro ys
  induction ys with
  |nil=>rfl
  |cons x xs ih=>rw[lu];grind
 exact key _
def inR(n a b:Int):Bool:=leB a n&&leB n b
theorem cJ{n:Int}:inR n a b=ζ↔a<=n/\n<=b:=by simp[inR,leB]
theorem zL{n:Nat}(h:n<=1048576):WR ((n:Int)-1)=(n:Int)-1:=cG oaa
theorem ix_in{xs:List α}{i:Int}(h0:0<=i)(h1:i<xs.length):∃x,x∈xs/\ix xs i=ς x:=by
 obtain⟨k,rfl⟩:=Int.eq_ofNat_of_zero_le h0
 have hk:k<xs.length:=by omega
 exact⟨xs[k],ab9 hk,by rw[bm,aab hk]⟩
def rgI(k:IntKind)(n:Int):Prop:=(Lit.int k n).wf=ζ
theorem WT.rg{k:IntKind}{n:Int}(h:WT (.i k) (.i k n)):rgI k n:=by
 cases h with|i h=>exact h
theorem NR{α:Type}{e:List Sh}{f:α->List D}:∀{xs:List α},WTL e (xs.map f)->∀x∈xs,WTs e (f x)
 |[],_,x,hx=>by cases hx
 |y::ys,h,x,hx=>by
  cases h with
  |cons h1 h2=>
   rcases aah.1 hx with rfl|hx
   .exact h1
   exact NR h2 x hx
theorem WT.rl{e:List Sh}{f:α->List D}{xs:List α}(h:WT (.l e) (.l (xs.map f))):∀x∈xs,WTs e (f x):=by
 cases h with|l hl h=>exact NR h
def Wp(m:Option α)(Q:α->Prop):Prop:=match m with
 |some a=>Q a
 |none=>False
theorem Wp.ex{m:Option α}{Q:α->Prop}(h:Wp m Q):∃a,m=ς a/\Q a:=by
 cases m with
 |none=>exact h.elim
 |some a=>exact⟨a,rfl,h⟩
theorem Wp.of{m:Option α}{Q:α->Prop}{a:α}(h:m=ς a)(q:Q a):Wp m Q:=by subst h;exact q
theorem Wp.some{α:Type}{a:α}{Q:α->Prop}(h:Q a):Wp (ς a) Q:=h
theorem Wp.bind{m:Option α}{k:α->Option β}{Q:β->Prop}(h:Wp m (λa=>Wp (k a) Q)):Wp (abX m k) Q:=by
 cases m with
 |none=>exact h.elim
 |some a=>exact h
theorem Wp.mono{m:Option α}{P Q:α->Prop}(h:Wp m P)(k:∀a,P a->Q a):Wp m Q:=by
 cases m with
 |none=>exact h.elim
 |some a=>exact k a h
theorem Wp.call{m:Option α}{k:α->Option β}{P:α->Prop}{Q:β->Prop}(h:Wp m P)(hk:∀a,P a->Wp (k a) Q):Wp (abX m k) Q:=Wp.bind (h.mono hk)
theorem Wp.eq{m:Option α}{k:α->Option β}{a:α}{Q:β->Prop}(h:m= .some a)(hk:Wp (k a) Q):Wp (abX m k) Q:=by subst h;exact hk
theorem Wp.cond{b:Bool}{x y:Option α}{Q:α->Prop}(h1:b=ζ->Wp x Q)(h0:b=η->Wp y Q):Wp (bif b then x else y) Q:=by
 cases b
 .exact h0 rfl
 exact h1 rfl
theorem Wp.ok{b:Bool}{x:Option α}{Q:α->Prop}(hb:b=ζ)(h:Wp x Q):Wp (bif b then x else ξ) Q:=by subst hb;exact h
theorem Wp.iter{step:σ->Option (bN σ ρ)}{Q:ρ->Prop}(I:σ->Prop)(μ:σ->Nat)(h:∀x,I x->Wp (step x) (λs=>match s with| .next x'=>I x'/\μ x'<μ x| .done r=>Q r)):
 ∀(n:Nat) (x:σ),I x->μ x<n->Wp (AM.iter step n x) Q
 |0,_,_,h=>by omega
 |n+1,x,hI,hn=>by
  obtain⟨s,e,hs⟩:=(h x hI).ex
  rw[AM.iter,e]
  cases s with
  |next x'=>exact Wp.iter I μ h n x' hs.1 (by have:=hs.2;omega)
  |done r=>exact hs
theorem Wp.iterF{step:σ->Option (bN σ ρ)}{Q:ρ->Prop}(I:σ->Prop)(μ:σ->Nat){x:σ}(hI:I x)(hn:μ x<=1000000000000)(h:∀x,I x->Wp (step x) (λs=>match s with| .next x'=>I x'/\μ x'<μ x| .done r=>Q r)):Wp (AM.iter step FU x) Q:=
 Wp.iter I μ h FU x hI (by have:=oC;omega)
theorem Wp.dn{m:Option ρ}{Q:bN σ ρ->Prop}(h:Wp m (λr=>Q (.done r))):Wp (AM.dn m) Q:=by
 cases m with
 |none=>exact h.elim
 |some r=>exact h
theorem Wp.ix{xs:List α}{i:Int}{k:α->Option β}{Q:β->Prop}(h0:0<=i)(h1:i<xs.length)(hk:∀x,x∈xs->xs[i.toNat]?= .some x->Wp (k x) Q):Wp (abX (AM.ix xs i) k) Q:=by
 have hl:i.toNat<xs.length:=by omega
 have hx:xs[i.toNat]?= .some xs[i.toNat]:=aab hl
 refine Wp.eq (a:=xs[i.toNat]) ?_ (hk _ (ab9 hl) hx)
 unfold AM.ix
 rw[show leB 0 i=ζ from by simp[leB,h0]]
 exact hx
theorem XS(h:ltB a b=ζ):a<b:=ltB_t.1 h
theorem Mz(h:ltB a b=η):b<=a:=ltB_f.1 h
theorem Bo(h:leB a b=ζ):a<=b:=leB_t.1 h
theorem H2(h:leB a b=η):b<a:=leB_f.1 h
theorem DG(h:eqB a b=ζ):a=b:=eqB_t.1 h
theorem eqBf(h:eqB a b=η):a≠b:=eqB_f.1 h
theorem zM{b n:Nat}(h:n*b<=140737488355328)(h':n<=9223372036854775807):dH b n=true:=by simp[dH,h,h']
def qq(a:cA):Prop:=okL (λ_=>True) a.bI
def wL(a:cA):Prop:=oQ (λ_=>True) a.bI
theorem Y0(h0:WTs [.i .i64,.l [.i .i64]] x):∃a:cA,x=cQ a/\wL a:=by
 obtain⟨n0,r0,rfl,w0,h1⟩:=h0.gi
 obtain⟨y1,r1,rfl,l1,w1,h2⟩:=h1.gl
 obtain⟨n1,rfl,p1⟩:=gZ (f:=eI) (p:=(λ_=>True)) (λx h=>by obtain⟨n,r,rfl,w,h⟩:=h.gi;obtain rfl:=h.gn;exact⟨n,rfl,θ⟩) w1
 obtain rfl:=h2.gn
 exact⟨⟨n0,n1⟩,rfl,⟨by simpa using l1,p1⟩⟩
theorem KT:Sz C0 (okL (λ_=>True)) (oQ (λ_=>True)):=IY (λ_ _=>rfl)
theorem US:Sz CZ qq wL:=by
 intro a left hp h0 h1
 unfold CZ
 obtain⟨r0,a0,b0,c0⟩:=KT a.bI left hp h0 h1
 rcases c0 with⟨c0,rfl⟩|⟨c0,d0,e0⟩
 .exact⟨-1,by simp[a0,c0],by omega,.inl ⟨c0,rfl⟩⟩
 exact⟨r0,by simp[a0,c0],b0,.inr ⟨c0,d0,e0⟩⟩
theorem Rf:Sz En (okL qq) (oQ wL):=ve US (λ_ _=>rfl) (λ_ _ _=>rfl)
theorem K1:∀xs,okL (λ_=>True) xs->C5 xs=ς xs:=pt (0:Int) (by decide) (t:=λa=>ς a) (λ_ _=>rfl) (λ_=>rfl) (λ_ _ _=>rfl)
theorem UT:∀a,qq a->C4 a=ς a:=λa h=>by simp[C4,K1 _ h]
theorem Rg:∀xs,okL qq xs->Es xs=ς xs:=pt (⟨0,[]⟩:cA) (by decide) UT (λ_=>rfl) (λ_ _ _=>rfl)
theorem KL:∀xs,okL (λ_=>True) xs->CX xs xs=ς true:=oY (e:=λx y=>ς (eqB x y)) (λ_ _=>by simp[bE]) (λ_ _=>rfl) (λ_ _ _=>rfl)
theorem UP:∀a,qq a->CW a a=ς true:=λa h=>by simp[CW,bE,strB,booB,KL _ h]
theorem Rd:∀xs,okL qq xs->Ee xs xs=ς true:=oY UP (λ_ _=>rfl) (λ_ _ _=>rfl)
theorem Ph:Mk sF (okL (λ_=>True)) 1048576:=by
 refine pe (L:=nE) (b:=1) (by decide) (by decide) (λ_ _=>rfl) (λxs k=>by simp[nE,bH]) (λxs k i x hx hi hl hok h0 h1=>?_)
 skip
 refine⟨k+1,?_,by omega,by omega⟩
 have hw:∀n:Int,0<=n->n<=9223372036854775807->WR n=n:=λn h h'=>cG oaa
 simp(disch:=omega) only[nE,cr hi,bm,hx,WRs (k:=i),ab4,cond_true,hw,ab6,ab7]
theorem UV:Mk uI (okL qq) 1099512676352:=by
 refine pe (L:=lV) (b:=1048577) (by decide) (by decide) (λ_ _=>rfl) (λxs k=>by simp[lV,bH]) (λxs k i x hx hi hl hok h0 h1=>?_)
 skip
 obtain⟨k0,e0,l0,u0⟩:=Ph x.bI (k+1) hok oaa oaa
 refine⟨k0,?_,by omega,by omega⟩
 have hw:∀n:Int,0<=n->n<=9223372036854775807->WR n=n:=λn h h'=>cG oaa
 simp(disch:=omega) only[lV,cr hi,bm,hx,WRs (k:=i),ab4,cond_true,hw,ab6,ab7,e0]
def gW(a:bz):Prop:=okL qq a.bD
def B4(a:bz):Prop:=oQ wL a.bD
theorem KQ:Sz uQ gW B4:=by
 intro a left hp h0 h1
 unfold uQ
 obtain⟨r0,a0,b0,c0⟩:=Rf a.bD left hp h0 h1
 rcases c0 with⟨c0,rfl⟩|⟨c0,d0,e0⟩
 .exact⟨-1,by simp[a0,c0],by omega,.inl ⟨c0,rfl⟩⟩
 exact⟨r0,by simp[a0,c0],b0,.inr ⟨c0,d0,e0⟩⟩
theorem KY:∀a,gW a->uV a=ς a:=λa h=>by simp[uV,Rg _ h]
theorem KH:∀a,gW a->uz a a=ς true:=λa h=>by simp[uz,bE,strB,booB,Rd _ h]
theorem M4:Mk nD gW 1099512676352:=by
 intro a k h h0 h1
 obtain⟨k0,e0,l0,u0⟩:=UV a.bD k h oaa oaa
 exact⟨k0,by simp only[nD,e0,ab4],by omega,by omega⟩
def cN(a:ab):Prop:=okL (λ_=>True) a.bk
def em(a:ab):Prop:=oQ Bw a.bk
theorem s5(h0:WTs [.i .i64,.l [.i .u8]] x):∃a:ab,x=ah a/\em a:=by
 obtain⟨n0,r0,rfl,w0,h1⟩:=h0.gi
 obtain⟨y1,r1,rfl,l1,w1,h2⟩:=h1.gl
 obtain⟨n1,rfl,p1⟩:=gZ (f:=eU8) (p:=Bw) (λx h=>by obtain⟨n,r,rfl,w,h⟩:=h.gi;obtain rfl:=h.gn;exact⟨n,rfl,Wk w⟩) w1
 obtain rfl:=h2.gn
 exact⟨⟨n0,n1⟩,rfl,⟨by simpa using l1,p1⟩⟩
def eQ(a:aC):Prop:=okL (λ_=>True) a.bk
def kv(a:aC):Prop:=oQ Bw a.bk
theorem Fh(h0:WTs [.l [.i .u8]] x):∃a:aC,x=bQ a/\kv a:=by
 obtain⟨y0,r0,rfl,l0,w0,h1⟩:=h0.gl
 obtain⟨n0,rfl,p0⟩:=gZ (f:=eU8) (p:=Bw) (λx h=>by obtain⟨n,r,rfl,w,h⟩:=h.gi;obtain rfl:=h.gn;exact⟨n,rfl,Wk w⟩) w0
 obtain rfl:=h1.gn
 exact⟨⟨n0⟩,rfl,⟨by simpa using l0,p0⟩⟩
def df(a:aj):Prop:=okL cN a.am/\okL eQ a.aD
def sM(a:aj):Prop:=oQ em a.am/\oQ kv a.aD
def dt(a:av):Prop:=df a.bY
def rF(a:av):Prop:=sM a.bY
theorem RL(h0:WTs [.i .i64,.i .i64,.i .i64,.i .i64,.i .i64,.i .i64,.i .i64,.i .i64,.i .i64,.b,.i .i64,.i .i64,.l [.i .i64,.l [.i .u8]],.l [.l [.i .u8]]] x):∃a:av,x=aZ a/\rF a:=by
 obtain⟨n0,r0,rfl,w0,h1⟩:=h0.gi
 obtain⟨n1,r1,rfl,w1,h2⟩:=h1.gi
 obtain⟨n2,r2,rfl,w2,h3⟩:=h2.gi
 obtain⟨n3,r3,rfl,w3,h4⟩:=h3.gi
 obtain⟨n4,r4,rfl,w4,h5⟩:=h4.gi
 obtain⟨n5,r5,rfl,w5,h6⟩:=h5.gi
 obtain⟨n6,r6,rfl,w6,h7⟩:=h6.gi
 obtain⟨n7,r7,rfl,w7,h8⟩:=h7.gi
 obtain⟨n8,r8,rfl,w8,h9⟩:=h8.gi
 obtain⟨n9,r9,rfl,h10⟩:=h9.gb
 obtain⟨n10,r10,rfl,w10,h11⟩:=h10.gi
 obtain⟨n11,r11,rfl,w11,h12⟩:=h11.gi
 obtain⟨y12,r12,rfl,l12,w12,h13⟩:=h12.gl
 obtain⟨n12,rfl,p12⟩:=gZ (f:=ah) (p:=em) (λ_ h=>s5 h) w12
 obtain⟨y13,r13,rfl,l13,w13,h14⟩:=h13.gl
 obtain⟨n13,rfl,p13⟩:=gZ (f:=bQ) (p:=kv) (λ_ h=>Fh h) w13
 obtain rfl:=h14.gn
 exact⟨⟨⟨⟨n0,n1⟩,n2,n3⟩,n4,n5,n6,n7,n8,n9,n10,⟨n11,n12,n13⟩⟩,rfl,⟨⟨by simpa using l12,p12⟩,⟨by simpa using l13,p13⟩⟩⟩
theorem BA:Sz wu (okL (λ_=>True)) (oQ Bw):=IY (λ_ _=>rfl)
theorem zr:Sz jU cN em:=by
 intro a left hp h0 h1
 unfold jU
 obtain⟨r0,a0,b0,c0⟩:=BA a.bk left hp h0 h1
 rcases c0 with⟨c0,rfl⟩|⟨c0,d0,e0⟩
 .exact⟨-1,by simp[a0,c0],by omega,.inl ⟨c0,rfl⟩⟩
 exact⟨r0,by simp[a0,c0],b0,.inr ⟨c0,d0,e0⟩⟩
theorem p6:Sz iY (okL cN) (oQ em):=ve zr (λ_ _=>rfl) (λ_ _ _=>rfl)
theorem KV:Sz uS eQ kv:=by
 intro a left hp h0 h1
 unfold uS
 obtain⟨r0,a0,b0,c0⟩:=BA a.bk left hp h0 h1
 rcases c0 with⟨c0,rfl⟩|⟨c0,d0,e0⟩
 .exact⟨-1,by simp[a0,c0],by omega,.inl ⟨c0,rfl⟩⟩
 exact⟨r0,by simp[a0,c0],b0,.inr ⟨c0,d0,e0⟩⟩
theorem Aw:Sz sH (okL eQ) (oQ kv):=ve KV (λ_ _=>rfl) (λ_ _ _=>rfl)
theorem Ax:Sz kR df sM:=by
 intro a left hp h0 h1
 unfold kR
 obtain⟨r0,a0,b0,c0⟩:=p6 a.am left hp.1 h0 h1
 rcases c0 with⟨c0,rfl⟩|⟨c0,d0,e0⟩
 .exact⟨-1,by simp[a0,c0],by omega,.inl ⟨c0,rfl⟩⟩
 obtain⟨r1,a1,b1,c1⟩:=Aw a.aD r0 hp.2 d0 b0
 rcases c1 with⟨c1,rfl⟩|⟨c1,d1,e1⟩
 .exact⟨-1,by simp[a0,c0,a1,c1],by omega,.inl ⟨c1,rfl⟩⟩
 exact⟨r1,by simp[a0,c0,a1,c1],b1,.inr ⟨c1,d1,e0,e1⟩⟩
theorem MY:Sz xC dt rF:=by
 intro a left hp h0 h1
 unfold xC
 obtain⟨r0,a0,b0,c0⟩:=Ax a.bY left hp h0 h1
 rcases c0 with⟨c0,rfl⟩|⟨c0,d0,e0⟩
 .exact⟨-1,by simp[a0,c0],by omega,.inl ⟨c0,rfl⟩⟩
 exact⟨r0,by simp[a0,c0],b0,.inr ⟨c0,d0,e0⟩⟩
theorem KR:Sz zh (okL dt) (oQ rF):=ve MY (λ_ _=>rfl) (λ_ _ _=>rfl)
theorem tW:∀a,(λ_=>True) a->js a=ς a:=λa h=>by simp[js]
theorem UU:∀a,(λ_=>True) a->C6 a=ς a:=λa h=>by simp[C6,tW _ trivial]
theorem BD:∀xs,okL (λ_=>True) xs->wx xs=ς xs:=pt (0:Int) (by decide) (t:=λa=>ς a) (λ_ _=>rfl) (λ_=>rfl) (λ_ _ _=>rfl)
theorem zu:∀a,cN a->jW a=ς a:=λa h=>by simp[jW,BD _ h]
theorem p8:∀xs,okL cN xs->i6 xs=ς xs:=pt (⟨0,[]⟩:ab) (by decide) zu (λ_=>rfl) (λ_ _ _=>rfl)
theorem K3:∀a,eQ a->uW a=ς a:=λa h=>by simp[uW,BD _ h]
theorem Ay:∀xs,okL eQ xs->sI xs=ς xs:=pt (⟨[]⟩:aC) (by decide) K3 (λ_=>rfl) (λ_ _ _=>rfl)
theorem Az:∀a,df a->kS a=ς a:=λa h=>by simp[kS,p8 _ h.1,Ay _ h.2]
theorem M1:∀a,dt a->xE a=ς a:=λa h=>by simp[xE,Az _ h,UU _ trivial]
theorem KZ:∀xs,okL dt xs->zj xs=ς xs:=pt (⟨⟨⟨0,0⟩,0,0⟩,0,0,0,0,0,η,0,⟨0,[],[]⟩⟩:av) (by decide) M1 (λ_=>rfl) (λ_ _ _=>rfl)
theorem tT:∀a,(λ_=>True) a->jq a a=ς true:=λa h=>by simp[jq,bE,strB,booB]
theorem UQ:∀a,(λ_=>True) a->CY a a=ς true:=λa h=>by simp[CY,bE,strB,booB,tT _ trivial]
theorem Bx:∀xs,okL (λ_=>True) xs->wj xs xs=ς true:=oY (e:=λx y=>ς (eqB x y)) (λ_ _=>by simp[bE]) (λ_ _=>rfl) (λ_ _ _=>rfl)
theorem zo:∀a,cN a->jO a a=ς true:=λa h=>by simp[jO,bE,strB,booB,Bx _ h]
theorem p5:∀xs,okL cN xs->iO xs xs=ς true:=oY zo (λ_ _=>rfl) (λ_ _ _=>rfl)
theorem KM:∀a,eQ a->uA a a=ς true:=λa h=>by simp[uA,bE,strB,booB,Bx _ h]
theorem At:∀xs,okL eQ xs->sE xs xs=ς true:=oY KM (λ_ _=>rfl) (λ_ _ _=>rfl)
theorem Au:∀a,df a->kN a a=ς true:=λa h=>by simp[kN,bE,strB,booB,p5 _ h.1,At _ h.2]
theorem MS:∀a,dt a->xy a a=ς true:=λa h=>by simp[xy,bE,strB,booB,Au _ h,UQ _ trivial]
theorem KI:∀xs,okL dt xs->y8 xs xs=ς true:=oY MS (λ_ _=>rfl) (λ_ _ _=>rfl)
theorem EL:Mk nC (okL (λ_=>True)) 1048576:=by
 refine pe (L:=lU) (b:=1) (by decide) (by decide) (λ_ _=>rfl) (λxs k=>by simp[lU,bH]) (λxs k i x hx hi hl hok h0 h1=>?_)
 skip
 refine⟨k+1,?_,by omega,by omega⟩
 have hw:∀n:Int,0<=n->n<=9223372036854775807->WR n=n:=λn h h'=>cG oaa
 simp(disch:=omega) only[lU,cr hi,bm,hx,WRs (k:=i),ab4,cond_true,hw,ab6,ab7]
theorem rJ:Mk fP (okL cN) 1099512676352:=by
 refine pe (L:=eM) (b:=1048577) (by decide) (by decide) (λ_ _=>rfl) (λxs k=>by simp[eM,bH]) (λxs k i x hx hi hl hok h0 h1=>?_)
 skip
 obtain⟨k0,e0,l0,u0⟩:=EL x.bk (k+1) hok oaa oaa
 refine⟨k0,?_,by omega,by omega⟩
 have hw:∀n:Int,0<=n->n<=9223372036854775807->WR n=n:=λn h h'=>cG oaa
 simp(disch:=omega) only[eM,cr hi,bm,hx,WRs (k:=i),ab4,cond_true,hw,ab6,ab7,e0]
theorem B5:Mk lW (okL eQ) 1099511627776:=by
 refine pe (L:=iV) (b:=1048576) (by decide) (by decide) (λ_ _=>rfl) (λxs k=>by simp[iV,bH]) (λxs k i x hx hi hl hok h0 h1=>?_)
 skip
 obtain⟨k0,e0,l0,u0⟩:=EL x.bk (k) hok oaa oaa
 refine⟨k0,?_,by omega,by omega⟩
 have hw:∀n:Int,0<=n->n<=9223372036854775807->WR n=n:=λn h h'=>cG oaa
 simp(disch:=omega) only[iV,cr hi,bm,hx,WRs (k:=i),ab4,cond_true,hw,ab6,ab7,e0]
theorem M5:Mk rh (okL dt) 2305844108737904640:=by
 refine pe (L:=jQ) (b:=2199024304140) (by decide) (by decide) (λ_ _=>rfl) (λxs k=>by simp[jQ,bH]) (λxs k i x hx hi hl hok h0 h1=>?_)
 skip
 obtain⟨k0,e0,l0,u0⟩:=rJ x.bY.am (k+12) hok.1 oaa oaa
 obtain⟨k1,e1,l1,u1⟩:=B5 x.bY.aD (k0) hok.2 oaa oaa
 refine⟨k1,?_,by omega,by omega⟩
 have hw:∀n:Int,0<=n->n<=9223372036854775807->WR n=n:=λn h h'=>cG oaa
 simp(disch:=omega) only[jQ,cr hi,bm,hx,WRs (k:=i),ab4,cond_true,hw,ab6,ab7,e0,e1]
def eJ(a:bh):Prop:=okL (λ_=>True) a.aV
def tV(a:bh):Prop:=oQ (λ_=>True) a.aV
def ez(a:aF):Prop:=okL cN a.aJ
def wM(a:aF):Prop:=oQ em a.aJ
def cV(a:ag):Prop:=eJ a.gu/\okL eQ a.aX/\ez a.aY
def pA(a:ag):Prop:=tV a.gu/\oQ kv a.aX/\wM a.aY
theorem NJ(h0:WTs [.i .i64,.i .i64,.i .i64,.i .i64,.i .i64,.i .i64,.i .i64,.l [.i .i64],.i .i64,.i .i64,.i .i64,.i .i64,.i .i64,.i .i64,.i .i64,.i .i64,.i .i64,.i .i64,.i .i64,.i .i64,.i .i64,.i .i64,.i .i64,.l [.l [.i .u8]],.i .i64,.l [.i .i64,.l [.i .u8]],.i .i64,.i .i64,.i .i64,.i .i64] x):∃a:ag,x=aB a/\pA a:=by
 obtain⟨n0,r0,rfl,w0,h1⟩:=h0.gi
 obtain⟨n1,r1,rfl,w1,h2⟩:=h1.gi
 obtain⟨n2,r2,rfl,w2,h3⟩:=h2.gi
 obtain⟨n3,r3,rfl,w3,h4⟩:=h3.gi
 obtain⟨n4,r4,rfl,w4,h5⟩:=h4.gi
 obtain⟨n5,r5,rfl,w5,h6⟩:=h5.gi
 obtain⟨n6,r6,rfl,w6,h7⟩:=h6.gi
 obtain⟨y7,r7,rfl,l7,w7,h8⟩:=h7.gl
 obtain⟨n7,rfl,p7⟩:=gZ (f:=eI) (p:=(λ_=>True)) (λx h=>by obtain⟨n,r,rfl,w,h⟩:=h.gi;obtain rfl:=h.gn;exact⟨n,rfl,θ⟩) w7
 obtain⟨n8,r8,rfl,w8,h9⟩:=h8.gi
 obtain⟨n9,r9,rfl,w9,h10⟩:=h9.gi
 obtain⟨n10,r10,rfl,w10,h11⟩:=h10.gi
 obtain⟨n11,r11,rfl,w11,h12⟩:=h11.gi
 obtain⟨n12,r12,rfl,w12,h13⟩:=h12.gi
 obtain⟨n13,r13,rfl,w13,h14⟩:=h13.gi
 obtain⟨n14,r14,rfl,w14,h15⟩:=h14.gi
 obtain⟨n15,r15,rfl,w15,h16⟩:=h15.gi
 obtain⟨n16,r16,rfl,w16,h17⟩:=h16.gi
 obtain⟨n17,r17,rfl,w17,h18⟩:=h17.gi
 obtain⟨n18,r18,rfl,w18,h19⟩:=h18.gi
 obtain⟨n19,r19,rfl,w19,h20⟩:=h19.gi
 obtain⟨n20,r20,rfl,w20,h21⟩:=h20.gi
 obtain⟨n21,r21,rfl,w21,h22⟩:=h21.gi
 obtain⟨n22,r22,rfl,w22,h23⟩:=h22.gi
 obtain⟨y23,r23,rfl,l23,w23,h24⟩:=h23.gl
 obtain⟨n23,rfl,p23⟩:=gZ (f:=bQ) (p:=kv) (λ_ h=>Fh h) w23
 obtain⟨n24,r24,rfl,w24,h25⟩:=h24.gi
 obtain⟨y25,r25,rfl,l25,w25,h26⟩:=h25.gl
 obtain⟨n25,rfl,p25⟩:=gZ (f:=ah) (p:=em) (λ_ h=>s5 h) w25
 obtain⟨n26,r26,rfl,w26,h27⟩:=h26.gi
 obtain⟨n27,r27,rfl,w27,h28⟩:=h27.gi
 obtain⟨n28,r28,rfl,w28,h29⟩:=h28.gi
 obtain⟨n29,r29,rfl,w29,h30⟩:=h29.gi
 obtain rfl:=h30.gn
 exact⟨⟨⟨⟨n0,n1⟩,n2,n3⟩,⟨n4,n5,n6,n7⟩,n8,⟨n9,n10,n11,n12,n13⟩,n14,n15,n16,n17,n18,n19,⟨n20,n21,n22⟩,n23,⟨n24,n25⟩,n26,⟨n27,n28,n29⟩⟩,rfl,⟨⟨by simpa using l7,p7⟩,⟨by simpa using l23,p23⟩,⟨by simpa using l25,p25⟩⟩⟩
theorem BC:Sz lX eJ tV:=by
 intro a left hp h0 h1
 unfold lX
 obtain⟨r0,a0,b0,c0⟩:=KT a.aV left hp h0 h1
 rcases c0 with⟨c0,rfl⟩|⟨c0,d0,e0⟩
 .exact⟨-1,by simp[a0,c0],by omega,.inl ⟨c0,rfl⟩⟩
 exact⟨r0,by simp[a0,c0],b0,.inr ⟨c0,d0,e0⟩⟩
theorem EH:Sz pa ez wM:=by
 intro a left hp h0 h1
 unfold pa
 obtain⟨r0,a0,b0,c0⟩:=p6 a.aJ left hp h0 h1
 rcases c0 with⟨c0,rfl⟩|⟨c0,d0,e0⟩
 .exact⟨-1,by simp[a0,c0],by omega,.inl ⟨c0,rfl⟩⟩
 exact⟨r0,by simp[a0,c0],b0,.inr ⟨c0,d0,e0⟩⟩
theorem KW:Sz uT cV pA:=by
 intro a left hp h0 h1
 unfold uT
 obtain⟨r0,a0,b0,c0⟩:=BC a.gu left hp.1 h0 h1
 rcases c0 with⟨c0,rfl⟩|⟨c0,d0,e0⟩
 .exact⟨-1,by simp[a0,c0],by omega,.inl ⟨c0,rfl⟩⟩
 obtain⟨r1,a1,b1,c1⟩:=Aw a.aX r0 hp.2.1 d0 b0
 rcases c1 with⟨c1,rfl⟩|⟨c1,d1,e1⟩
 .exact⟨-1,by simp[a0,c0,a1,c1],by omega,.inl ⟨c1,rfl⟩⟩
 obtain⟨r2,a2,b2,c2⟩:=EH a.aY r1 hp.2.2 d1 b1
 rcases c2 with⟨c2,rfl⟩|⟨c2,d2,e2⟩
 .exact⟨-1,by simp[a0,c0,a1,c1,a2,c2],by omega,.inl ⟨c2,rfl⟩⟩
 exact⟨r2,by simp[a0,c0,a1,c1,a2,c2],b2,.inr ⟨c2,d2,e0,e1,e2⟩⟩
theorem Iv:Sz wv (okL cV) (oQ pA):=ve KW (λ_ _=>rfl) (λ_ _ _=>rfl)
theorem wO:∀a,(λ_=>True) a->g8 a=ς a:=λa h=>by simp[g8,tW _ trivial]
theorem BF:∀a,eJ a->lY a=ς a:=λa h=>by simp[lY,K1 _ h]
theorem wN:∀a,(λ_=>True) a->lF a=ς a:=λa h=>by simp[lF]
theorem CD:∀a,(λ_=>True) a->nL a=ς a:=λa h=>by simp[nL]
theorem EI:∀a,ez a->pb a=ς a:=λa h=>by simp[pb,p8 _ h]
theorem Rh:∀a,(λ_=>True) a->Ak a=ς a:=λa h=>by simp[Ak]
theorem K4:∀a,cV a->uX a=ς a:=λa h=>by simp[uX,BF _ h.1,Ay _ h.2.1,EI _ h.2.2,wO _ trivial,wN _ trivial,CD _ trivial,Rh _ trivial]
theorem Ix:∀xs,okL cV xs->wy xs=ς xs:=pt (⟨⟨⟨0,0⟩,0,0⟩,⟨0,0,0,[]⟩,0,⟨0,0,0,0,0⟩,0,0,0,0,0,0,⟨0,0,0⟩,[],⟨0,[]⟩,0,⟨0,0,0⟩⟩:ag) (by decide) K4 (λ_=>rfl) (λ_ _ _=>rfl)
theorem wG:∀a,(λ_=>True) a->g7 a a=ς true:=λa h=>by simp[g7,bE,strB,booB,tT _ trivial]
theorem Bz:∀a,eJ a->lR a a=ς true:=λa h=>by simp[lR,bE,strB,booB,KL _ h]
theorem wF:∀a,(λ_=>True) a->lD a a=ς true:=λa h=>by simp[lD,bE,strB,booB]
theorem Cz:∀a,(λ_=>True) a->np a a=ς true:=λa h=>by simp[np,bE,strB,booB]
theorem EE:∀a,ez a->o5 a a=ς true:=λa h=>by simp[o5,bE,strB,booB,p5 _ h]
theorem Re:∀a,(λ_=>True) a->Ah a a=ς true:=λa h=>by simp[Ah,bE,strB,booB]
theorem KN:∀a,cV a->uB a a=ς true:=λa h=>by simp[uB,bE,strB,booB,Bz _ h.1,At _ h.2.1,EE _ h.2.2,wG _ trivial,wF _ trivial,Cz _ trivial,Re _ trivial]
theorem It:∀xs,okL cV xs->wk xs xs=ς true:=oY KN (λ_ _=>rfl) (λ_ _ _=>rfl)
theorem K8:Mk pQ (okL cV) 2305845208265261056:=by
 refine pe (L:=iX) (b:=2199025352731) (by decide) (by decide) (λ_ _=>rfl) (λxs k=>by simp[iX,bH]) (λxs k i x hx hi hl hok h0 h1=>?_)
 skip
 obtain⟨k0,e0,l0,u0⟩:=Ph x.gu.aV (k+7) hok.1 oaa oaa
 obtain⟨k1,e1,l1,u1⟩:=B5 x.aX (k0+15) hok.2.1 oaa oaa
 obtain⟨k2,e2,l2,u2⟩:=rJ x.aY.aJ (k1+1) hok.2.2 oaa oaa
 refine⟨k2+4,?_,by omega,by omega⟩
 have hw:∀n:Int,0<=n->n<=9223372036854775807->WR n=n:=λn h h'=>cG oaa
 simp(disch:=omega) only[iX,cr hi,bm,hx,WRs (k:=i),ab4,cond_true,hw,ab6,ab7,e0,e1,e2]
theorem Fi(h0:WTs [.i .i64,.i .i64] x):∃a:aA,x=bT a/\(λ_=>True) a:=by
 obtain⟨n0,r0,rfl,w0,h1⟩:=h0.gi
 obtain⟨n1,r1,rfl,w1,h2⟩:=h1.gi
 obtain rfl:=h2.gn
 exact⟨⟨n0,n1⟩,rfl,θ⟩
def dD(a:an):Prop:=okL (λ_=>True) a.aG
def pz(a:an):Prop:=oQ (λ_=>True) a.aG
theorem NH(h0:WTs [.i .i64,.i .i64,.i .i64,.l [.i .i64,.i .i64]] x):∃a:an,x=bu a/\pz a:=by
 obtain⟨n0,r0,rfl,w0,h1⟩:=h0.gi
 obtain⟨n1,r1,rfl,w1,h2⟩:=h1.gi
 obtain⟨n2,r2,rfl,w2,h3⟩:=h2.gi
 obtain⟨y3,r3,rfl,l3,w3,h4⟩:=h3.gl
 obtain⟨n3,rfl,p3⟩:=gZ (f:=bT) (p:=(λ_=>True)) (λ_ h=>Fi h) w3
 obtain rfl:=h4.gn
 exact⟨⟨n0,n1,n2,n3⟩,rfl,⟨by simpa using l3,p3⟩⟩
theorem BB:Sz pS (okL (λ_=>True)) (oQ (λ_=>True)):=IY (λ_ _=>rfl)
theorem KP:Sz uP dD pz:=by
 intro a left hp h0 h1
 unfold uP
 obtain⟨r0,a0,b0,c0⟩:=BB a.aG left hp h0 h1
 rcases c0 with⟨c0,rfl⟩|⟨c0,d0,e0⟩
 .exact⟨-1,by simp[a0,c0],by omega,.inl ⟨c0,rfl⟩⟩
 exact⟨r0,by simp[a0,c0],b0,.inr ⟨c0,d0,e0⟩⟩
theorem Iu:Sz wr (okL dD) (oQ pz):=ve KP (λ_ _=>rfl) (λ_ _ _=>rfl)
theorem CF:∀a,(λ_=>True) a->nN a=ς a:=λa h=>by simp[nN]
theorem BE:∀xs,okL (λ_=>True) xs->pT xs=ς xs:=pt (⟨0,0⟩:aA) (by decide) CF (λ_=>rfl) (λ_ _ _=>rfl)
theorem KX:∀a,dD a->uU a=ς a:=λa h=>by simp[uU,BE _ h]
theorem Iw:∀xs,okL dD xs->ww xs=ς xs:=pt (⟨0,0,0,[]⟩:an) (by decide) KX (λ_=>rfl) (λ_ _ _=>rfl)
theorem CB:∀a,(λ_=>True) a->ny a a=ς true:=λa h=>by simp[ny,bE,strB,booB]
theorem By:∀xs,okL (λ_=>True) xs->pM xs xs=ς true:=oY CB (λ_ _=>rfl) (λ_ _ _=>rfl)
theorem KE:∀a,dD a->uy a a=ς true:=λa h=>by simp[uy,bE,strB,booB,By _ h]
theorem Is:∀xs,okL dD xs->wi xs xs=ς true:=oY KE (λ_ _=>rfl) (λ_ _ _=>rfl)
theorem CG:Mk li (okL (λ_=>True)) 2097152:=by
 refine pe (L:=fQ) (b:=2) (by decide) (by decide) (λ_ _=>rfl) (λxs k=>by simp[fQ,bH]) (λxs k i x hx hi hl hok h0 h1=>?_)
 skip
 refine⟨k+2,?_,by omega,by omega⟩
 have hw:∀n:Int,0<=n->n<=9223372036854775807->WR n=n:=λn h h'=>cG oaa
 simp(disch:=omega) only[fQ,cr hi,bm,hx,WRs (k:=i),ab4,cond_true,hw,ab6,ab7]
theorem K7:Mk pN (okL dD) 2199026401280:=by
 refine pe (L:=iQ) (b:=2097155) (by decide) (by decide) (λ_ _=>rfl) (λxs k=>by simp[iQ,bH]) (λxs k i x hx hi hl hok h0 h1=>?_)
 skip
 obtain⟨k0,e0,l0,u0⟩:=CG x.aG (k+3) hok oaa oaa
 refine⟨k0,?_,by omega,by omega⟩
 have hw:∀n:Int,0<=n->n<=9223372036854775807->WR n=n:=λn h h'=>cG oaa
 simp(disch:=omega) only[iQ,cr hi,bm,hx,WRs (k:=i),ab4,cond_true,hw,ab6,ab7,e0]
def gJ(a:aS):Prop:=okL (λ_=>True) a.bk
def rH(a:aS):Prop:=oQ Bw a.bk
def ga(a:aT):Prop:=gJ a.a9
def vq(a:aT):Prop:=rH a.a9
def eP(a:aH):Prop:=ga a.cY
def rG(a:aH):Prop:=vq a.cY
theorem RN(h0:WTs [.i .i64,.b,.b,.i .i64,.i .i64,.i .i64,.i .i64,.i .i64,.i .i64,.i .i64,.i .i64,.i .i64,.i .i64,.i .i64,.i .i64,.i .i64,.i .i64,.i .i64,.i .i64,.l [.i .u8],.i .i64] x):∃a:aH,x=aW a/\rG a:=by
 obtain⟨n0,r0,rfl,w0,h1⟩:=h0.gi
 obtain⟨n1,r1,rfl,h2⟩:=h1.gb
 obtain⟨n2,r2,rfl,h3⟩:=h2.gb
 obtain⟨n3,r3,rfl,w3,h4⟩:=h3.gi
 obtain⟨n4,r4,rfl,w4,h5⟩:=h4.gi
 obtain⟨n5,r5,rfl,w5,h6⟩:=h5.gi
 obtain⟨n6,r6,rfl,w6,h7⟩:=h6.gi
 obtain⟨n7,r7,rfl,w7,h8⟩:=h7.gi
 obtain⟨n8,r8,rfl,w8,h9⟩:=h8.gi
 obtain⟨n9,r9,rfl,w9,h10⟩:=h9.gi
 obtain⟨n10,r10,rfl,w10,h11⟩:=h10.gi
 obtain⟨n11,r11,rfl,w11,h12⟩:=h11.gi
 obtain⟨n12,r12,rfl,w12,h13⟩:=h12.gi
 obtain⟨n13,r13,rfl,w13,h14⟩:=h13.gi
 obtain⟨n14,r14,rfl,w14,h15⟩:=h14.gi
 obtain⟨n15,r15,rfl,w15,h16⟩:=h15.gi
 obtain⟨n16,r16,rfl,w16,h17⟩:=h16.gi
 obtain⟨n17,r17,rfl,w17,h18⟩:=h17.gi
 obtain⟨n18,r18,rfl,w18,h19⟩:=h18.gi
 obtain⟨y19,r19,rfl,l19,w19,h20⟩:=h19.gl
 obtain⟨n19,rfl,p19⟩:=gZ (f:=eU8) (p:=Bw) (λx h=>by obtain⟨n,r,rfl,w,h⟩:=h.gi;obtain rfl:=h.gn;exact⟨n,rfl,Wk w⟩) w19
 obtain⟨n20,r20,rfl,w20,h21⟩:=h20.gi
 obtain rfl:=h21.gn
 exact⟨⟨n0,n1,n2,n3,⟨n4,n5,n6,n7,n8,⟨n9,n10,n11,n12,n13⟩,n14⟩,⟨n15,n16,⟨n17,n18,n19,n20⟩⟩⟩,rfl,⟨by simpa using l19,p19⟩⟩
theorem zt:Sz jV gJ rH:=by
 intro a left hp h0 h1
 unfold jV
 obtain⟨r0,a0,b0,c0⟩:=BA a.bk left hp h0 h1
 rcases c0 with⟨c0,rfl⟩|⟨c0,d0,e0⟩
 .exact⟨-1,by simp[a0,c0],by omega,.inl ⟨c0,rfl⟩⟩
 exact⟨r0,by simp[a0,c0],b0,.inr ⟨c0,d0,e0⟩⟩
theorem CC:Sz nK ga vq:=by
 intro a left hp h0 h1
 unfold nK
 obtain⟨r0,a0,b0,c0⟩:=zt a.a9 left hp h0 h1
 rcases c0 with⟨c0,rfl⟩|⟨c0,d0,e0⟩
 .exact⟨-1,by simp[a0,c0],by omega,.inl ⟨c0,rfl⟩⟩
 exact⟨r0,by simp[a0,c0],b0,.inr ⟨c0,d0,e0⟩⟩
theorem MZ:Sz xD eP rG:=by
 intro a left hp h0 h1
 unfold xD
 obtain⟨r0,a0,b0,c0⟩:=CC a.cY left hp h0 h1
 rcases c0 with⟨c0,rfl⟩|⟨c0,d0,e0⟩
 .exact⟨-1,by simp[a0,c0],by omega,.inl ⟨c0,rfl⟩⟩
 exact⟨r0,by simp[a0,c0],b0,.inr ⟨c0,d0,e0⟩⟩
theorem KS:Sz zi (okL eP) (oQ rG):=ve MZ (λ_ _=>rfl) (λ_ _ _=>rfl)
theorem M3:∀a,(λ_=>True) a->xG a=ς a:=λa h=>by simp[xG,wN _ trivial]
theorem zv:∀a,gJ a->jX a=ς a:=λa h=>by simp[jX,BD _ h]
theorem CE:∀a,ga a->nM a=ς a:=λa h=>by simp[nM,zv _ h]
theorem M2:∀a,eP a->xF a=ς a:=λa h=>by simp[xF,CE _ h,M3 _ trivial]
theorem K0:∀xs,okL eP xs->zk xs=ς xs:=pt (⟨0,η,η,0,⟨0,0,0,0,0,⟨0,0,0,0,0⟩,0⟩,⟨0,0,⟨0,0,[],0⟩⟩⟩:aH) (by decide) M2 (λ_=>rfl) (λ_ _ _=>rfl)
theorem MU:∀a,(λ_=>True) a->xA a a=ς true:=λa h=>by simp[xA,bE,strB,booB,wF _ trivial]
theorem zp:∀a,gJ a->jP a a=ς true:=λa h=>by simp[jP,bE,strB,booB,Bx _ h]
theorem CA:∀a,ga a->nu a a=ς true:=λa h=>by simp[nu,bE,strB,booB,zp _ h]
theorem MT:∀a,eP a->xz a a=ς true:=λa h=>by simp[xz,bE,strB,booB,CA _ h,MU _ trivial]
theorem KJ:∀xs,okL eP xs->y9 xs xs=ς true:=oY MT (λ_ _=>rfl) (λ_ _ _=>rfl)
theorem M6:Mk rj (okL eP) 1099532599296:=by
 refine pe (L:=jS) (b:=1048596) (by decide) (by decide) (λ_ _=>rfl) (λxs k=>by simp[jS,bH]) (λxs k i x hx hi hl hok h0 h1=>?_)
 skip
 obtain⟨k0,e0,l0,u0⟩:=EL x.cY.a9.bk (k+19) hok oaa oaa
 refine⟨k0+1,?_,by omega,by omega⟩
 have hw:∀n:Int,0<=n->n<=9223372036854775807->WR n=n:=λn h h'=>cG oaa
 simp(disch:=omega) only[jS,cr hi,bm,hx,WRs (k:=i),ab4,cond_true,hw,ab6,ab7,e0]
theorem EJ:∀a,(λ_=>True) a->pc a=ς a:=λa h=>by simp[pc]
theorem EF:∀a,(λ_=>True) a->o6 a a=ς true:=λa h=>by simp[o6,bE,strB,booB]
def dS(a:ae):Prop:=gW a.gr/\okL dt a.aO/\okL cV a.a8/\okL dD a.bU/\okL eP a.ax
def sL(a:ae):Prop:=B4 a.gr/\oQ rF a.aO/\oQ pA a.a8/\oQ pz a.bU/\oQ rG a.ax
theorem NI(h0:WTs [.l [.i .i64,.l [.i .i64]],.l [.i .i64,.i .i64,.i .i64,.i .i64,.i .i64,.i .i64,.i .i64,.i .i64,.i .i64,.b,.i .i64,.i .i64,.l [.i .i64,.l [.i .u8]],.l [.l [.i .u8]]],.l [.i .i64,.i .i64,.i .i64,.i .i64,.i .i64,.i .i64,.i .i64,.l [.i .i64],.i .i64,.i .i64,.i .i64,.i .i64,.i .i64,.i .i64,.i .i64,.i .i64,.i .i64,.i .i64,.i .i64,.i .i64,.i .i64,.i .i64,.i .i64,.l [.l [.i .u8]],.i .i64,.l [.i .i64,.l [.i .u8]],.i .i64,.i .i64,.i .i64,.i .i64],.l [.i .i64,.i .i64,.i .i64,.l [.i .i64,.i .i64]],.l [.i .i64,.b,.b,.i .i64,.i .i64,.i .i64,.i .i64,.i .i64,.i .i64,.i .i64,.i .i64,.i .i64,.i .i64,.i .i64,.i .i64,.i .i64,.i .i64,.i .i64,.i .i64,.l [.i .u8],.i .i64],.i .i64,.i .i64,.i .i64,.i .i64,.i .i64] x):∃a:ae,x=ev a/\sL a:=by
 obtain⟨y0,r0,rfl,l0,w0,h1⟩:=h0.gl
 obtain⟨n0,rfl,p0⟩:=gZ (f:=cQ) (p:=wL) (λ_ h=>Y0 h) w0
 obtain⟨y1,r1,rfl,l1,w1,h2⟩:=h1.gl
 obtain⟨n1,rfl,p1⟩:=gZ (f:=aZ) (p:=rF) (λ_ h=>RL h) w1
 obtain⟨y2,r2,rfl,l2,w2,h3⟩:=h2.gl
 obtain⟨n2,rfl,p2⟩:=gZ (f:=aB) (p:=pA) (λ_ h=>NJ h) w2
 obtain⟨y3,r3,rfl,l3,w3,h4⟩:=h3.gl
 obtain⟨n3,rfl,p3⟩:=gZ (f:=bu) (p:=pz) (λ_ h=>NH h) w3
 obtain⟨y4,r4,rfl,l4,w4,h5⟩:=h4.gl
 obtain⟨n4,rfl,p4⟩:=gZ (f:=aW) (p:=rG) (λ_ h=>RN h) w4
 obtain⟨n5,r5,rfl,w5,h6⟩:=h5.gi
 obtain⟨n6,r6,rfl,w6,h7⟩:=h6.gi
 obtain⟨n7,r7,rfl,w7,h8⟩:=h7.gi
 obtain⟨n8,r8,rfl,w8,h9⟩:=h8.gi
 obtain⟨n9,r9,rfl,w9,h10⟩:=h9.gi
 obtain rfl:=h10.gn
 exact⟨⟨⟨n0⟩,n1,n2,n3,n4,n5,⟨n6,n7⟩,n8,n9⟩,rfl,⟨⟨by simpa using l0,p0⟩,⟨by simpa using l1,p1⟩,⟨by simpa using l2,p2⟩,⟨by simpa using l3,p3⟩,⟨by simpa using l4,p4⟩⟩⟩
theorem KU:Sz uR dS sL:=by
 intro a left hp h0 h1
 unfold uR
 obtain⟨r0,a0,b0,c0⟩:=KQ a.gr left hp.1 h0 h1
 rcases c0 with⟨c0,rfl⟩|⟨c0,d0,e0⟩
 .exact⟨-1,by simp[a0,c0],by omega,.inl ⟨c0,rfl⟩⟩
 obtain⟨r1,a1,b1,c1⟩:=KR a.aO r0 hp.2.1 d0 b0
 rcases c1 with⟨c1,rfl⟩|⟨c1,d1,e1⟩
 .exact⟨-1,by simp[a0,c0,a1,c1],by omega,.inl ⟨c1,rfl⟩⟩
 obtain⟨r2,a2,b2,c2⟩:=Iv a.a8 r1 hp.2.2.1 d1 b1
 rcases c2 with⟨c2,rfl⟩|⟨c2,d2,e2⟩
 .exact⟨-1,by simp[a0,c0,a1,c1,a2,c2],by omega,.inl ⟨c2,rfl⟩⟩
 obtain⟨r3,a3,b3,c3⟩:=Iu a.bU r2 hp.2.2.2.1 d2 b2
 rcases c3 with⟨c3,rfl⟩|⟨c3,d3,e3⟩
 .exact⟨-1,by simp[a0,c0,a1,c1,a2,c2,a3,c3],by omega,.inl ⟨c3,rfl⟩⟩
 obtain⟨r4,a4,b4,c4⟩:=KS a.ax r3 hp.2.2.2.2 d3 b3
 rcases c4 with⟨c4,rfl⟩|⟨c4,d4,e4⟩
 .exact⟨-1,by simp[a0,c0,a1,c1,a2,c2,a3,c3,a4,c4],by omega,.inl ⟨c4,rfl⟩⟩
 exact⟨r4,by simp[a0,c0,a1,c1,a2,c2,a3,c3,a4,c4],b4,.inr ⟨c4,d4,e0,e1,e2,e3,e4⟩⟩
theorem K2:∀a,dS a->mn a=ς a:=λa h=>by simp[mn,KY _ h.1,KZ _ h.2.1,Ix _ h.2.2.1,Iw _ h.2.2.2.1,K0 _ h.2.2.2.2,EJ _ trivial]
theorem B3:∀a,dS a->ml a a=ς true:=λa h=>by simp[ml,bE,strB,booB,KH _ h.1,KI _ h.2.1,It _ h.2.2.1,Is _ h.2.2.2.1,KJ _ h.2.2.2.2,EF _ trivial]
theorem M7:Mk nH dS 4611693715074842624:=by
 intro a k h h0 h1
 obtain⟨k0,e0,l0,u0⟩:=M4 a.gr k h.1 oaa oaa
 obtain⟨k1,e1,l1,u1⟩:=M5 a.aO k0 h.2.1 oaa oaa
 obtain⟨k2,e2,l2,u2⟩:=K8 a.a8 k1 h.2.2.1 oaa oaa
 obtain⟨k3,e3,l3,u3⟩:=K7 a.bU k2 h.2.2.2.1 oaa oaa
 obtain⟨k4,e4,l4,u4⟩:=M6 a.ax k3 h.2.2.2.2 oaa oaa
 exact⟨k4,by simp only[nH,e0,e1,e2,e3,e4,ab4],by omega,by omega⟩
end Go.AM
namespace Go.AM
open Go.Proofs
attribute [local simp] bH bE bm
variable{α:Type}{k i:Nat}{r:Go.AM.aj}{p:Go.AM.bh}{w:Go.AM.aF}{s:Go.AM.ag}{x:Go.AM.ab}{a:Go.AM.an}{m:Go.AM.bz}{n:Go.AM.ae}{f:Go.AM.aH}{q:Go.AM.cU}{B:Int}
def jg(p:Nat->α->Bool)(xs:List α):Bool:=xs.zipIdx.all (λy=>p y.2 y.1)
theorem fZ{p:Nat->α->Bool}{xs:List α}:jg p xs=ζ↔∀(k:Nat) (x:α),xs[k]?=ς x->p k x=true:=by
 unfold jg
 rw[aai]
 constructor
 .intro h k x hx
  exact h (x,k) (by grind)
 grind
theorem L9{p q:Nat->α->Bool}{xs:List α}(h:∀(k:Nat) (x:α),xs[k]?=ς x->p k x=q k x):jg p xs=jg q xs:=by
 rw[ab5,fZ,fZ]
 simp_all
theorem Jp{p q:Nat->α->Bool}{xs:List α}:(jg p xs&&jg q xs)=jg (λk x=>p k x&&q k x) xs:=by
 rw[ab5,v0,fZ,fZ,fZ]
 grind
theorem tE{p:α->Bool}{xs:List α}:jg (λ_ x=>p x) xs=xs.all p:=by
 rw[ab5,fZ,aai]
 constructor
 .intro h x hx
  obtain⟨k,hk,rfl⟩:=List.getElem_of_mem hx
  exact h k _ (aab hk)
 grind
theorem eH{L:Int->Option (bN Int Bool)}(xs:List α)(p:Nat->α->Bool)(c:Option Bool)(hl:xs.length<=9223372036854775806)(hs:∀(k:Nat) (x:α),xs[k]?=ς x->k<xs.length->L (k:Int)=bif p k x then ς (.next ((k+1:Nat):Int)) else ς (.done η))(he:L (xs.length:Int)=dn c):
 iter L FU 0=bif jg p xs then c else ς false:=allK xs p c hl hs he
theorem uw{xs:List α}(hk:k<xs.length)(h0:0<k)(hl:xs.length<=9223372036854775806):∃y,xs[k-1]?=ς y/\ix xs (WR ((k:Int)-1))=ς y:=by
 have h1:k-1<xs.length:=by omega
 refine⟨xs[k-1],aab h1,?_⟩
 rw[cG oaa,show((k:Int)-1)=((k-1:Nat):Int) from by omega,bm,aab h1]
def iI(key:α->Int)(xs:List α)(k:Nat)(x:α):Bool:=match k with
 |0=>ζ
 |j+1=>match xs[j]? with
  |some y=>!leB (key x) (key y)
  |none=>η
def asc(xs:List Int):Bool:=jg (iI id xs) xs
theorem jp(a b c:Int):bM a b c=ς (inR a b c):=by
 unfold bM inR
 grind
theorem iy(a b c:Int):cX a b c=ς (inR a b c):=by
 unfold cX inR
 grind
theorem OC{xs:List Int}(h:xs.length<=1048576):ni xs=ς (asc xs):=by
 have key:∀(n m:Nat) (j:Nat),j+n=xs.length->1<=j->n<m->∃b,iter (jo xs) m (j:Int)=ς b/\(b=ζ↔∀k x,j<=k->xs[k]?=ς x->iI id xs k x=ζ):=by
  intro n
  induction n with
  |zero=>
   intro m j hj h1 hm
   cases m with
   |zero=>omega
   |succ m=>
    simp only[iter,jo]
    simp_all
  |succ n ih=>
   intro m j hj h1 hm
   cases m with
   |zero=>omega
   |succ m=>
    have hjl:j<xs.length:=by omega
    obtain⟨y,hy,hi⟩:=uw hjl oaa oaa
    simp only[iter,jo]
    rw[cr hjl,hi,bm,aab hjl]
    simp only[au]
    obtain⟨i,rfl⟩:∃i,j=i+1:=⟨j-1,by omega⟩
    simp only[aca] at hy
    cases hle:leB xs[i+1] y with
    |true=>
     refine⟨η,rfl,(λh=>by cases h),λhh=>?_⟩
     have:=hh (i+1) _ (aan _) (aab hjl)
     simp[iI,hy,hle] at this
    |false=>
     simp only[cond_false]
     rw[WRs (k:=i+1)]
     obtain⟨b,hb,hi⟩:=ih m (i+1+1) oaa oaa oaa
     refine⟨b,hb,hi.trans ⟨λhh k x hk hx=>?_,λhh k x hk hx=>hh k x oaa hx⟩⟩
     by_cases e:k=i+1
     .subst e
      rw[aab hjl] at hx;cases hx
      simp[iI,hy,hle]
     grind
 unfold ni
 cases hx:xs with
 |nil=>
  have:FU=(FU-1)+1:=by have:=oC;omega
  rw[this,iter]
  simp[jo,dn,ltB,asc,jg]
 |cons a l=>
  rw[<-hx]
  obtain⟨b,hb,hi⟩:=key (xs.length-1) FU 1 (by grind) (aan _) (by have:=oC;omega)
  rw[show(1:Int)=((1:Nat):Int) from rfl,hb]
  congr 1
  rw[ab5,hi,asc,fZ]
  constructor
  .intro hh k x hk
   cases k with
   |zero=>rfl
   |succ k=>simp_all
  simp_all
def tu(k:Int):Bool:=inR k 1 2147483646
theorem Ka(k:Int):eY k=ς (tu k):=by simp only[eY,jp,ab4,tu]
theorem Kb(k:Int):fT k=ς (tu k):=by simp only[fT,iy,ab4,tu]
def RH(x:cf):Bool:=inR x.dF 0 3&&inR x.bW 0 99
theorem ZI(x:cf):eZ x=ς (RH x):=by
 simp only[eZ,jp,ab4,RH];grind
theorem ZJ(x:cf):fc x=ς (RH x):=by
 simp only[fc,iy,ab4,RH];grind
def vr(x:ik):Bool:=RH x.ID&&(tu x.fg&&inR x.dE 0 999999)
theorem V4(x:ik):mT x=ς (vr x):=by
 simp only[mT,ZI,Ka,jp,ab4,vr];grind
theorem V5(x:ik):og x=ς (vr x):=by
 simp only[og,ZJ,Kb,iy,ab4,vr];grind
def BR(x:be):Bool:=RH x.ID&&(tu x.fg&&inR x.cP 0 999999)
theorem ZB(x:be):ef x=ς (BR x):=by
 simp only[ef,ZI,Ka,jp,ab4,BR];grind
theorem ZC(x:be):eg x=ς (BR x):=by
 simp only[eg,ZJ,Kb,iy,ab4,BR];grind
def pu(x:cT):Bool:=inR x.mG 0 2&&(inR x.kF 0 4&&inR x.mH 0 3)
theorem UL(x:cT):mR x=ς (pu x):=by
 simp only[mR,jp,ab4,pu];grind
theorem UM(x:cT):nZ x=ς (pu x):=by
 simp only[nZ,iy,ab4,pu];grind
def Ca(x:dh):Bool:=inR x.sk 1 6&&inR x.iK 0 (WR ((Jz .i64 1 x.sk)-1))
theorem pool_i(x:dh):qf x=ς (Ca x):=by
 simp only[qf,jp,ab4,Ca]
 cases h:inR x.sk 1 6 with
 |false=>rfl
 |true=>rw[show leB 0 x.sk=ζ from by rw[cJ] at h;simp[leB];omega];rfl
theorem pool_s(x:dh):qs x=ς (Ca x):=by
 simp only[qs,iy,ab4,Ca]
 cases h:inR x.sk 1 6 with
 |false=>rfl
 |true=>rw[show leB 0 x.sk=ζ from by rw[cJ] at h;simp[leB];omega];rfl
def oV(x:cU):Bool:=leB 0 x.bi&&(leB 0 x.gO&&(leB x.gO x.dg&&leB x.dg 100000))
theorem C9(x:cU):gP x=ς (oV x):=by
 simp only[gP,ab4,oV];grind
theorem Da(x:cU):gY x=ς (oV x):=by
 have:oV x=(leB 0 x.bi&&(inR x.dg 0 100000&&inR x.gO 0 x.dg)):=by
  rw[ab5];simp[oV,inR,leB];omega
 rw[this]
 simp only[gY,iy,ab4];grind
def vw(n:Nat):Bool:=!ltB 60 (n:Int)
def CL(xs:List aC):Bool:=xs.all λx=>vw x.bk.length
theorem Zh{xs:List aC}(h:xs.length<=1048576):sB xs=ς (CL xs):=
 SD xs (λx=>vw x.bk.length) oaa (λk x hx hk=>by
  simp only[qY,cr hk,bm,hx,WRs (k:=k),vw,au]
  simp_all) (by simp[qY,dn])
def As(r:aj)(k:Nat)(x:ab):Bool:=inR x.cP (WR (r.bK+1)) (WR (WR (r.bK+8)-1))&&(iI ab.cP r.am k x&&vw x.bk.length)
def oB(r:aj):Bool:=eqB r.bK (WR ((r.aD.length:Int)+1))&&(leB (r.aD.length:Int) 24&&(CL r.aD&&(leB (r.am.length:Int) 8&&jg (As r) r.am)))
theorem vn(a b:Int):ltB a b=!leB b a:=by rw[ab5];simp_all
theorem U4(h1:r.aD.length<=1048576)(h2:r.am.length<=1048576):it r=ς (oB r):=by
 have hL:iter (g6 r) FU 0=bif jg (As r) r.am then ς ζ else ς false:=by
  refine eH r.am (As r) (ς ζ) oaa (λk x hx hk=>?_) (by simp[g6])
  simp only[g6,cr hk,bm,hx,WRs (k:=k),jp,As,vw,au]
  cases k with
  |zero=>
   simp only[iI,show ltB 0 ((0:Nat):Int)=η from by simp[ltB]]
   cases ltB 60 (x.bk.length:Int)<;>cases inR x.cP (WR (r.bK+1)) (WR (WR (r.bK+8)-1))<;>rfl
  |succ k=>
   obtain⟨y,hy,hi⟩:=uw hk oaa oaa
   simp only[aca] at hy
   simp only[iI,hy,hi,show ltB 0 ((k+1:Nat):Int)=ζ from by simp[ltB],ab4]
   cases ltB 60 (x.bk.length:Int)<;>cases inR x.cP (WR (r.bK+1)) (WR (WR (r.bK+8)-1))<;>cases leB x.cP y.cP<;>rfl
 simp only[it,Zh h1,ab4,hL,oB,vn 24,vn 8]
 grind
theorem U5(h1:r.aD.length<=1048576)(h2:r.am.length<=1048576):iB r=ς (oB r):=by
 have hF:iter (fJ r) FU 0=bif jg (λ_ x=>vw x.bk.length) r.aD then ς (eqB r.bK (WR ((r.aD.length:Int)+1))&&(leB (r.aD.length:Int) 24&&leB (r.am.length:Int) 8)) else ς false:=by
  refine eH r.aD (λ_ x=>vw x.bk.length) _ oaa (λk x hx hk=>?_) ?_
  .simp only[fJ,cr hk,bm,hx,WRs (k:=k),vw,au]
   simp_all
  simp only[fJ,bH,cond_false]
  grind
 have hL:iter (hP r) FU 0=bif jg (As r) r.am then iter (fJ r) FU 0 else ς false:=by
  refine eH r.am (As r) _ oaa (λk x hx hk=>?_) (by simp[hP])
  simp only[hP,cr hk,bm,hx,WRs (k:=k),iy,As,vw,au]
  cases k with
  |zero=>
   simp only[iI,show ltB 0 ((0:Nat):Int)=η from by simp[ltB]]
   cases ltB 60 (x.bk.length:Int)<;>cases inR x.cP (WR (r.bK+1)) (WR (WR (r.bK+8)-1))<;>rfl
  |succ k=>
   obtain⟨y,hy,hi⟩:=uw hk oaa oaa
   simp only[aca] at hy
   simp only[iI,hy,hi,show ltB 0 ((k+1:Nat):Int)=ζ from by simp[ltB],ab4]
   cases ltB 60 (x.bk.length:Int)<;>cases inR x.cP (WR (r.bK+1)) (WR (WR (r.bK+8)-1))<;>cases leB x.cP y.cP<;>rfl
 rw[tE] at hF
 simp only[iB,hL,hF,oB,CL]
 grind
def qB(d:av):Bool:=vr d.dJ&&(inR d.bV 0 3&&(inR d.bJ 0 5&&(inR d.ak 0 999999&&(inR d.aU 0 999999&&(inR d.bj 0 2147483646&&((!inR d.bV 2 3||tu d.bj)&&(inR d.mH 0 3&&oB d.bY)))))))
theorem st23(n:Int):inR n 2 3=(eqB n 2||eqB n 3):=by rw[ab5];simp[inR,leB,eqB];omega
theorem Tf{d:av}(h1:d.bY.aD.length<=1048576)(h2:d.bY.am.length<=1048576):mO d=ς (qB d):=by
 simp only[mO,V4,jp,Ka,U4 h1 h2,ab4,qB,st23]
 grind
theorem Tg{d:av}(h1:d.bY.aD.length<=1048576)(h2:d.bY.am.length<=1048576):nW d=ς (qB d):=by
 simp only[nW,V5,iy,Kb,U5 h1 h2,ab4,qB]
 grind
theorem tK{α:Type}{step:Int×Int->Option (bN (Int×Int) Int)}(xs:List α)(f:Int->α->Int)(hl:xs.length<=9223372036854775806)(hs:∀(k:Nat) (x:α) (a:Int),xs[k]?=ς x->k<xs.length->step (a,(k:Int))=ς (.next (f a x,((k+1:Nat):Int))))(he:∀a,step (a,(xs.length:Int))=ς (.done a))(a0:Int):
 iter step FU (a0,0)=ς (xs.foldl f a0):=by
 have:=eE (step:=step) xs (λk (v:Int)=>(v,(k:Int))) (λv x=>ς (.next (f v x))) ς hl
  (λk x s hx hk=>by simp_all) (λs=>by rw[he];rfl) a0
 refine Eq.trans (show iter step FU (a0,0)=_ from this) ?_
 clear this he hs
 induction xs generalizing a0 with
 |nil=>rfl
 |cons x xs ih=>rw[lu,ack];grind
def zm(xs:List ab):Int:=xs.foldl (λa x=>WR (a+(x.bk.length:Int))) 0
theorem nb_i{xs:List ab}(h:xs.length<=1048576):nj xs=ς (zm xs):=by
 unfold nj
 rw[tK xs (λa x=>WR (a+(x.bk.length:Int))) oaa (λk x a hx hk=>by
  simp only[nk,cr hk,bm,hx,WRs (k:=k),au]) (λa=>by simp[nk])]
 rfl
theorem nb_s{xs:List ab}(h:xs.length<=1048576):qF xs=ς (zm xs):=by
 unfold qF
 rw[tK xs (λa x=>WR (a+(x.bk.length:Int))) oaa (λk x a hx hk=>by
  simp only[va,cr hk,bm,hx,WRs (k:=k),au]) (λa=>by simp[va])]
 rfl
def Nb(q:cU):Int:=bif oV q then WR (q.dg-q.gO) else 0
theorem rem_i(q:cU):lO q=ς (Nb q):=by simp only[lO,C9,ab4,Nb];grind
theorem rem_s(q:cU):me q=ς (Nb q):=by simp only[me,Da,ab4,Nb];grind
def Iz(p:bh):Bool:=inR p.ij 1 1000&&(inR p.ic 1 4&&inR p.ig 1 100000)
def AX(p:bh):Bool:=Iz p&&jg (λk x=>inR x 0 3&&iI id p.aV k x) p.aV
theorem subs_i(h:eJ p):gx p=ς (AX p):=by
 have hl:=h.1
 have hL:iter (fk p) FU 0=bif jg (λ_ x=>inR x 0 3) p.aV then ς (asc p.aV) else ς false:=by
  refine eH p.aV (λ_ x=>inR x 0 3) _ oaa (λk x hx hk=>?_) (by simp[fk,OC hl])
  simp only[fk,cr hk,bm,hx,WRs (k:=k),jp,au]
  cases inR x 0 3<;>rfl
 simp only[gx,jp,ab4,hL,AX,Iz,<-Jp,asc]
 grind
theorem subs_s(h:eJ p):gM p=ς (AX p):=by
 have hl:=h.1
 have hL:iter (fy p) FU 0=bif jg (λk x=>inR x 0 3&&iI id p.aV k x) p.aV then ς (Iz p) else ς false:=by
  refine eH p.aV _ _ oaa (λk x hx hk=>?_) ?_
  .simp only[fy,cr hk,bm,hx,WRs (k:=k),iy,au]
   cases k with
   |zero=>
    simp only[iI,show ltB 0 ((0:Nat):Int)=η from by simp[ltB]]
    cases inR x 0 3<;>rfl
   |succ k=>
    obtain⟨y,hy,hi⟩:=uw hk oaa oaa
    simp only[aca] at hy
    simp only[iI,hy,hi,hx,bm,show ltB 0 ((k+1:Nat):Int)=ζ from by simp[ltB],ab4,id]
    cases inR x 0 3<;>cases leB x y<;>rfl
  simp only[fy,bH,iy,Iz,au]
  grind
 simp only[gM,hL,AX]
 grind
def unB(w:aF)(k:Nat)(x:ab):Bool:=eqB x.cP (WR (WR (w.bK-(w.aJ.length:Int))+(k:Int)))&&vw x.bk.length
def ke(w:aF):Bool:=inR w.bK 1 100000&&(leB (w.aJ.length:Int) 8&&(leB 1 (WR (w.bK-(w.aJ.length:Int)))&&jg (unB w) w.aJ))
theorem Vy(h:ez w):mS w=ς (ke w):=by
 have hl:=h.1
 have hL:iter (jM w) FU 0=bif jg (unB w) w.aJ then ς ζ else ς false:=by
  refine eH w.aJ (unB w) _ oaa (λk x hx hk=>?_) (by simp[jM])
  simp only[jM,cr hk,bm,hx,WRs (k:=k),unB,vw,au]
  cases eqB x.cP (WR (WR (w.bK-(w.aJ.length:Int))+(k:Int)))<;>cases ltB 60 (x.bk.length:Int)<;>rfl
 simp only[mS,jp,ab4,hL,ke,vn]
 grind
theorem Vz(h:ez w):oc w=ς (ke w):=by
 have hl:=h.1
 have hL:iter (j0 w) FU 0=bif jg (unB w) w.aJ then ς (inR w.bK 1 100000&&(leB (w.aJ.length:Int) 8&&leB 1 (WR (w.bK-(w.aJ.length:Int))))) else ς false:=by
  refine eH w.aJ (unB w) _ oaa (λk x hx hk=>?_) ?_
  .simp only[j0,cr hk,bm,hx,WRs (k:=k),unB,vw,au]
   cases eqB x.cP (WR (WR (w.bK-(w.aJ.length:Int))+(k:Int)))<;>cases ltB 60 (x.bk.length:Int)<;>rfl
  simp only[j0,bH,iy,au]
  grind
 simp only[oc,hL,ke]
 grind
def Vv(a b:List Int):Bool:=strB (Dq a) (Dq b)
theorem eqb_i(a b:List Int):vQ a b=ς (Vv a b):=rfl
theorem eqb_s(a b:List Int):wV a b=ς (Vv a b):=rfl
def EY(s:ag)(x:ab):Bool:=match s.aX[(x.cP-1).toNat]? with
 |some y=>Vv x.bk y.bk
 |none=>η
def mf(s:ag):Bool:=leB (s.aX.length:Int) 24&&(CL s.aX&&(ke s.aY&&leB s.aY.bK (WR ((s.aX.length:Int)+1))))
def vp(s:ag):Bool:=leB (zm s.aY.aJ) (Nb s.dq)
def GD(s:ag):Bool:=(!eqB s.bV 1||tu s.bj)&&(!ltB 0 s.bw||tu s.am.fg)
def kC(s:ag):Bool:=BR s.bF&&(AX s.gu&&(pu s.oy&&(ke s.aY&&(oV s.dq&&(inR s.bV 0 1&&(GD s&&(inR s.bw 0 999999&&(inR s.ak 0 999999&&(inR s.aU 0 999999&&(inR s.bj 0 2147483646&&
 (inR s.bJ 0 5&&(inR s.kY 0 5&&(inR s.kf 0 3&&(leB (s.aX.length:Int) 24&&(CL s.aX&&(leB s.aY.bK (WR ((s.aX.length:Int)+1))&&(s.aY.aJ.all (EY s)&&vp s)))))))))))))))))
theorem ZO(hs:mf s=ζ)(hx:s.aY.aJ[k]?=ς x):∃y,ix s.aX (WR (x.cP-1))=ς y/\s.aX[(x.cP-1).toNat]?=ς y:=by
 simp only[mf,ke,v0,fZ,cJ] at hs
 obtain⟨h1,h2,⟨⟨h3,h3'⟩,h4,h5,h6⟩,h7⟩:=hs
 have hk:=(aaa.1 hx).1
 have h8:=h6 k x hx
 simp only[unB,v0] at h8
 have h4':(s.aY.aJ.length:Int)<=8:=by simpa [leB] using h4
 have h1':(s.aX.length:Int)<=24:=by simpa [leB] using h1
 rw[cG oaa] at h5
 rw[cG oaa] at h7
 have h9:=h8.1
 rw[cG (n:=s.aY.bK-_) oaa,cG oaa] at h9
 have h9':x.cP=s.aY.bK-s.aY.aJ.length+k:=by simpa [eqB] using h9
 have h5':1<=s.aY.bK-(s.aY.aJ.length:Int):=by simpa [leB] using h5
 have h7':s.aY.bK<=(s.aX.length:Int)+1:=by simpa [leB] using h7
 have hlt:(x.cP-1).toNat<s.aX.length:=by omega
 refine⟨s.aX[(x.cP-1).toNat],?_,aab hlt⟩
 have hm:x.cP-1=(((x.cP-1).toNat:Nat):Int):=by omega
 rw[cG oaa]
 simp_all
theorem tail_i(h:cV s)(hs:mf s=ζ):iter (eO s) FU 0=ς (s.aY.aJ.all (EY s)&&vp s):=by
 have hl:=h.2.2.1
 have:=eH (L:=eO s) s.aY.aJ (λ_ x=>EY s x) (ς (vp s)) oaa (λk x hx hk=>by
  obtain⟨y,h1,h2⟩:=ZO hs hx
  simp only[eO,cr hk,bm,hx,h1,eqb_i,WRs (k:=k),EY,h2,au]
  simp_all) (by simp[eO,mU,nb_i hl,rem_i,vp])
 rw[this,tE]
 grind
theorem tail_s(h:cV s)(hs:mf s=ζ):iter (jG s) FU 0=ς (s.aY.aJ.all (EY s)&&vp s):=by
 have hl:=h.2.2.1
 have:=eH (L:=jG s) s.aY.aJ (λ_ x=>EY s x) (ς (vp s)) oaa (λk x hx hk=>by
  obtain⟨y,h1,h2⟩:=ZO hs hx
  simp only[jG,cr hk,bm,hx,h1,eqb_s,WRs (k:=k),EY,h2,au]
  simp_all) (by simp[jG,nb_s hl,rem_s,vp])
 rw[this,tE]
 grind
theorem VJ(h:cV s):vb s=ς (mf s&&(s.aY.aJ.all (EY s)&&vp s)):=by
 have hl:=h.2.1.1
 have hL:=eH (L:=pp s) s.aX (λ_ x=>vw x.bk.length) (bif leB (s.aX.length:Int) 24&&(ke s.aY&&leB s.aY.bK (WR ((s.aX.length:Int)+1))) then iter (jG s) FU 0 else ς η) oaa (λk x hx hk=>by
  simp only[pp,cr hk,bm,hx,WRs (k:=k),vw,au]
  simp_all) (by
  simp only[pp,bH,Vz h.2.2,vn,au]
  grind)
 rw[tE] at hL
 unfold vb
 rw[hL]
 cases hs:mf s with
 |true=>
  rw[tail_s h hs]
  simp only[mf,CL,v0] at hs
  grind
 |false=>
  have:(leB (s.aX.length:Int) 24&&(ke s.aY&&leB s.aY.bK (WR ((s.aX.length:Int)+1))))=η\/(s.aX.all λx=>vw x.bk.length)=false:=by
   simp only[mf,CL] at hs
   revert hs
   cases leB (s.aX.length:Int) 24<;>cases ke s.aY<;>cases leB s.aY.bK (WR ((s.aX.length:Int)+1))<;>cases(s.aX.all λx=>vw x.bk.length)<;>simp
  grind
theorem st01(n:Int):inR n 0 1=(eqB n 0||eqB n 1):=by rw[ab5];simp[inR,leB,eqB];omega
theorem RA(h:cV s):lN s=ς (kC s):=by
 have hz:=λhs=>tail_i h hs
 simp only[lN,ZB,subs_i h.1,UL,Vy h.2.2,C9,Ka,jp,Zh h.2.1.1,ab4,kC,GD,st01,vn 24,vn (WR ((s.aX.length:Int)+1))]
 simp only[mf] at hz
 revert hz
 generalize iter (eO s) FU 0=z
 cases BR s.bF
 .intro _;rfl
 cases AX s.gu
 .intro _;rfl
 cases pu s.oy
 .intro _;rfl
 cases ke s.aY
 .intro _;rfl
 cases oV s.dq
 .intro _;rfl
 cases eqB s.bV 0<;>cases eqB s.bV 1<;>try (intro _;rfl)
 all_goals
  cases tu s.bj<;>cases ltB 0 s.bw<;>cases tu s.am.fg<;>try (intro _;rfl)
 all_goals
  cases inR s.bw 0 999999<;>cases inR s.ak 0 999999<;>cases inR s.aU 0 999999<;>cases inR s.bj 0 2147483646<;>try (intro _;rfl)
 all_goals
  cases inR s.bJ 0 5<;>cases inR s.kY 0 5<;>cases inR s.kf 0 3<;>try (intro _;rfl)
 all_goals
  cases leB (s.aX.length:Int) 24<;>cases CL s.aX<;>cases leB s.aY.bK (WR ((s.aX.length:Int)+1))<;>intro hz<;>first|rfl|exact hz rfl
theorem RB(h:cV s):mc s=ς (kC s):=by
 have:kC s=(inR s.bV 0 1&&(GD s&&(BR s.bF&&(AX s.gu&&(pu s.oy&&(oV s.dq&&((mf s&&(s.aY.aJ.all (EY s)&&vp s))&&(inR s.bw 0 999999&&(inR s.ak 0 999999&&(inR s.aU 0 999999&&(inR s.bj 0 2147483646&&(inR s.bJ 0 5&&(inR s.kY 0 5&&inR s.kf 0 3))))))))))))):=by
  simp only[kC,mf];ac_rfl
 rw[this]
 simp only[mc,ZC,subs_s h.1,UM,Da,Kb,iy,VJ h,ab4,GD,st01]
 cases eqB s.bV 0<;>cases eqB s.bV 1<;>cases tu s.bj<;>cases ltB 0 s.bw<;>cases tu s.am.fg<;>try rfl
 all_goals
  cases BR s.bF<;>cases AX s.gu<;>cases pu s.oy<;>cases oV s.dq<;>cases(mf s&&(s.aY.aJ.all (EY s)&&vp s))<;>try rfl
 all_goals
  cases inR s.bw 0 999999<;>cases inR s.ak 0 999999<;>cases inR s.aU 0 999999<;>cases inR s.bj 0 2147483646<;>try rfl
 all_goals
  cases inR s.bJ 0 5<;>cases inR s.kY 0 5<;>rfl
def VT(a:an):Int:=a.aG.foldl (λs x=>WR (s+x.dX)) 0
theorem totr_i(h:dD a):mY a=ς (VT a):=by
 have:=h.1
 unfold mY
 rw[tK a.aG (λs x=>WR (s+x.dX)) oaa (λk x s hx hk=>by
  simp only[mZ,cr hk,bm,hx,WRs (k:=k),au]) (λs=>by simp[mZ])]
 rfl
theorem totr_s(h:dD a):ot a=ς (VT a):=by
 have:=h.1
 unfold ot
 rw[tK a.aG (λs x=>WR (s+x.dX)) oaa (λk x s hx hk=>by
  simp only[ou,cr hk,bm,hx,WRs (k:=k),au]) (λs=>by simp[ou])]
 rfl
def FV(a:an)(k:Nat)(x:aA):Bool:=!ltB x.bi 0&&(inR x.dX 1 100000&&iI aA.bi a.aG k x)
def VS(a:an):Bool:=eqB (WR (WR (a.er+a.pv)+VT a)) a.jf
def ox(a:an):Bool:=inR a.jf 0 100000&&(inR a.er 0 a.jf&&(inR a.pv 0 a.jf&&(leB (a.aG.length:Int) 8&&(jg (FV a) a.aG&&VS a))))
theorem F6(h:dD a):jk a=ς (ox a):=by
 have hl:=h.1
 have hL:iter (iL a) FU 0=bif jg (FV a) a.aG then ς (VS a) else ς false:=by
  refine eH a.aG (FV a) _ oaa (λk x hx hk=>?_) (by simp[iL,totr_i h,VS])
  simp only[iL,cr hk,bm,hx,WRs (k:=k),jp,FV,au]
  cases k with
  |zero=>
   simp only[iI,show ltB 0 ((0:Nat):Int)=η from by simp[ltB]]
   cases ltB x.bi 0<;>cases inR x.dX 1 100000<;>rfl
  |succ k=>
   obtain⟨y,hy,hi⟩:=uw hk oaa oaa
   simp only[aca] at hy
   simp only[iI,hy,hi,show ltB 0 ((k+1:Nat):Int)=ζ from by simp[ltB],ab4]
   cases ltB x.bi 0<;>cases inR x.dX 1 100000<;>cases leB x.bi y.bi<;>rfl
 simp only[jk,jp,ab4,hL,ox,vn 8]
 grind
theorem F7(h:dD a):ju a=ς (ox a):=by
 have hl:=h.1
 have hL:iter (i9 a) FU 0=bif jg (FV a) a.aG then ς (inR a.jf 0 100000&&(inR a.er 0 a.jf&&(inR a.pv 0 a.jf&&(leB (a.aG.length:Int) 8&&VS a)))) else ς false:=by
  refine eH a.aG (FV a) _ oaa (λk x hx hk=>?_) ?_
  .simp only[i9,cr hk,bm,hx,WRs (k:=k),iy,FV,au]
   cases k with
   |zero=>
    simp only[iI,show ltB 0 ((0:Nat):Int)=η from by simp[ltB]]
    cases ltB x.bi 0<;>cases inR x.dX 1 100000<;>rfl
   |succ k=>
    obtain⟨y,hy,hi⟩:=uw hk oaa oaa
    simp only[aca] at hy
    simp only[iI,hy,hi,hx,bm,show ltB 0 ((k+1:Nat):Int)=ζ from by simp[ltB],ab4]
    cases ltB x.bi 0<;>cases inR x.dX 1 100000<;>cases leB x.bi y.bi<;>rfl
  simp only[i9,bH,iy,totr_s h,VS,au]
  grind
 simp only[ju,hL,ox]
 grind
def BJ(a:an)(i:Int):Int:=match a.aG.find? (λx=>eqB x.bi i) with
 |some x=>x.dX
 |none=>0
theorem Ok(p:α->Bool)(xs:List α):(ye p 0 xs= -1/\xs.find? p=ξ)\/∃x,ltB (ye p 0 xs) 0=η/\ix xs (ye p 0 xs)=ς x/\xs.find? p=ς x:=by
 rcases Bl p xs 0 with⟨h1,h2⟩|⟨j,h1,x,h2,h3,h4⟩
 .simp_all
 right
 have h1':ye p 0 xs=(j:Int):=by simpa using h1
 refine⟨x,by simp_all,by simp_all,?_⟩
 have hj:=(aaa.1 h2)
 rw[List.find?_eq_some_iff_getElem]
 have hjl:=hj.1
 refine⟨h3,j,hjl,hj.2,λi hi=>?_⟩
 have hil:i<xs.length:=Nat.lt_trans hi hjl
 have:xs[i]∈xs.take j:=List.mem_take_iff_getElem.2 ⟨i,by omega,rfl⟩
 simp_all
theorem U9(h:dD a)(i:Int):qg a i=ς (BJ a i):=by
 have:=h.1
 have hf:=xp (L:=gB a i) a.aG (λx=>eqB x.bi i) oaa (λk x hx hk=>by
  simp only[gB,cr hk,bm,hx,WRs (k:=k),au]
  rfl) (by simp[gB,dn])
 unfold qg nm BJ
 rw[hf]
 rcases Ok (λx:aA=>eqB x.bi i) a.aG with⟨e1,e2⟩|⟨x,e1,e2,e3⟩
 .rw[e1,e2];simp[ltB]
 grind
theorem Va(h:dD a)(i:Int):qt a i=ς (BJ a i):=by
 have:=h.1
 have hf:=xp (L:=sR a i) a.aG (λx=>eqB x.bi i) oaa (λk x hx hk=>by
  simp only[sR,cr hk,bm,hx,WRs (k:=k),au]
  rfl) (by simp[sR,dn])
 unfold qt EV BJ
 rw[hf]
 rcases Ok (λx:aA=>eqB x.bi i) a.aG with⟨e1,e2⟩|⟨x,e1,e2,e3⟩
 .rw[e1,e2];simp[ltB]
 grind
def zH(a:an)(q:cU):Bool:=ox a&&(oV q&&eqB (BJ a q.bi) q.dg)
theorem X2(h:dD a)(q:cU):gz a q=ς (zH a q):=by
 simp only[gz,F6 h,C9,U9 h,ab4,zH];grind
theorem X3(h:dD a)(q:cU):gN a q=ς (zH a q):=by
 simp only[gN,F7 h,Da,Va h,ab4,zH];grind
theorem uh{ρ:Type}{L:Int->Option (bN Int ρ)}(xs:List α)(p:Nat->α->Bool)(f:ρ)(c:Option ρ)(hl:xs.length<=9223372036854775806)(hs:∀(k:Nat) (x:α),xs[k]?=ς x->k<xs.length->L (k:Int)=bif p k x then ς (.next ((k+1:Nat):Int)) else ς (.done f))(he:L (xs.length:Int)=dn c):
 iter L FU 0=bif jg p xs then c else ς f:=by
 have:=eE (step:=L) xs.zipIdx (λk (_:Unit)=>(k:Int)) (λ_ y=>bif p y.2 y.1 then ς (.next ()) else ς (.done f)) (λ_=>c) (by simp_all)
  (λk y s hy hk=>by
   have hk':k<xs.length:=by simpa using hk
   have:y=(xs[k],k):=by rw[aab hk] at hy;simpa using hy.symm
   simp_all) (λs=>by simp_all) ()
 refine Eq.trans (show iter L FU 0=_ from this) ?_
 have key:∀ys:List (α×Nat),lu (λ(_:Unit) y=>bif p y.2 y.1 then ς (.next ()) else ς (bN.done f)) (λ_=>c) ys ()=bif ys.all (λy=>p y.2 y.1) then c else ς f:=by
  intro ys
  induction ys with
  |nil=>rfl
  |cons x xs ih=>rw[lu];grind
 exact key _
theorem Zk{l:List Int}(h:l.length<=1048576)(v:Int):Df l v=ς (l.any λx=>eqB x v):=
 Jr l (λx=>eqB x v) oaa (λk x hx hk=>by
  simp only[zF,cr hk,bm,hx,WRs (k:=k),au]
  rfl) (by simp[zF,dn])
theorem Ts(a b:Int):eqB a b=eqB b a:=by rw[ab5];simp[eqB];exact eq_comm
theorem has_i{l:List Int}(h:l.length<=1048576)(v:Int):eV l v=ς (l.any λx=>eqB x v):=by
 have hf:=xp (L:=eW l v) l (λx=>eqB x v) oaa (λk x hx hk=>by
  simp only[eW,cr hk,bm,hx,WRs (k:=k),Ts v x,au]
  rfl) (by simp[eW,dn])
 unfold eV jI
 rw[hf]
 simp only[ab4]
 rw[D3 oaa]
def jJ(m:bz)(i:Int):Bool:=inR i 0 ((m.bD.length:Int)-1)
theorem Hq(h:m.bD.length<=1048576)(i:Int):qj m i=ς (jJ m i):=by
 simp only[qj,jp,zL h,ab4,jJ]
def BV(m:bz)(x:Int)(i:Nat):Bool:=match m.bD[x.toNat]? with
 |some d=>d.bI.any λy=>eqB y (i:Int)
 |none=>η
def nbB(m:bz)(i:Nat)(ns:List Int)(k:Nat)(x:Int):Bool:=jJ m x&&(!eqB x (i:Int)&&(iI id ns k x&&BV m x i))
def Fa(m:bz)(i:Nat)(c:cA):Bool:=inR c.mG 0 2&&jg (nbB m i c.bI) c.bI
def F1(m:bz):Bool:=inR (m.bD.length:Int) 1 6&&jg (Fa m) m.bD
theorem N3{x:Int}(h:jJ m x=ζ):∃d,d∈m.bD/\ix m.bD x=ς d/\m.bD[x.toNat]?=ς d:=by
 simp only[jJ,cJ] at h
 have hlt:x.toNat<m.bD.length:=by omega
 refine⟨m.bD[x.toNat],ab9 hlt,?_,aab hlt⟩
 have hm:x=(x.toNat:Int):=by omega
 generalize x.toNat=m at hm hlt ⊢
 simp_all
theorem map_i(h:gW m):sx m=ς (F1 m):=by
 have hl:=h.1
 have h2:∀(i:Nat) (c:cA),c∈m.bD->i<m.bD.length->iter (mQ m (i:Int) c) FU 0=bif jg (λk x=>!eqB x (i:Int)&&(jJ m x&&BV m x i)) c.bI then ς (.next ((i+1:Nat):Int)) else ς (.done η):=by
  intro i c hc hi
  have hn:=(h.2 c hc).1
  refine uh c.bI (λk x=>!eqB x (i:Int)&&(jJ m x&&BV m x i)) (bN.done η) _ oaa (λk x hx hk=>?_) (by simp[mQ,WRs (k:=i)])
  simp only[mQ,cr hk,bm,hx,WRs (k:=k),Hq hl,s9,au]
  cases eqB x (i:Int) with
  |true=>rfl
  |false=>
   cases hcb:jJ m x with
   |false=>rfl
   |true=>
    obtain⟨d,d1,d2,d3⟩:=N3 hcb
    simp only[d2,has_i (h.2 d d1).1,BV,d3,au]
    simp_all
 have hL:iter (mP m) FU 0=bif jg (Fa m) m.bD then ς ζ else ς false:=by
  refine uh m.bD (Fa m) η (ς ζ) oaa (λk x hx hk=>?_) (by simp[mP])
  have hm:=aac hx
  simp only[mP,cr hk,bm,hx,jp,OC (h.2 x hm).1,h2 k x hm hk,Fa,au]
  have:jg (nbB m k x.bI) x.bI=(asc x.bI&&jg (λj y=>!eqB y (k:Int)&&(jJ m y&&BV m y k)) x.bI):=by
   rw[asc,Jp]
   exact L9 λj y _=>by simp only[nbB];ac_rfl
  rw[this]
  cases inR x.mG 0 2<;>cases asc x.bI<;>cases jg (λj y=>!eqB y (k:Int)&&(jJ m y&&BV m y k)) x.bI<;>rfl
 simp only[sx,jp,ab4,hL,F1]
 grind
theorem map_s(h:gW m):sO m=ς (F1 m):=by
 have hl:=h.1
 have h2:∀(i:Nat) (c:cA),c∈m.bD->i<m.bD.length->iter (nY m (i:Int) c) FU 0=bif jg (nbB m i c.bI) c.bI then ς (.next ((i+1:Nat):Int)) else ς (.done η):=by
  intro i c hc hi
  have hn:=(h.2 c hc).1
  refine uh c.bI (nbB m i c.bI) (bN.done η) _ oaa (λk x hx hk=>?_) (by simp[nY,WRs (k:=i)])
  simp only[nY,cr hk,bm,hx,WRs (k:=k),iy,zL hl,nbB,au]
  cases hcb:jJ m x with
  |false=>rw[show inR x 0 ((m.bD.length:Int)-1)=η from hcb];rfl
  |true=>
   rw[show inR x 0 ((m.bD.length:Int)-1)=ζ from hcb]
   obtain⟨d,d1,d2,d3⟩:=N3 hcb
   cases k with
   |zero=>
    simp only[iI,show ltB 0 ((0:Nat):Int)=η from by simp[ltB],d2,Zk (h.2 d d1).1,BV,d3,au]
    cases eqB x (i:Int)<;>cases(d.bI.any λy=>eqB y (i:Int))<;>rfl
   |succ k=>
    obtain⟨y,hy,hi⟩:=uw hk oaa oaa
    simp only[aca] at hy
    simp only[iI,hy,hi,show ltB 0 ((k+1:Nat):Int)=ζ from by simp[ltB],d2,Zk (h.2 d d1).1,BV,d3,id,au]
    cases eqB x (i:Int)<;>cases leB x y<;>cases(d.bI.any λy=>eqB y (i:Int))<;>rfl
 have hL:iter (nX m) FU 0=bif jg (Fa m) m.bD then ς (inR (m.bD.length:Int) 1 6) else ς false:=by
  refine uh m.bD (Fa m) η _ oaa (λk x hx hk=>?_) (by simp[nX,iy])
  have hm:=aac hx
  simp only[nX,cr hk,bm,hx,iy,h2 k x hm hk,Fa,au]
  cases inR x.mG 0 2<;>cases jg (nbB m k x.bI) x.bI<;>rfl
 simp only[sO,hL,F1]
 grind
def Qq(d:av)(s:ag):Bool:=(eqB d.dJ.ID.dF s.bF.ID.dF&&(eqB d.dJ.ID.bW s.bF.ID.bW&&ζ))&&eqB d.dJ.fg s.bF.fg
def FN(n:ae)(i:Nat)(d:av):Bool:=match n.a8[i]?,n.bU[i]? with
 |some s,ς a=>qB d&&(kC s&&(ox a&&(Qq d s&&(jJ n.gr d.bJ&&(jJ n.gr s.bJ&&(eqB s.dq.bi (i:Int)&&zH a s.dq))))))
 |_,_=>η
def flB(n:ae)(f:aH):Bool:=inR f.bC 0 ((n.aO.length:Int)-1)&&jJ n.gr f.bJ
def Ce(n:ae):Bool:=inR n.dy 0 (WR ((Jz .i64 1 (n.gr.bD.length:Int))-1))&&(inR n.Fr 0 100000&&leB 0 n.lb)
def lI(n:ae):Bool:=F1 n.gr&&(Ca n.kG&&(!eqB n.kG.iK 0&&(leB (n.aO.length:Int) 4&&(eqB (n.a8.length:Int) (n.aO.length:Int)&&(eqB (n.bU.length:Int) (n.aO.length:Int)&&
 (jg (FN n) n.aO&&(leB (n.ax.length:Int) 200&&(n.ax.all (flB n)&&Ce n))))))))
theorem N4{x:Int}{b:Int}(h:inR x 0 b=ζ):jJ m x=ltB x (m.bD.length:Int):=by
 rw[cJ] at h
 rw[ab5];simp[jJ,inR,leB,ltB];omega
theorem flt_i(h:dS n):iter (f7 n) FU 0=ς (n.ax.all (flB n)&&Ce n):=by
 have hl:=h.2.2.2.2.1
 have:=eH (L:=f7 n) n.ax (λ_ f=>flB n f) (ς (Ce n)) oaa (λk x hx hk=>by
  simp only[f7,cr hk,bm,hx,WRs (k:=k),jp,zL h.2.1.1,Hq h.1.1,flB,au]
  cases inR x.bC 0 ((n.aO.length:Int)-1)<;>cases jJ n.gr x.bJ<;>rfl) (by
  simp only[f7,bH,jp,Ce,show leB 0 (n.gr.bD.length:Int)=ζ from by simp[leB],au]
  grind)
 rw[this,tE]
 grind
theorem flt_s(h:dS n):iter (gh n) FU 0=ς (n.ax.all (flB n)&&Ce n):=by
 have hl:=h.2.2.2.2.1
 have:=eH (L:=gh n) n.ax (λ_ f=>flB n f) (ς (Ce n)) oaa (λk x hx hk=>by
  simp only[gh,cr hk,bm,hx,WRs (k:=k),iy,zL h.2.1.1,zL h.1.1,flB,jJ,au]
  cases inR x.bC 0 ((n.aO.length:Int)-1)<;>cases inR x.bJ 0 ((n.gr.bD.length:Int)-1)<;>rfl) (by
  simp only[gh,bH,iy,Ce,show leB 0 (n.gr.bD.length:Int)=ζ from by simp[leB],au]
  grind)
 rw[this,tE]
 grind
section
variable{n:ae}(h:dS n)(e1:n.a8.length=n.aO.length)(e2:n.bU.length=n.aO.length)
include h e1 e2
omit h in
theorem at_i(hk:k<n.aO.length):∃s a,s∈n.a8/\a∈n.bU/\n.a8[k]?=ς s/\n.bU[k]?=ς a:=
 ⟨n.a8[k]'(by omega),n.bU[k]'(by omega),ab9 _,ab9 _,aab _,aab _⟩
theorem mem_i{d:av}(hd:n.aO[k]?=ς d):iN n (k:Int)=ς (FN n k d):=by
 have hk:=(aaa.1 hd).1
 obtain⟨s,a,s1,a1,s2,a2⟩:=at_i e1 e2 hk
 have od:=h.2.1.2 d (aac hd)
 have os:=h.2.2.1.2 s s1
 have oa:=h.2.2.2.1.2 a a1
 simp only[iN,bm,hd,s2,a2,Tf od.2.1 od.1.1,RA os,F6 oa,Hq h.1.1,X2 oa,ab4,FN,Qq]
 grind
theorem mem_s{d:av}(hd:n.aO[k]?=ς d):vc n (k:Int)=ς (FN n k d):=by
 have hk:=(aaa.1 hd).1
 obtain⟨s,a,s1,a1,s2,a2⟩:=at_i e1 e2 hk
 have od:=h.2.1.2 d (aac hd)
 have os:=h.2.2.1.2 s s1
 have oa:=h.2.2.2.1.2 a a1
 simp only[vc,bm,hd,s2,a2,Tg od.2.1 od.1.1,RB os,F7 oa,X3 oa,ab4,FN,Qq]
 cases hv:qB d
 .rfl
 cases hs:kC s
 .rfl
 have c1:jJ n.gr d.bJ=ltB d.bJ (n.gr.bD.length:Int):=by
  simp only[qB,v0] at hv;exact N4 hv.2.2.1
 have c2:jJ n.gr s.bJ=ltB s.bJ (n.gr.bD.length:Int):=by
  simp only[kC,v0] at hs;exact N4 hs.2.2.2.2.2.2.2.2.2.2.2.1
 grind
theorem mems_i:iter (f6 n) FU 0=ς (jg (FN n) n.aO&&(leB (n.ax.length:Int) 200&&(n.ax.all (flB n)&&Ce n))):=by
 have hl:=h.2.1.1
 have:=eH (L:=f6 n) n.aO (FN n) (ς (leB (n.ax.length:Int) 200&&(n.ax.all (flB n)&&Ce n))) oaa (λk x hx hk=>by
  simp only[f6,cr hk,mem_i h e1 e2 hx,WRs (k:=k),au]
  simp_all) (by
  simp only[f6,bH,cond_false,flt_i h,vn 200]
  grind)
 grind
theorem mems_s:iter (ge n) FU 0=ς (jg (FN n) n.aO&&(n.ax.all (flB n)&&Ce n)):=by
 have hl:=h.2.1.1
 have:=eH (L:=ge n) n.aO (FN n) (ς (n.ax.all (flB n)&&Ce n)) oaa (λk x hx hk=>by
  simp only[ge,cr hk,mem_s h e1 e2 hx,WRs (k:=k),au]
  simp_all) (by simp only[ge,bH,cond_false,flt_s h])
 grind
end
theorem xn{a b:Nat}(h:eqB (a:Int) (b:Int)=ζ):a=b:=by
 have:(a:Int)=b:=by simpa [eqB] using h
 omega
theorem QX(h:dS n):lL n=ς (lI n):=by
 simp only[lL,map_i h.1,pool_i,ab4,lI,vn 4]
 cases F1 n.gr<;>cases Ca n.kG<;>cases eqB n.kG.iK 0<;>cases leB (n.aO.length:Int) 4<;>try rfl
 cases e1:eqB (n.a8.length:Int) (n.aO.length:Int)<;>cases e2:eqB (n.bU.length:Int) (n.aO.length:Int)<;>try rfl
 rw[mems_i h (xn e1) (xn e2)];rfl
theorem QY(h:dS n):mb n=ς (lI n):=by
 simp only[mb,map_s h.1,pool_s,ab4,lI,vn 4,vn 200]
 cases F1 n.gr<;>cases Ca n.kG<;>cases eqB n.kG.iK 0<;>cases leB (n.aO.length:Int) 4<;>try rfl
 cases e1:eqB (n.a8.length:Int) (n.aO.length:Int)<;>cases e2:eqB (n.bU.length:Int) (n.aO.length:Int)<;>try rfl
 rw[mems_s h (xn e1) (xn e2)]
 grind
attribute [local simp] bH bm
theorem oK{by_:Nat}{L:Int×List α->Option (bN (Int×List α) (List α))}(xs:List α)(hb:by_<=100000)(hl:xs.length<=1048576)(hs:∀(k:Nat) (x:α),xs[k]?=ς x->k<xs.length->L ((k:Int),xs.take k)=bif dH by_ (xs.take k++[x]).length then ς (.next (((k+1:Nat):Int),xs.take k++[x])) else ξ)(he:L ((xs.length:Nat),xs)=ς (.done xs)):iter L FU (0,[])=ς xs:=by
 have:=eE (step:=L) xs (λk (_:Unit)=>((k:Int),xs.take k)) (λ_ _=>ς (.next ())) (λ_=>ς xs) oaa
  (λk x _ hx hk=>by
   rw[hs k x hx hk,de hb (by simp;omega)]
   have e:xs.take (k+1)=xs.take k++[x]:=by rw[acs,hx];rfl
   simp[e]) (λ_=>by simp_all) ()
 rw[yT xs (λ_ _=>rfl)] at this
 exact this
theorem zV(z:α)(xs:List α):cpL (aae ((xs.length:Int)).toNat z) xs=xs:=by simp[cpL]
theorem f9{b n:Nat}(hb:b<=100000)(hn:n<=1048576):iG b (n:Int) (n:Int)=true:=by
 have h:b*n<=100000*1048576:=acl hb hn
 have h2:(b:Int)*(n:Int)<=104857600000:=by rw[<-acE];omega
 simp only[iG,decide_eq_true_eq];omega
theorem oL{f:α->Option α}{L:Int×List α->Option (bN (Int×List α) (List α))}(z:α)(xs:List α)(hl:xs.length<=1048576)(hf:∀x∈xs,f x=ς x)(hs:∀(k:Nat) (v:List α),L ((k:Int),v)=bif ltB (k:Int) (xs.length:Int) then(abX (ix xs (k:Int)) λx=>abX (f x) λr=>abX (ix v (k:Int)) λ_=>ς (.next (WR ((k:Int)+1),v.set ((k:Int)).toNat r))) else ς (.done v)):
 iter L FU (0,aae ((xs.length:Int)).toNat z)=ς xs:=by
 have:=GC (step:=L) id z xs oaa
  (λk x v hx hv=>by
   have hk:=(aaa.1 hx).1
   rw[hs]
   simp[cr hk,hx,hf x (aac hx),WRs (k:=k),aab (show k<v.length by omega)])
  (λv=>by rw[hs];simp)
 simp_all
theorem Gb{xs:List aC}(h:okL eQ xs):rW xs=ς xs:=by
 rw[rW,oK (by_:=24) (L:=pn xs) xs oaa h.1 (λk x hx hk=>by
  simp[pn,cr hk,hx,lJ (show k<9223372036854775807 by have:=h.1;omega),de (by_:=1) (n:=x.bk.length) oaa (by have:=(h.2 x (aac hx)).1;omega)]) (by simp[pn])]
 rfl
theorem Lx{xs:List ab}(h:okL cN xs):t6 xs=ς xs:=by
 rw[t6,oK (by_:=32) (L:=qy xs) xs oaa h.1 (λk x hx hk=>by
  simp[qy,cr hk,hx,lJ (show k<9223372036854775807 by have:=h.1;omega),de (by_:=1) (n:=x.bk.length) oaa (by have:=(h.2 x (aac hx)).1;omega)]) (by simp[qy])]
 rfl
theorem Lw(h:ez w):rY w=ς w:=by rw[rY,Lx h];rfl
theorem U3(h:df r):xa r=ς r:=by rw[xa,Lx h.1,ab4,Gb h.2];rfl
theorem plan_c(h:eJ p):AO p=ς p:=by
 rw[AO,aa3,de oaa (by have:=h.1;omega)];rfl
theorem BP(h:cV s):ov s=ς s:=by rw[ov,plan_c h.1,ab4,Gb h.2.1,ab4,Lw h.2.2];rfl
theorem JL{d:av}(h:dt d):pD d=ς d:=by rw[pD,U3 h];rfl
theorem acc_c(h:dD a):AK a=ς a:=by
 rw[AK,aa3,de oaa (by have:=h.1;omega)];rfl
theorem Yu{x:aT}(h:ga x):AL x=ς x:=by
 rw[AL,aa3,de oaa (by have:=h.1;omega)];rfl
theorem JR(h:eP f):sa f=ς f:=by rw[sa,Yu h];rfl
theorem map_c(h:gW m):wZ m=ς m:=by
 rw[wZ,oK (by_:=32) (L:=sQ m) m.bD oaa h.1 (λk x hx hk=>by
  simp[sQ,cr hk,hx,lJ (show k<9223372036854775807 by have:=h.1;omega),de (by_:=8) (n:=x.bI.length) oaa (by have:=(h.2 x (aac hx)).1;omega)]) (by simp[sQ])]
 rfl
theorem net_c(h:dS n):AP n=ς n:=by
 obtain⟨h1,h2,h3,h4,h5⟩:=h
 rw[AP,map_c h1,ab4,
  oK (by_:=144) (L:=sT n) n.aO oaa h2.1 (λk x hx hk=>by simp[sT,cr hk,hx,lJ (show k<9223372036854775807 by have:=h2.1;omega),JL (h2.2 x (aac hx))]) (by simp[sT]),ab4,
  oK (by_:=288) (L:=sV n) n.a8 oaa h3.1 (λk x hx hk=>by simp[sV,cr hk,hx,lJ (show k<9223372036854775807 by have:=h3.1;omega),BP (h3.2 x (aac hx))]) (by simp[sV]),ab4,
  oK (by_:=48) (L:=sW n) n.bU oaa h4.1 (λk x hx hk=>by simp[sW,cr hk,hx,lJ (show k<9223372036854775807 by have:=h4.1;omega),acc_c (h4.2 x (aac hx))]) (by simp[sW]),ab4,
  oK (by_:=176) (L:=sX n) n.ax oaa h5.1 (λk x hx hk=>by simp[sX,cr hk,hx,lJ (show k<9223372036854775807 by have:=h5.1;omega),JR (h5.2 x (aac hx))]) (by simp[sX])]
 rfl
theorem T8{xs:List Int}(h:xs.length<=1048576):qD xs=ς xs:=by rw[qD,f9 oaa h,zV];rfl
theorem CN{xs:List Int}(h:xs.length<=1048576):fC xs=ς xs:=by rw[fC,f9 oaa h,zV];rfl
theorem Xy{xs:List aA}(h:xs.length<=1048576):ew xs=ς xs:=by rw[ew,f9 oaa h,zV];rfl
theorem VH{xs:List ar}(h:xs.length<=1048576):eD xs=ς xs:=by rw[eD,f9 oaa h,zV];rfl
theorem ED{xs:List aC}(h:okL eQ xs):jC xs=ς xs:=by
 rw[jC,f9 oaa h.1,oL (f:=λx=>abX (fC x.bk) λr=>ς (⟨r⟩:aC)) (L:=oJ xs) (⟨[]⟩:aC) xs h.1 (λx hx=>by rw[CN (h.2 x hx).1];rfl) (λk v=>by
  simp only[oJ];grind)]
 rfl
theorem zn{xs:List ab}(h:okL cN xs):gR xs=ς xs:=by
 rw[gR,f9 oaa h.1,oL (f:=λx=>abX (fC x.bk) λr=>ς (⟨x.cP,r⟩:ab)) (L:=oI xs) bg xs h.1 (λx hx=>by rw[CN (h.2 x hx).1];rfl) (λk v=>by
  simp only[oI];grind)]
 rfl
theorem Pn(h:df r):jD r=ς r:=by rw[jD,zn h.1,ab4,ED h.2];rfl
theorem Td{d:av}(h:dt d):mz d=ς d:=by rw[mz,Pn h];rfl
theorem Yt(h:eJ p):gA p=ς p:=by rw[gA,T8 h.1];rfl
theorem GX(h:ez w):mB w=ς w:=by rw[mB,zn h];rfl
theorem PD(h:cV s):kK s=ς s:=by rw[kK,Yt h.1,ab4,ED h.2.1,ab4,GX h.2.2];rfl
theorem ZY(h:dD a):m0 a=ς a:=by rw[m0,Xy h.1];rfl
theorem Nl{x:aS}(h:gJ x):na x=ς x:=by rw[na,CN h.1];rfl
theorem UW{x:aT}(h:ga x):qX x=ς x:=by rw[qX,Nl h];rfl
theorem Gs(h:eP f):mA f=ς f:=by rw[mA,UW h];rfl
theorem map_ci(h:gW m):vW m=ς m:=by
 rw[vW,f9 oaa h.1,oL (f:=λx=>abX (qD x.bI) λr=>ς (⟨x.mG,r⟩:cA)) (L:=vX m) Fl m.bD h.1 (λx hx=>by rw[T8 (h.2 x hx).1];rfl) (λk v=>by
  simp only[vX];grind)]
 rfl
theorem net_ci(h:dS n):m9 n=ς n:=by
 obtain⟨h1,h2,h3,h4,h5⟩:=h
 rw[m9,map_ci h1,ab4,dL,f9 oaa h2.1,oL (L:=fm n.aO) _ _ h2.1 (λx hx=>Td (h2.2 x hx)) (λk v=>rfl),cond_true,ab4,ab4,
  dv,f9 oaa h3.1,oL (L:=eT n.a8) _ _ h3.1 (λx hx=>PD (h3.2 x hx)) (λk v=>rfl),cond_true,ab4,ab4,
  du,f9 oaa h4.1,oL (L:=eS n.bU) _ _ h4.1 (λx hx=>ZY (h4.2 x hx)) (λk v=>rfl),cond_true,ab4,ab4,
  dM,f9 oaa h5.1,oL (L:=fo n.ax) _ _ h5.1 (λx hx=>Gs (h5.2 x hx)) (λk v=>rfl),cond_true,ab4,ab4]
theorem BX(n a b:Int):bM n a b=ς (inR n a b):=by unfold bM inR;grind
theorem Ly(n a b:Int):cX n a b=ς (inR n a b):=by unfold cX inR;grind
theorem G3(x m:Int):(abY x m)%m=x%m:=by
 have h:=Int.mul_tdiv_add_tmod x m
 have h2:x%m=(m*x.tdiv m+x.tmod m)%m:=by rw[h]
 rw[h2,Int.mul_add_emod_self_left]
theorem LE{m:Int}(x:Int)(hm:0<m): -m<abY x m/\abY x m<m:=⟨Int.lt_tmod_of_pos x hm,Int.tmod_lt_of_pos x hm⟩
theorem X6{r m:Int}(h1: -m<r)(h2:r<0):r%m=r+m:=by
 rw[<-acz r m,acB oaa oaa]
theorem Oy(x:Int){m:Int}(h1:1<=m)(h2:m<=1000000000000):Qk x m=ς (x%m):=by
 obtain⟨a,b⟩:=LE x (show 0<m by omega)
 have hr:inR m 1 1000000000000=true:=cJ.2 ⟨h1,h2⟩
 have hz:(!eqB m 0)=true:=by simp[eqB];omega
 simp only[Qk,BX,hr,hz,au]
 rw[<-G3 x m]
 by_cases h:abY x m<0
 .rw[show ltB (abY x m) 0=ζ from Kp h,X6 a h]
  simp only[au]
  rw[cG oaa]
 rw[show ltB (abY x m) 0=η from Ko oaa,acB oaa b]
 rfl
theorem xP(x:Int){m:Int}(h1:1<=m)(h2:m<=1000000000000):FY x m=ς (x%m):=by
 obtain⟨a,b⟩:=LE x (show 0<m by omega)
 have hr:inR m 1 1000000000000=true:=cJ.2 ⟨h1,h2⟩
 have hz:(!eqB m 0)=true:=by simp[eqB];omega
 simp only[FY,Ly,hr,hz,au]
 rw[cG oaa,ace oaa,acz,G3]
abbrev hM:Int:=2147483647
def Aa(v x:Int):Int:=(v*1000003+x%hM+13)%hM
theorem pw(v x:Int):0<=Aa v x/\Aa v x<hM:=⟨acG _ (by decide),acA _ (by decide)⟩
theorem UX{v x:Int}(h0:0<=v)(h1:v<hM):abY (WR (WR (WR (v*1000003)+x%hM)+13)) hM=Aa v x:=by
 have a:=acG x (show hM≠0 by decide)
 have b:=acA x (show 0<hM by decide)
 unfold hM at*
 rw[cG (n:=v*1000003) oaa,cG (n:=v*1000003+x%2147483647) oaa,cG (n:=v*1000003+x%2147483647+13) oaa,ace oaa]
 rfl
theorem uu{v x:Int}(h0:0<=v)(h1:v<hM):mC v x=ς (Aa v x):=by
 rw[mC,Oy x oaa oaa]
 simp only[ab4]
 rw[UX h0 h1]
def DX(v:Int)(xs:List Int):Int:=xs.foldl Aa v
theorem JW{v:Int}(h0:0<=v)(h1:v<hM):∀(xs:List Int),0<=DX v xs/\DX v xs<hM
 |[]=>⟨h0,h1⟩
 |x::xs=>JW (pw v x).1 (pw v x).2 xs
theorem JS:∀(xs:List Int) (v:Int),0<=v->v<hM->lu (λ(s x:Int)=>ς (bN.next (ρ:=Int) (abY (WR (WR (WR (s*1000003)+x%hM)+13)) hM))) ς xs v=ς (DX v xs)
 |[],v,_,_=>rfl
 |x::xs,v,h0,h1=>by
  rw[lu,UX h0 h1]
  exact JS xs _ (pw v x).1 (pw v x).2
theorem Vm{xs:List Int}(hl:xs.length<=1048576):Pt xs=ς (DX 11 xs):=by
 have:=eE (step:=wW xs) xs (λk (s:Int)=>(s,(k:Int))) (λs x=>ς (bN.next (abY (WR (WR (WR (s*1000003)+x%hM)+13)) hM))) ς oaa
  (λk x s hx hk=>by
   simp only[wW,cr hk,bm,hx,xP x (m:=2147483647) oaa oaa,WRs (k:=k),au];rfl) (λs=>by simp[wW]) 11
 rw[Pt,show iter (wW xs) FU (11,0)=_ from this,JS xs 11 (by decide) (by decide)]
 rfl
theorem Gx:∀(xs:List Int) (v:Int),0<=v->v<hM->lu (λ(s x:Int)=>abX (mC s x) λr=>ς (bN.next (ρ:=Int) r)) ς xs v=ς (DX v xs)
 |[],v,_,_=>rfl
 |x::xs,v,h0,h1=>by
  rw[lu,uu h0 h1]
  exact Gx xs _ (pw v x).1 (pw v x).2
def dZ(k:Int)(xs:List Int):Int:=Aa (DX (Aa 11 k) xs) k
theorem tQ(k:Int)(xs:List Int):0<=dZ k xs/\dZ k xs<hM:=pw _ _
theorem d6{xs:List Int}(hl:xs.length<=1048576)(k:Int):ej k xs=ς (dZ k xs):=by
 have:=eE (step:=lv xs) xs (λk (s:Int)=>(s,(k:Int))) (λs x=>abX (mC s x) λr=>ς (bN.next r)) ς oaa
  (λk x s hx hk=>by
   simp only[lv,cr hk,bm,hx,WRs (k:=k),au]
   simp_all) (λs=>by simp[lv]) (Aa 11 k)
 rw[ej,uu (by decide) (by decide)]
 simp only[ab4]
 have h2:=pw 11 k
 rw[show iter (lv xs) FU (Aa 11 k,0)=_ from this,Gx xs _ h2.1 h2.2]
 have h3:=JW h2.1 h2.2 xs
 simp only[ab4]
 rw[uu h3.1 h3.2]
 rfl
theorem d7{xs:List Int}(hl:xs.length<=100000)(k:Int):eo k xs=ς (dZ k xs):=by
 have a1:dH 8 ([k]++xs).length=true:=de oaa (by simp;omega)
 have a2:dH 8 (([k]++xs)++[k]).length=true:=de oaa (by simp;omega)
 rw[eo,a1,a2]
 simp only[cond_true]
 rw[Vm (by simp;omega)]
 simp[DX,dZ]
def dk(k x:Int):Int:=if dZ k [9,x]=0 then 1 else dZ k [9,x]
theorem yr(k x:Int):qU k x=ς (dk k x):=by
 rw[qU,d6 (by simp)]
 simp only[ab4,dk]
 by_cases h:dZ k [9,x]=0
 .rw[h];simp
 rw[show eqB (dZ k [9,x]) 0=η from eqB_f.2 h];simp[h]
theorem yF(k x:Int):rQ k x=ς (dk k x):=by
 have:=(tQ k [9,x]).1
 rw[rQ,d7 (by simp)]
 simp only[ab4,dk,Vp]
 by_cases h:dZ k [9,x]=0
 .rw[h,show ltB 1 0=η from ltB_f.2 oaa];simp
 by_cases h1:dZ k [9,x]=1
 .rw[h1];simp
 rw[show ltB 1 (dZ k [9,x])=ζ from ltB_t.2 oaa];simp[h]
def Kd(k:Int)(xs:List Int):Int:=xs.foldl dk k
theorem Bn:∀(xs:List Int) (v:Int),lu (λ(s x:Int)=>ς (bN.next (ρ:=Int) (dk s x))) ς xs v=ς (Kd v xs)
 |[],v=>rfl
 |x::xs,v=>by rw[lu];exact Bn xs _
theorem vR{p:eu}(hl:p.Steps.length<=1048576)(k:Int):px k p=ς (Kd k p.Steps):=by
 have:=eE (step:=jn p.Steps) p.Steps (λj (s:Int)=>(s,(j:Int))) (λs x=>ς (bN.next (dk s x))) ς oaa
  (λj x s hx hj=>by simp[jn,cr hj,hx,WRs (k:=j),yr]) (λs=>by simp[jn]) k
 rw[px,ut,show iter (jn p.Steps) FU (k,0)=_ from this,Bn]
 rfl
theorem wX{p:eu}(hl:p.Steps.length<=1048576)(k:Int):pC k p=ς (Kd k p.Steps):=by
 have:=eE (step:=ky p) p.Steps (λj (s:Int)=>(s,(j:Int))) (λs x=>ς (bN.next (dk s x))) ς oaa
  (λj x s hx hj=>by simp[ky,cr hj,hx,WRs (k:=j),yF]) (λs=>by simp[ky]) k
 rw[pC,show iter (ky p) FU (k,0)=_ from this,Bn]
 rfl
def Vf(k e:Int):Int:=Kd k [1,3,e]
theorem Ae(k e:Int):tN k e=ς (Vf k e):=by
 rw[tN,ta]
 simp only[ab4]
 rw[vR (by simp)];rfl
theorem AF(k e:Int):tZ k e=ς (Vf k e):=by
 rw[tZ,tp]
 simp only[ab4]
 rw[wX (by simp)];rfl
def okB(xs:List Int):Prop:=∀x∈xs,Bw x
theorem Zb{x:Int}(h:Bw x):WR x=x:=cG (by simp only[Bw] at h;omega)
theorem A3:∀(xs acc:List Int),okB xs->acc.length+xs.length<=100000->lu (λ(s:List Int) (x:Int)=>bif dH 8 (s++[WR x]).length then ς (bN.next (ρ:=List Int) (s++[WR x])) else ξ) ς xs acc=ς (acc++xs)
 |[],acc,_,_=>by simp[lu]
 |x::xs,acc,h,hl=>by
  simp only[aaq] at hl
  rw[lu,show dH 8 (acc++[WR x]).length=ζ from zM (by simp;omega) (by simp;omega),Zb (h x (.head _))]
  simp only[cond_true]
  rw[A3 xs (acc++[x]) (λy hy=>h y (.tail _ hy)) (by simp;omega)]
  simp
theorem Qg{xs:List Int}(hb:okB xs)(hl:xs.length<=50000):qd xs=ς ((xs.length:Int)::xs):=by
 have:=eE (step:=ji xs) xs (λj (s:List Int)=>((j:Int),s)) (λ(s:List Int) (x:Int)=>bif dH 8 (s++[WR x]).length then ς (bN.next (ρ:=List Int) (s++[WR x])) else ξ) ς oaa
  (λj x s hx hj=>by
   simp only[ji,cr hj,bm,hx,WRs (k:=j),au]
   simp_all) (λs=>by simp[ji]) [(xs.length:Int)]
 have hm:iG 8 0 (WR ((xs.length:Int)+1))=true:=by
  rw[cG oaa];simp only[iG,decide_eq_true_eq];omega
 rw[qd,hm]
 simp only[cond_true]
 rw[show((aae ((0:Int)).toNat 0)++[(xs.length:Int)])=[(xs.length:Int)] from rfl,show dH 8 [(xs.length:Int)].length=ζ from zM (by simp) (by simp)]
 simp only[cond_true]
 rw[show iter (ji xs) FU (0,[(xs.length:Int)])=_ from this,A3 xs _ hb (by simp;omega)]
 rfl
theorem Ro{xs:List Int}(hb:okB xs)(hl:xs.length<=50000):qr xs=ς ((xs.length:Int)::xs):=by
 have:=eE (step:=jt xs) xs (λj (s:List Int)=>((j:Int),s)) (λ(s:List Int) (x:Int)=>bif dH 8 (s++[WR x]).length then ς (bN.next (ρ:=List Int) (s++[WR x])) else ξ) ς oaa
  (λj x s hx hj=>by
   simp only[jt,cr hj,bm,hx,WRs (k:=j),au]
   simp_all) (λs=>by simp[jt]) [(xs.length:Int)]
 rw[qr,show iter (jt xs) FU (0,[(xs.length:Int)])=_ from this,A3 xs _ hb (by simp;omega)]
 rfl
def F2(m:aS):Bool:=inR m.cH 0 1&&(inR m.fj 1 100000&&(leB (m.bk.length:Int) 60&&inR m.mu 0 2147483646))
theorem rR(m:aS):jv m=ς (F2 m):=by
 simp only[jv,Ly,ab4,F2]
 grind
theorem yU(m:aS):lM m=ς (F2 m):=by
 simp only[lM,BX,ab4,F2]
 by_cases h0:m.cH=0
 .rw[h0,show inR 0 0 1=ζ from cJ.2 oaa]
  simp only[bE,cond_true]
  grind
 by_cases h1:m.cH=1
 .rw[h1,show inR 1 0 1=ζ from cJ.2 oaa,show eqB 1 0=η from eqB_f.2 oaa]
  simp only[bE,au]
  grind
 rw[show eqB m.cH 0=η from eqB_f.2 h0,show eqB m.cH 1=η from eqB_f.2 h1,show inR m.cH 0 1=η from by
  cases h:inR m.cH 0 1 with
  |false=>rfl
  |true=>have:=cJ.1 h;omega]
 rfl
def mac(k:Int)(m:aS):Int:=dZ k ([m.cH,m.fj]++((m.bk.length:Int)::m.bk))
theorem FA{m:aS}(hb:okB m.bk)(hl:m.bk.length<=50000)(k:Int):uq k m=ς (eqB m.mu (mac k m)):=by
 rw[uq,wc,Qg hb hl]
 simp only[ab4]
 rw[show dH 8 ([m.cH,m.fj]++((m.bk.length:Int)::m.bk)).length=ζ from zM (by simp;omega) (by simp;omega),d6 (by simp;omega)]
 rfl
theorem yG{m:aS}(hb:okB m.bk)(hl:m.bk.length<=50000)(k:Int):rV k m=ς (eqB m.mu (mac k m)):=by
 rw[rV,Nq,Ro hb hl]
 simp only[ab4]
 rw[show dH 8 ([m.cH,m.fj]++((m.bk.length:Int)::m.bk)).length=ζ from zM (by simp;omega) (by simp;omega),d7 (by simp;omega)]
 rfl
theorem Fb{m:aS}(h:F2 m=ζ):m.bk.length<=60:=by
 simp only[F2,v0] at h
 have:=Bo h.2.2.1
 omega
def NB(k:Int)(p:aT):Bool:=F2 p.a9&&(eqB p.a9.cH 1&&eqB p.a9.mu (mac (Vf k p.aU) p.a9))
theorem Ch{p:aT}(hb:okB p.a9.bk)(k:Int):qi k p=ς (NB k p):=by
 rw[qi,yU]
 simp only[ab4,NB,Ae]
 cases hv:F2 p.a9
 .rfl
 rw[FA hb (aar (Fb hv) oaa)]
 grind
theorem CJ{p:aT}(hb:okB p.a9.bk)(k:Int):qw k p=ς (NB k p):=by
 rw[qw,rR]
 simp only[ab4,NB,AF]
 cases hv:F2 p.a9
 .rfl
 rw[yG hb (aar (Fb hv) oaa)]
 grind
def d1(k:Int)(i:Nat)(x:Int):Int:=(x-dZ k [(i:Int)]%256)%256
def yP(k:Int)(xs:List Int):List Int:=xs.mapIdx (λi x=>d1 k i x)
theorem Dy(k:Int)(xs:List Int):(yP k xs).length=xs.length:=by simp[yP]
theorem Xd(k:Int)(xs:List Int):okB (yP k xs):=by
 intro x hx
 obtain⟨i,hi⟩:=aau hx
 simp only[yP,ab1] at hi
 cases h:xs[i]? with
 |none=>simp_all
 |some y=>
  rw[h] at hi;simp at hi;subst hi
  simp only[Bw,d1]
  omega
theorem Wq(n:Int):IntKind.u8.wrap n=n%256:=by rfl
theorem JX{xs:List Int}(hb:okB xs)(hl:xs.length<=50000)(k:Int):Ab k xs=ς (yP k xs):=by
 have hc:fC xs=ς xs:=by
  have hm:iG 1 (xs.length:Int) (xs.length:Int)=true:=by simp only[iG,decide_eq_true_eq];omega
  rw[fC,hm]
  simp[cpL]
 have goal:Wp (iter (vP k xs) FU (0,xs)) (λr=>r=yP k xs):=by
  refine Wp.iterF (λs=>∃i:Nat,i<=xs.length/\s.1=(i:Int)/\s.2.length=xs.length/\(∀j,j<i->s.2[j]?=(yP k xs)[j]?)/\(∀j,i<=j->s.2[j]?=xs[j]?)) (λs=>((xs.length:Int)-s.1).toNat) ⟨0,by omega,rfl,rfl,by omega,λ_ _=>rfl⟩ (by simp;omega) ?_
  rintro⟨v2,v3⟩ ⟨i,hi,rfl,h3,h4,h5⟩
  simp only at h3 h4 h5
  simp only[vP]
  refine Wp.cond (λhlt=>?_) (λhlt=>?_)
  .have hlt:=XS hlt
   have hil:i<xs.length:=by omega
   refine Wp.ix oaa oaa λx hx hxi=>?_
   refine Wp.eq (d6 (by simp) _) (Wp.ix oaa oaa λx' _ _=>Wp.some ?_)
   simp only[ab8] at hxi
   have hxi':xs[i]?=ς x:=by rw[<-h5 i (aan _)];exact hxi
   have hr:=tQ k [(i:Int)]
   have e1:abY (dZ k [(i:Int)]) 256=dZ k [(i:Int)]%256:=ace hr.1
   have e2:IntKind.u8.wrap (x-IntKind.u8.wrap (abY (dZ k [(i:Int)]) 256))=d1 k i x:=by
    rw[Wq,Wq,e1,d1]
    omega
   have e3:WR ((i:Int)+1)=((i+1:Nat):Int):=by rw[cG oaa];rfl
   rw[e2,e3]
   refine⟨⟨i+1,by omega,rfl,by simp_all,λj hj=>?_,λj hj=>?_⟩,?_⟩
   .simp only[ab8]
    rw[acn]
    by_cases hij:i=j
    .subst hij
     rw[if_pos rfl,if_pos oaa]
     simp only[yP,ab1,hxi',acu]
    grind
   .grind
   omega
  have hlt:=Mz hlt
  refine Wp.some (ach λj=>?_)
  by_cases hj:j<xs.length
  .grind
  rw[acw oaa,acw (by rw[Dy];omega)]
 obtain⟨r,h1,h2⟩:=goal.ex
 rw[Ab,hc]
 simp_all
theorem Ls{xs:List Int}(hb:okB xs)(hl:xs.length<=50000)(k:Int):AE k xs=ς (yP k xs):=by
 have goal:Wp (iter (wU k xs) FU (0,[])) (λr=>r=yP k xs):=by
  refine Wp.iterF (λs=>∃i:Nat,i<=xs.length/\s.1=(i:Int)/\s.2=(yP k xs).take i) (λs=>((xs.length:Int)-s.1).toNat) ⟨0,by omega,rfl,rfl⟩ (by simp;omega) ?_
  rintro⟨v2,v3⟩ ⟨i,hi,rfl,rfl⟩
  simp only[wU]
  refine Wp.cond (λhlt=>?_) (λhlt=>?_)
  .have hlt:=XS hlt
   have hil:i<xs.length:=by omega
   refine Wp.ix oaa oaa λx hx hxi=>?_
   simp only[ab8] at hxi
   have hx8:=hb x hx
   have hr:=tQ k [(i:Int)]
   have e1:abY (dZ k [(i:Int)]) 256=dZ k [(i:Int)]%256:=ace hr.1
   have hb8:0<=dZ k [(i:Int)]%256/\dZ k [(i:Int)]%256<256:=by omega
   simp only[Bw] at hx8
   refine Wp.eq (d7 (by simp) _) (Wp.eq (xP _ oaa oaa) ?_)
   have hlen:((yP k xs).take i).length=i:=by rw[List.length_take,Dy];omega
   rw[e1,Zb (hb x hx),cG oaa,Wq]
   have e4:(x-dZ k [(i:Int)]%256)%256%256=d1 k i x:=by rw[d1];omega
   rw[e4]
   refine Wp.ok (zM (by grind) (by grind)) (Wp.some ?_)
   have e3:WR ((i:Int)+1)=((i+1:Nat):Int):=by rw[cG oaa];rfl
   rw[e3]
   have hxd:(yP k xs)[i]?=ς (d1 k i x):=by simp only[yP,ab1,hxi,acu]
   refine⟨⟨i+1,by omega,rfl,by rw[acs,hxd];rfl⟩,?_⟩
   omega
  have hlt:=Mz hlt
  refine Wp.some ?_
  rw[acq (by rw[Dy];omega)]
 obtain⟨r,h1,h2⟩:=goal.ex
 rw[AE,h1,h2];rfl
def e1(k:Int)(i:Nat)(x:Int):Int:=(x+dZ k [(i:Int)]%256)%256
def encL(k:Int)(xs:List Int):List Int:=xs.mapIdx (λi x=>e1 k i x)
@[simp] theorem encL_len (k:Int) (xs:List Int):(encL k xs).length=xs.length:=by simp[encL]
def wE(root g e:Int)(x:aT):ab×Bool:=
 if x.ak=g/\x.aU=e/\NB root x=ζ then(⟨x.a9.fj,yP (dk (Vf root e) (2*x.a9.fj+1)) x.a9.bk⟩,ζ) else(bg,η)
theorem GH{p:aT}(hb:okB p.a9.bk)(k g e:Int):qV k g e p=ς (wE k g e p)/\u7 k g e p=ς (wE k g e p):=by
 simp only[qV,Ch hb,Ae,u7,CJ hb,AF,ab4,wE]
 cases hg:eqB p.ak g
 .simp_all
 cases he:eqB p.aU e
 .simp_all
 cases hv:NB k p
 .simp_all
 have he:=DG he
 rw[if_pos ⟨DG hg,he,rfl⟩]
 simp only[NB,v0] at hv
 obtain⟨h1,h2,h3⟩:=hv
 have hlen:=Fb h1
 have hd:=DG h2
 have hm:=DG h3
 have hcnt:1<=p.a9.fj/\p.a9.fj<=100000:=by
  simp only[F2,v0] at h1
  exact cJ.1 h1.2.1
 rw[he] at hm
 have ek:eqB p.a9.mu (mac (Vf k e) p.a9)=true:=by rw[hm];simp
 simp only[uv,yr,JX hb (show p.a9.bk.length<=50000 by omega),zE,rR,yG hb (show p.a9.bk.length<=50000 by omega),yF,Ls hb (show p.a9.bk.length<=50000 by omega),h1,h2,ek,show leB p.a9.fj 0=η from leB_f.2 oaa,hd,cG (n:=2*p.a9.fj) oaa,cG (n:=2*p.a9.fj+1) oaa,au]
 simp_all
def Nm(root:Int)(m:ar):Int:=dZ (Kd root [1,2]) [23,m.d9,m.bJ,m.ak,m.aU,m.bW]
def AJ(root:Int)(m:ar):ar:={m with mu:=Nm root m}
def vH(root:Int)(m:ar):Bool:=eqB m.mu (Nm root m)
theorem VG(root:Int)(m:ar):rS root m=ς (Nm root m):=by simp[rS,oo,wX,d7,Nm]
theorem VF(root:Int)(m:ar):qW root m=ς (Nm root m):=by simp[qW,mW,vR,d6,Nm]
theorem IP(root:Int)(m:ar):mE root m=ς (AJ root m):=by simp[mE,VG,AJ]
theorem IO(root:Int)(m:ar):my root m=ς (AJ root m):=by simp[my,VF,AJ]
theorem V7(root:Int)(m:ar):jF root m=ς (vH root m):=by simp[jF,VG,vH]
theorem NC(root:Int)(m:ar):gQ root m=ς (vH root m):=by simp[gQ,VF,vH]
@[simp] theorem vSig_sign (root:Int) (m:ar):vH root (AJ root m)=true:=by simp[vH,AJ,Nm,eqB]
def nO(m:ar):Bool:=inR m.d9 1 8&&(inR m.bJ 0 5&&(inR m.ak 0 999999&&(inR m.aU 0 999999&&inR m.bW 0 1000000000000)))
theorem Pd(m:ar):kw m=ς (nO m):=by
 simp only[kw,iy,ab4,nO]
 grind
theorem Pc(m:ar):kg m=ς (nO m):=by
 simp only[kg,jp,ab4,nO]
 grind
def msk(k r:Int):Int:=dZ k [1,r]%1000000
theorem Ie(k r:Int):0<=msk k r/\msk k r<1000000:=by unfold msk;omega
theorem Zx(k r:Int):lH k r=ς (msk k r):=by simp[lH,d7,xP,msk]
theorem Zw(k r:Int):ly k r=ς (msk k r):=by simp[ly,d6,msk,ace (tQ k [1,r]).1]
def unm(k r a:Int):Int:=(a%1000000-msk k r)%1000000
theorem NA(k r a:Int):0<=unm k r a/\unm k r a<=999999:=by unfold unm;omega
theorem ZQ(k r a:Int):jw k r a=ς (unm k r a):=by
 have:=Ie k r
 simp only[jw,xP _ (show(1:Int)<=1000000 by omega) oaa,Zx,ab4,unm];rw[cG oaa]
theorem ZP(k r a:Int):jm k r a=ς (unm k r a):=by
 have:=Ie k r
 simp only[jm,Oy _ (show(1:Int)<=1000000 by omega) oaa,Zw,ab4,unm];rw[cG oaa]
def Ia(x:Int):Int:=if x=0 then 1 else x
def vec(k r q:Int):bL:=bif inR q 0 999999 then⟨r,(q+msk k r)%1000000,dZ k [2,r,q],dZ k [3,r],Ia (dZ k [4,r,q])⟩ else cF
theorem X4(k:Int)(xs:List Int):1<=Ia (dZ k xs)/\Ia (dZ k xs)<=2147483646:=by have:=tQ k xs;unfold hM Ia at*;omega
theorem ZS(k r q:Int):kz k r q=ς (vec k r q):=by
 simp only[kz,iy,ab4,vec]
 cases hq:inR q 0 999999
 .rfl
 rw[cJ] at hq
 have h1:=Ie k r
 have h2:=tQ k [4,r,q]
 simp only[Zx,xP _ (show(1:Int)<=1000000 by omega) oaa,d7 (show [2,r,q].length<=100000 by simp),d7 (show [3,r].length<=100000 by simp),d7 (show [4,r,q].length<=100000 by simp),Vp,au]
 rw[cG oaa]
 by_cases h:dZ k [4,r,q]=0
 .rw[show ltB 1 (dZ k [4,r,q])=η from ltB_f.2 oaa];simp[Ia,h]
 by_cases h':dZ k [4,r,q]=1
 .rw[h'];simp[ltB,Ia]
 rw[show ltB 1 (dZ k [4,r,q])=ζ from ltB_t.2 oaa];simp[Ia,h]
theorem ZR(k r q:Int):kh k r q=ς (vec k r q):=by
 simp only[kh,jp,ab4,vec]
 cases hq:inR q 0 999999
 .rfl
 rw[cJ] at hq
 have h1:=Ie k r
 simp only[Zw,d6 (show [2,r,q].length<=1048576 by simp),d6 (show [3,r].length<=1048576 by simp),d6 (show [4,r,q].length<=1048576 by simp),au]
 rw[cG oaa,ace oaa]
 by_cases h:dZ k [4,r,q]=0
 .rw[h];simp[Ia]
 rw[show eqB (dZ k [4,r,q]) 0=η from eqB_f.2 h];simp[Ia,h]
def xg(k last:Int)(v:bL):Int:=
 if v.mu≠dZ k [2,v.dT,unm k v.dT v.fK] then 1 else if unm k v.dT v.fK<=last then 2 else if last<unm k v.dT v.fK-1000 then 3 else 0
theorem YW(k last:Int)(v:bL):pk k last v=ς (xg k last v):=by
 have hu:=NA k v.dT v.fK
 simp only[pk,ZQ,d7 (show [2,v.dT,unm k v.dT v.fK].length<=100000 by simp),ab4,xg]
 rw[cG oaa]
 by_cases h1:v.mu=dZ k [2,v.dT,unm k v.dT v.fK]
 .rw[show eqB v.mu (dZ k [2,v.dT,unm k v.dT v.fK])=ζ from eqB_t.2 h1]
  simp only[ne_eq,h1,not_true_eq_false,if_false,au]
  by_cases h2:unm k v.dT v.fK<=last
  .rw[show leB (unm k v.dT v.fK) last=ζ from leB_t.2 h2,if_pos h2];rfl
  rw[show leB (unm k v.dT v.fK) last=η from leB_f.2 oaa,if_neg h2]
  by_cases h3:last<unm k v.dT v.fK-1000
  .rw[show ltB last (unm k v.dT v.fK-1000)=ζ from ltB_t.2 h3,if_pos h3];rfl
  rw[show ltB last (unm k v.dT v.fK-1000)=η from ltB_f.2 oaa,if_neg h3];rfl
 rw[show eqB v.mu (dZ k [2,v.dT,unm k v.dT v.fK])=η from eqB_f.2 h1]
 simp[h1]
theorem YV{last:Int}(hl: -9000000000000<=last/\last<=9000000000000)(k:Int)(v:bL):o3 k last v=ς (xg k last v):=by
 have hu:=NA k v.dT v.fK
 simp only[o3,ZP,d6 (show [2,v.dT,unm k v.dT v.fK].length<=1048576 by simp),ab4,xg]
 rw[cG oaa]
 by_cases h1:v.mu=dZ k [2,v.dT,unm k v.dT v.fK]
 .rw[show eqB v.mu (dZ k [2,v.dT,unm k v.dT v.fK])=ζ from eqB_t.2 h1]
  simp only[ne_eq,h1,not_true_eq_false,if_false,au]
  by_cases h2:unm k v.dT v.fK<=last
  .rw[show leB (unm k v.dT v.fK) last=ζ from leB_t.2 h2,if_pos h2];rfl
  rw[show leB (unm k v.dT v.fK) last=η from leB_f.2 oaa,if_neg h2]
  by_cases h3:last<unm k v.dT v.fK-1000
  .rw[show ltB (last+1000) (unm k v.dT v.fK)=ζ from ltB_t.2 oaa,if_pos h3];rfl
  rw[show ltB (last+1000) (unm k v.dT v.fK)=η from ltB_f.2 oaa,if_neg h3];rfl
 rw[show eqB v.mu (dZ k [2,v.dT,unm k v.dT v.fK])=η from eqB_f.2 h1]
 simp[h1]
def Md(id:cf)(q:Int):Int:=dZ 29 [id.dF,id.bW,q]
theorem Z5(id:cf)(q:Int):nV id q=ς (Md id q):=by simp[nV,d7,Md]
theorem Z4(id:cf)(q:Int):mN id q=ς (Md id q):=by simp[mN,d6,Md]
theorem LC{α:Type}(p:α->Bool):∀(xs:List α) (i:Nat),i<(xs.takeWhile p).length->∃x,xs[i]?=ς x/\p x=ζ
 |[],i,h=>by simp at h
 |x::xs,i,h=>by
  rw[acf] at h
  cases hp:p x<;>rw[hp] at h
  .simp at h
  cases i with
  |zero=>simp_all
  |succ i=>exact LC p xs i (by simpa using h)
theorem LB{α:Type}(p:α->Bool):∀(xs:List α) (x:α),xs[(xs.takeWhile p).length]?=ς x->p x=η
 |[],x,h=>by simp at h
 |y::xs,x,h=>by
  rw[acf] at h
  cases hp:p y<;>rw[hp] at h
  .simp_all
  exact LB p xs x (by simpa using h)
theorem E7(p:α->Bool)(xs:List α):(xs.takeWhile p).length<=xs.length:=(List.takeWhile_prefix p).length_le
theorem E8{α:Type}(p:α->Bool):∀xs:List α,xs.take (xs.takeWhile p).length=xs.takeWhile p
 |[]=>rfl
 |x::xs=>by
  rw[acf]
  cases p x
  .rfl
  simp[E8 p xs]
theorem E6{α:Type}(p:α->Bool):∀xs:List α,xs.drop (xs.takeWhile p).length=xs.dropWhile p
 |[]=>rfl
 |x::xs=>by
  rw[acf,acy]
  cases p x
  .rfl
  simp[E6 p xs]
theorem Fg{L:Int->Option (bN Int Int)}(xs:List α)(p:α->Bool)(hl:xs.length<=1048576)(h1:∀(k:Nat) (x:α),xs[k]?=ς x->L k=bif p x then ς (.next (WR ((k:Int)+1))) else ς (.done k))(h0:L xs.length=ς (.done xs.length)):iter L FU 0=ς (((xs.takeWhile p).length:Nat):Int):=by
 have hle:=E7 p xs
 have:Wp (iter L FU 0) (λr=>r=(((xs.takeWhile p).length:Nat):Int)):=by
  refine Wp.iterF (λs=>∃i:Nat,s=(i:Int)/\i<=(xs.takeWhile p).length) (λs=>((xs.length:Int)-s).toNat) ⟨0,rfl,by omega⟩ oaa ?_
  rintro _ ⟨i,rfl,hi⟩
  by_cases e:i<(xs.takeWhile p).length
  .obtain⟨x,hx,hp⟩:=LC p xs i e
   rw[h1 i x hx,hp]
   exact⟨⟨i+1,by rw[cG oaa];rfl,by omega⟩,by simp only[cG (show-9223372036854775808<=(i:Int)+1/\(i:Int)+1<=9223372036854775807 by omega)];omega⟩
  have e:i=(xs.takeWhile p).length:=by omega
  by_cases hn:i<xs.length
  .obtain⟨x,hx⟩:∃x,xs[i]?=ς x:=⟨_,aab hn⟩
   rw[h1 i x hx,LB p xs x (by simp_all)]
   subst e;rfl
  have:i=xs.length:=by omega
  subst this
  rw[h0]
  show(xs.length:Int)=_
  omega
 obtain⟨r,hr,rfl⟩:=this.ex
 exact hr
def before(q:Int)(x:ab):Bool:=ltB x.cP q
def qk(x:ab)(xs:List ab):List ab:=xs.takeWhile (before x.cP)++[x]++xs.dropWhile (before x.cP)
def qP:List ab->Int->List aC->aj
 |[],n,dl=>⟨n,[],dl⟩
 |x::xs,n,dl=>if x.cP=n/\dl.length<24 then qP xs (n+1) (dl++[⟨x.bk⟩]) else⟨n,x::xs,dl⟩
def yg(r:aj)(x:ab):Bool:=!oB r||(ltB 60 (x.bk.length:Int)||(!inR x.cP r.bK (r.bK+7)||(r.am.any (λy=>eqB y.cP x.cP)||leB 24 (r.aD.length:Int))))
def pF(r:aj)(x:ab):aj:=
 bif yg r x then r else
  let o:=qP (qk x r.am) r.bK r.aD
  bif leB 24 (o.aD.length:Int) then {o with am:=[]} else o
theorem Gg:∀(xs:List ab) (n:Int) (dl:List aC),dl.length<=24->(qP xs n dl).aD.length<=24
 |[],n,dl,h=>h
 |x::xs,n,dl,h=>by
  rw[qP];split
  .exact Gg xs _ _ (by simp;omega)
  exact h
theorem A8{L:aj->Option (bN aj aj)}(hL:∀v:aj,v.am.length<=1000->v.aD.length<=24->0<=v.bK->v.bK<=2000000->L v=match v.am with
  |[]=>ς (.done v)
  |x::xs=>if x.cP=v.bK/\v.aD.length<24 then ς (.next ⟨v.bK+1,xs,v.aD++[⟨x.bk⟩]⟩) else ς (.done v)):
 ∀(xs:List ab) (n:Int) (dl:List aC) (fu:Nat),xs.length<=1000->dl.length<=24->0<=n->n+xs.length<=2000000->xs.length<fu->iter L fu ⟨n,xs,dl⟩=ς (qP xs n dl)
 |[],n,dl,fu,h1,h2,h3,h4,h5=>by
  cases fu with
  |zero=>omega
  |succ fu=>rw[iter,hL _ h1 h2 h3 (by simp_all)];rfl
 |x::xs,n,dl,fu,h1,h2,h3,h4,h5=>by
  simp only[aaq] at h1 h4 h5
  cases fu with
  |zero=>omega
  |succ fu=>
   rw[iter,hL ⟨n,x::xs,dl⟩ oaa h2 h3 (by grind),qP]
   simp only
   by_cases e:x.cP=n/\dl.length<24
   .rw[if_pos e,if_pos e]
    exact A8 hL xs (n+1) _ fu oaa (by simp;omega) oaa oaa oaa
   grind
theorem TA{xs:List ab}(h:xs.length<=1048576)(q:Int):∃r,EW xs q=ς r/\leB 0 r=xs.any (λy=>eqB y.cP q):=by
 refine⟨_,xp (L:=sS xs q) xs (λy=>eqB y.cP q) oaa (λk x hx hk=>?_) ?_,?_⟩
 .simp[sS,cr hk,hx];cases eqB x.cP q<;>simp[WRs (k:=k)]
 .simp[sS]
 rcases Bl (λy:ab=>eqB y.cP q) xs 0 with⟨e,ha⟩|⟨j,e,x,hx,hp,_⟩
 .rw[show((0:Nat):Int)=0 from rfl] at e
  rw[e,show xs.any (λy=>eqB y.cP q)=η from by simp_all];simp[leB]
 rw[show((0:Nat):Int)=0 from rfl] at e
 rw[e,show xs.any (λy=>eqB y.cP q)=ζ from List.any_eq_true.2 ⟨x,aac hx,hp⟩,leB_t];omega
theorem UO(h:r.am.length<=1048576)(q:Int):yY r q=ς (r.am.any (λy=>eqB y.cP q)):=
 Jr (L:=o4 r q) r.am (λy=>eqB y.cP q) oaa (λk x hx hk=>by
  simp[o4,cr hk,hx];cases eqB x.cP q<;>simp[WRs (k:=k)]) (by simp[o4])
theorem qG(h:oB r=ζ):r.bK=(r.aD.length:Int)+1/\r.aD.length<=24/\r.am.length<=8:=by
 simp only[oB,v0] at h
 obtain⟨h1,h2,h3,h4,h5⟩:=h
 have h2:=Bo h2
 have h4:=Bo h4
 have h1:=DG h1
 rw[cG oaa] at h1
 omega
theorem wa(x:ab)(xs:List ab):(qk x xs).length=xs.length+1:=by
 have:(xs.takeWhile (before x.cP)).length+(xs.dropWhile (before x.cP)).length=xs.length:=by rw[<-List.length_append,aci]
 simp[qk];omega
theorem L2_s:∀v:aj,v.am.length<=1000->v.aD.length<=24->0<=v.bK->v.bK<=2000000->kc v=match v.am with
 |[]=>ς (.done v)
 |x::xs=>if x.cP=v.bK/\v.aD.length<24 then ς (.next ⟨v.bK+1,xs,v.aD++[⟨x.bk⟩]⟩) else ς (.done v):=by
 rintro⟨n,p,dl⟩ h1 h2 h3 h4
 cases p with
 |nil=>simp[kc]
 |cons x xs=>
  simp only[aaq] at h1 h2
  have i0:ix (x::xs) 0=ς x:=by simp[ix,leB]
  have hlt:ltB 0 (((x::xs).length:Nat):Int)=true:=ltB_t.2 (by simp_all)
  simp only[kc,i0,hlt,au]
  by_cases e:x.cP=n
  .by_cases e2:dl.length<24
   .rw[if_pos ⟨e,e2⟩,eqB_t.2 e,show ltB (dl.length:Int) 24=ζ from ltB_t.2 oaa]
    have a1:dH 24 (dl++[(⟨x.bk⟩:aC)]).length=true:=de oaa (by simp;omega)
    have a2:fD (x::xs) 1 (((x::xs).length:Nat):Int)=true:=by simp[fD];omega
    simp only[a1,a2,cG (n:=n+1) (by grind),au]
    rfl
   rw[if_neg (λh=>e2 h.2),eqB_t.2 e,show ltB (dl.length:Int) 24=η from ltB_f.2 oaa];rfl
  rw[if_neg (λh=>e h.1),eqB_f.2 e];rfl
theorem L2_i:∀v:aj,v.am.length<=1000->v.aD.length<=24->0<=v.bK->v.bK<=2000000->sy v=match v.am with
 |[]=>ς (.done v)
 |x::xs=>if x.cP=v.bK/\v.aD.length<24 then ς (.next ⟨v.bK+1,xs,v.aD++[⟨x.bk⟩]⟩) else ς (.done v):=L2_s
theorem P8(b:Bool)(x y:α):(bif b then ς x else ς y)=ς (bif b then x else y):=by grind
theorem OJ(a b c d e:Bool):(bif !a then ς ζ else bif b then ς ζ else bif !c then ς ζ else bif d then ς ζ else ς e)=ς (!a||(b||(!c||(d||e)))):=by grind
theorem take_s(h:df r) :oi r x=ς (pF r x):=by
 obtain⟨q,hq,hq2⟩:=TA h.1.1 x.cP
 have hw:oB r=ζ->inR x.cP r.bK (WR (WR (r.bK+8)-1))=inR x.cP r.bK (r.bK+7):=λhv=>by
  have:=qG hv
  rw[cG (n:=r.bK+8) oaa,cG oaa,show r.bK+8-1=r.bK+7 by omega]
 have hl:(bif !oB r then ς ζ else(bif ltB 60 (x.bk.length:Int) then ς ζ else(bif !(inR x.cP r.bK (WR (WR (r.bK+8)-1))) then ς ζ else(bif leB 0 q then ς ζ else ς (leB 24 (r.aD.length:Int))))))=ς (yg r x):=by
  rw[hq2,OJ]
  cases hv:oB r
  .simp[yg,hv]
  rw[hw hv];simp[yg,hv]
 simp only[oi,U3 h,U5 h.2.1 h.1.1,iy,hq,ab4,hl]
 rw[pF]
 cases hlt:yg r x
 .simp only[yg,aax,acg] at hlt
  obtain⟨l1,l2,l3,l4,l5⟩:=hlt
  have hv:=qG l1
  have l2:=Mz l2
  have l5:=H2 l5
  have hw2:=E7 (before x.cP) r.am
  have hrun:=Fg (L:=ka x r) r.am (before x.cP) oaa (λk y hy=>by
   have hk:=(aaa.1 hy).1
   simp[ka,cr hk,hy,before]) (by simp[ka])
  have hxs:([]:List ab)++r.am.take ((((r.am.takeWhile (before x.cP)).length:Nat):Int)).toNat++[(⟨x.cP,[]++x.bk⟩:ab)]++r.am.drop ((((r.am.takeWhile (before x.cP)).length:Nat):Int)).toNat=qk x r.am:=by
   simp[E8,E6,qk]
  have a1:fD r.am 0 (((r.am.takeWhile (before x.cP)).length:Nat):Int)=true:=by simp[fD];omega
  have a2:fD r.am (((r.am.takeWhile (before x.cP)).length:Nat):Int) (r.am.length:Int)=true:=by simp[fD];omega
  have a3:dH 1 (([]:List Int)++x.bk).length=true:=de oaa (by simp;omega)
  have a4:dH 32 (([]:List ab)++r.am.take ((((r.am.takeWhile (before x.cP)).length:Nat):Int)).toNat).length=true:=de oaa (by simp;omega)
  have a5:dH 32 (([]:List ab)++r.am.take ((((r.am.takeWhile (before x.cP)).length:Nat):Int)).toNat++[(⟨x.cP,[]++x.bk⟩:ab)]).length=true:=de oaa (by simp;omega)
  simp only[hrun,a1,a2,a3,a4,a5,au]
  rw[hxs,de oaa (show(qk x r.am).length<=1048577 by grind),A8 L2_s (qk x r.am) r.bK r.aD FU (by grind) oaa oaa (by grind) (by have:=oC;grind)]
  have hd:=Gg (qk x r.am) r.bK r.aD oaa
  simp only[P8,au]
  rw[show eqB (((qP (qk x r.am) r.bK r.aD).aD.length:Nat):Int) 24=leB 24 (((qP (qk x r.am) r.bK r.aD).aD.length:Nat):Int) from by rw[ab5];simp[eqB,leB];omega]
  cases leB 24 (((qP (qk x r.am) r.bK r.aD).aD.length:Nat):Int)<;>rfl
 rfl
theorem Xx(xs ys:List α)(z x:α):((cpD ((xs++ys)++[z]) (xs.length+1) (((xs++ys)++[z]).drop xs.length)).set xs.length x)=xs++[x]++ys:=by
 have e1:((xs++ys)++[z]).drop xs.length=ys++[z]:=by rw[acm,List.drop_left]
 have e2:((xs++ys)++[z]).drop (xs.length+1)=(ys++[z]).drop 1:=by rw[<-List.drop_drop,e1]
 have e3:((xs++ys)++[z]).take (xs.length+1)=xs++(ys++[z]).take 1:=by rw[acm,List.take_append,acq oaa];simp
 rw[cpD,e1,e2,e3,cpL]
 cases ys with
 |nil=>simp
 |cons y ys=>simp_all
theorem take_i(h:df r) :mV r x=ς (pF r x):=by
 have hw:oB r=ζ->inR x.cP r.bK (WR (WR (r.bK+8)-1))=inR x.cP r.bK (r.bK+7):=λhv=>by
  have:=qG hv
  rw[cG (n:=r.bK+8) oaa,cG oaa,show r.bK+8-1=r.bK+7 by omega]
 have hl:(bif !oB r then ς ζ else(bif ltB 60 (x.bk.length:Int) then ς ζ else(bif !(inR x.cP r.bK (WR (WR (r.bK+8)-1))) then ς ζ else(bif r.am.any (λy=>eqB y.cP x.cP) then ς ζ else ς (leB 24 (r.aD.length:Int))))))=ς (yg r x):=by
  rw[OJ]
  cases hv:oB r
  .simp[yg,hv]
  rw[hw hv];simp[yg,hv]
 simp only[mV,Pn h,U4 h.2.1 h.1.1,jp,UO h.1.1,ab4,hl]
 rw[pF]
 cases hlt:yg r x
 .simp only[yg,aax,acg] at hlt
  obtain⟨l1,l2,l3,l4,l5⟩:=hlt
  have hv:=qG l1
  have l2:=Mz l2
  have l5:=H2 l5
  have hw2:=E7 (before x.cP) r.am
  have hrun:=Fg (L:=jN x r) r.am (before x.cP) oaa (λk y hy=>by
   have hk:=(aaa.1 hy).1
   simp[jN,cr hk,hy,before]) (by simp[jN])
  generalize hm:(r.am.takeWhile (before x.cP)).length=m at*
  have hxs:(cpD (r.am++[bg]) (m+1) ((r.am++[bg]).drop m)).set m (⟨x.cP,x.bk⟩:ab)=qk x r.am:=by
   have:=Xx (r.am.takeWhile (before x.cP)) (r.am.dropWhile (before x.cP)) bg x
   rw[aci,hm] at this
   exact this
  have w1:WR ((m:Int)+1)=((m+1:Nat):Int):=lJ oaa
  have a1:fD (r.am++[bg]) ((m+1:Nat):Int) (((r.am++[bg]).length:Nat):Int)=true:=by simp[fD];omega
  have a2:fD (r.am++[bg]) (m:Int) (((r.am++[bg]).length:Nat):Int)=true:=by simp[fD];omega
  have a3:dH 32 (r.am++[bg]).length=true:=de oaa (by simp;omega)
  obtain⟨y,_,hy⟩:=ix_in (xs:=cpD (r.am++[bg]) (m+1) ((r.am++[bg]).drop m)) (i:=(m:Int)) oaa (by simp;omega)
  simp only[hrun,w1,ab8,a1,a2,a3,CN (show x.bk.length<=1048576 by omega),hy,au]
  rw[hxs,A8 L2_i (qk x r.am) r.bK r.aD FU (by rw[wa];omega) oaa oaa (by rw[wa];omega) (by have:=oC;rw[wa];omega)]
  grind
 rfl
def Dx(d:av):ar:=AJ d.bj ⟨5,d.bJ,d.ak,d.aU,0,cF,0⟩
def yO(d:av):aK:=⟨{d with bZ:=η,mH:=3},[Dx d]⟩
def JK(d:av)(m:ar):aK:=
 bif eqB (xg d.dJ.fg d.dJ.dE m.cy) 0 then
  ⟨{d with dJ:={d.dJ with dE:=unm d.dJ.fg m.cy.dT m.cy.fK},ak:=m.ak,bj:=(vec d.dJ.fg m.cy.dT (unm d.dJ.fg m.cy.dT m.cy.fK)).fg},
   [⟨3,d.bJ,m.ak,0,dZ d.dJ.fg [3,m.cy.dT],cF,0⟩]⟩
 else⟨d,[]⟩
def A7(d:av)(m:ar):aK:=
 bif !nO m||(!eqB m.bJ d.bJ||eqB d.bV 0) then⟨d,[]⟩ else
 bif eqB m.d9 2&&eqB d.bV 1 then JK d m else
 bif eqB m.d9 4&&(eqB d.bV 1&&(tu d.bj&&(eqB m.ak d.ak&&vH d.bj m))) then⟨{d with bV:=2,aU:=m.aU,bZ:=ζ},[]⟩ else
 bif eqB m.d9 6&&(eqB d.bV 2&&(eqB m.ak d.ak&&(eqB m.aU d.aU&&vH d.bj m))) then⟨{d with bZ:=ζ},[]⟩ else
 bif eqB m.d9 7&&(eqB d.bV 3&&ltB d.aU 999999) then yO {d with bV:=2,aU:=d.aU+1} else
 bif eqB m.d9 7&&eqB d.bV 2 then yO d else⟨d,[]⟩
def dAck(d:av)(r:aj):ar:=AJ d.bj ⟨8,d.bJ,d.ak,d.aU,r.bK,cF,0⟩
def A6(d:av)(x:aT):aK:=
 let o:=wE d.bj d.ak d.aU x
 bif eqB d.bV 2&&o.2 then⟨{d with bY:=pF d.bY o.1},[dAck d (pF d.bY o.1)]⟩ else⟨d,[]⟩
theorem UC{d:av}(h:dt d):xb d=ς ⟨d,[]⟩:=by simp[xb,JL h]
theorem UN(d:av):xc d=ς (Dx d):=by simp[xc,IP,Dx]
theorem path_i(d:av):sD d=ς (Dx d):=by simp[sD,IO,Dx]
theorem ZD{d:av}(h:dt d){l:List ar}(hl:l.length<=1048576):cO d l=ς ⟨d,l⟩:=by simp[cO,Td h,VH hl]
theorem zx{d:av}(h:dt d):cO d []=ς ⟨d,[]⟩:=ZD h (by simp)
theorem Nc{d:av}(h:dt d)(m:ar):cO d [m]=ς ⟨d,[m]⟩:=ZD h (by simp)
theorem next_s{d:av}(he:0<=d.aU/\d.aU<=999999):AN d=ς (yO {d with aU:=d.aU+1}):=by
 simp only[AN,UN,ab4,xe]
 rw[cG oaa];rfl
theorem Zc{d:av}(h:dt d):fR d=ς (yO d):=by
 simp only[fR,path_i,ab4,Nc (d:={d with bZ:=η,mH:=3}) h];rfl
theorem tok_s(k r last:Int):∃t,qv k r last=ς t:=by
 simp only[qv,iy,ab4,d7 (show [5,r,last].length<=100000 by simp),xP _ (show(1:Int)<=1000 by omega) oaa]
 cases inR last 0 999999<;>exact⟨_,rfl⟩
theorem tok_i(k r last:Int):∃t,qh k r last=ς t:=by
 simp only[qh,jp,ab4,d6 (show [5,r,last].length<=1048576 by simp)]
 cases inR last 0 999999<;>exact⟨_,rfl⟩
theorem ask_s{d:av}(h:dt d)(hc:vr d.dJ=ζ)(m:ar):xQ d m=ς (JK d m):=by
 obtain⟨t,ht⟩:=tok_s d.dJ.fg m.cy.dT d.dJ.dE
 simp only[xQ,lk,V5,hc,YW,ZQ,ZS,d7 (show [3,m.cy.dT].length<=100000 by simp),ht,JL h,JK,au]
 cases h0:eqB (xg d.dJ.fg d.dJ.dE m.cy) 0
 .grind
 simp[gj]
theorem ask_i{d:av}(h:dt d)(hc:vr d.dJ=ζ)(m:ar):iv d m=ς (JK d m):=by
 obtain⟨t,ht⟩:=tok_i d.dJ.fg m.cy.dT d.dJ.dE
 have hl: -9000000000000<=d.dJ.dE/\d.dJ.dE<=9000000000000:=by
  simp only[vr,v0,cJ] at hc;omega
 simp only[iv,le,V4,hc,YV hl,ZP,ZR,d6 (show [3,m.cy.dT].length<=1048576 by simp),ht,JK,au]
 cases h0:eqB (xg d.dJ.fg d.dJ.dE m.cy) 0
 .cases h2:eqB (xg d.dJ.fg d.dJ.dE m.cy) 2<;>cases h3:eqB (xg d.dJ.fg d.dJ.dE m.cy) 3<;>simp[h0,zx h]
 simp only[h0,au]
 rw[Nc (d:={d with dJ:={d.dJ with dE:=unm d.dJ.fg m.cy.dT m.cy.fK},ak:=m.ak,bj:=(vec d.dJ.fg m.cy.dT (unm d.dJ.fg m.cy.dT m.cy.fK)).fg}) h]
 rfl
theorem sig_s{d:av}(h:dt d)(hc:vr d.dJ=ζ)(he:0<=d.aU/\d.aU<=999999)(m:ar):ol d m=ς (A7 d m):=by
 simp only[ol,Pd,UC h,JL h,ask_s h hc,Kb,V7,next_s (d:={d with bV:=2}) he,UN,xe,ab4,A7]
 cases nO m<;>cases eqB m.bJ d.bJ<;>cases eqB d.bV 0<;>try rfl
 simp only[acI,au]
 cases eqB m.d9 2<;>cases eqB d.bV 1<;>try rfl
 all_goals cases eqB m.d9 4<;>cases tu d.bj<;>cases eqB m.ak d.ak<;>cases vH d.bj m<;>cases eqB m.d9 6<;>cases eqB d.bV 2<;>cases eqB m.aU d.aU<;>cases eqB m.d9 7<;>cases eqB d.bV 3<;>cases ltB d.aU 999999<;>rfl
theorem Ba{a b c:Int}(h:eqB a b=ζ)(hn:b≠c):eqB a c=false:=by simp_all
theorem sig_i{d:av}(h:dt d)(hc:vr d.dJ=ζ)(he:0<=d.aU/\d.aU<=999999)(m:ar):kj d m=ς (A7 d m):=by
 have a1:fR d=ς (yO d):=Zc h
 have a2:fR {d with bV:=2,aU:=WR (d.aU+1)}=ς (yO {d with bV:=2,aU:=d.aU+1}):=by rw[cG oaa];exact Zc (d:={d with bV:=2,aU:=d.aU+1}) h
 have a3:cO {d with bV:=2,aU:=m.aU,bZ:=ζ} []=ς ⟨{d with bV:=2,aU:=m.aU,bZ:=ζ},[]⟩:=zx (d:={d with bV:=2,aU:=m.aU,bZ:=ζ}) h
 have a4:∀b,cO {d with bZ:=b} []=ς ⟨{d with bZ:=b},[]⟩:=λb=>zx (d:={d with bZ:=b}) h
 simp only[kj,Pc,ask_i h hc,Ka,NC,a1,a2,a4,zx h,ab4,A7]
 cases nO m<;>cases eqB m.bJ d.bJ<;>cases eqB d.bV 0<;>try rfl
 simp only[acI,au]
 cases h2:eqB m.d9 2
 .cases h4:eqB m.d9 4
  .cases h6:eqB m.d9 6
   .cases h7:eqB m.d9 7
    .rfl
    cases eqB d.bV 3<;>cases ltB d.aU 999999<;>cases eqB d.bV 2<;>rfl
   rw[Ba h6 (show(6:Int)≠7 by omega)]
   cases eqB d.bV 2<;>cases eqB m.ak d.ak<;>cases eqB m.aU d.aU<;>cases vH d.bj m<;>rfl
  rw[Ba h4 (show(4:Int)≠6 by omega),Ba h4 (show(4:Int)≠7 by omega)]
  cases eqB d.bV 1<;>cases tu d.bj<;>cases eqB m.ak d.ak<;>cases vH d.bj m<;>first|(simp only[a3,zx h,acd,acr,Bool.and_false,Bool.false_and,au];done)|(simp[a3,zx h];done)
 rw[Ba h2 (show(2:Int)≠4 by omega),Ba h2 (show(2:Int)≠6 by omega),Ba h2 (show(2:Int)≠7 by omega)]
 cases eqB d.bV 1<;>rfl
def Pb(x:aT):Prop:=okB x.a9.bk
theorem rad_s{d:av}(h:dt d){x:aT}(hx:Pb x):pj d x=ς (A6 d x):=by
 simp only[pj,(GH hx _ _ _).2,UC h,JL h,take_s h,IP,ab4,A6]
 cases eqB d.bV 2<;>cases(wE d.bj d.ak d.aU x).2<;>rfl
theorem LA(h:df r)(x:ab):df (pF r x):=by
 rw[pF]
 cases hlt:yg r x
 .simp only[yg,aax,acg] at hlt
  obtain⟨l1,l2,l3,l4,l5⟩:=hlt
  have hv:=qG l1
  have l2:=Mz l2
  have hi:okL cN (qk x r.am):=by
   refine⟨by rw[wa];omega,λy hy=>?_⟩
   simp only[qk,aaf,abl] at hy
   rcases hy with(hy|hy)|hy
   .exact h.1.2 y (acx _ hy)
   .subst hy;exact⟨by omega,λ_ _=>trivial⟩
   exact h.1.2 y (acp _ hy)
  have hd:∀(xs:List ab) (n:Int) (dl:List aC),okL cN xs->(∀p∈dl,eQ p)->dl.length<=24->df (qP xs n dl):=by
   intro xs
   induction xs with
   |nil=>exact λn dl h1 h2 h3=>⟨h1,by show dl.length<=1048576;omega,h2⟩
   |cons y ys ih=>
    intro n dl h1 h2 h3
    rw[qP];split
    .exact ih _ _ ⟨by have:=h1.1;grind,λz hz=>h1.2 z (by simp[hz])⟩ (λp hp=>by
      rcases aaf.1 hp with hp|hp
      .exact h2 p hp
      simp at hp;subst hp;exact h1.2 y (by simp)) (by simp;omega)
    exact⟨h1,by grind,h2⟩
  have:=hd _ r.bK r.aD hi h.2.2 oaa
  simp only[cond_false]
  cases leB 24 (((qP (qk x r.am) r.bK r.aD).aD.length:Nat):Int)
  .exact this
  exact⟨⟨by simp,by simp⟩,this.2⟩
 exact h
theorem rad_i{d:av}(h:dt d){x:aT}(hx:Pb x):lx d x=ς (A6 d x):=by
 simp only[lx,(GH hx _ _ _).1,zx h,take_i h,IO,ab4,A6]
 cases eqB d.bV 2
 .rfl
 cases(wE d.bj d.ak d.aU x).2
 .rfl
 simp only[acd,au]
 rw[Nc (d:={d with bY:=pF d.bY (wE d.bj d.ak d.aU x).1}) (LA h _)]
 rfl
def zG(h:List aA):Int:=(h.map aA.dX).sum
structure NK(a:an):Prop where
 t:0<=a.jf/\a.jf<=100000
 v:0<=a.er/\a.er<=a.jf
 s:0<=a.pv/\a.pv<=a.jf
 l:a.aG.length<=8
 r:∀x∈a.aG,0<=x.bi/\1<=x.dX/\x.dX<=100000
 o:a.aG.Pairwise λx y=>x.bi<y.bi
 e:a.er+a.pv+zG a.aG=a.jf
theorem GJ{α:Type}{key:α->Int}:∀{xs:List α},(∀(k:Nat) (x y:α),xs[k]?=ς x->xs[k+1]?=ς y->key x<key y)->xs.Pairwise λx y=>key x<key y
 |[],_=>.nil
 |[x],_=>by simp
 |x::y::xs,h=>by
  have ih:=GJ (xs:=y::xs) (key:=key) λk a b h1 h2=>h (k+1) a b (by simp_all) (by simp_all)
  have hxy:=h 0 x y rfl rfl
  refine List.Pairwise.cons (λz hz=>?_) ih
  rcases aah.1 hz with e|hz
  .simp_all
  exact Int.lt_trans hxy (List.rel_of_pairwise_cons ih hz)
theorem F8{key:α->Int}{xs:List α}(h:∀(k:Nat) (x:α),xs[k]?=ς x->iI key xs k x=ζ):xs.Pairwise λx y=>key x<key y:=by
 refine GJ λk x y h1 h2=>?_
 have:=h (k+1) y h2
 simp only[iI,h1,aat] at this
 simp_all
theorem Pf{key:α->Int}{xs:List α}(h:xs.Pairwise λx y=>key x<key y){x:α}(hx:xs[k]?=ς x):iI key xs k x=true:=by
 cases k with
 |zero=>rfl
 |succ k=>
  have hl:=(aaa.1 hx).1
  simp only[iI,aab (show k<xs.length by omega),aat]
  rw[leB_f]
  have:=List.pairwise_iff_getElem.1 h k (k+1) oaa hl oaa
  simp_all
theorem Zj:∀(h:List aA) (s:Int),(∀x∈h,0<=x.dX/\x.dX<=100000)->0<=s->s+100000*h.length<=9000000000000->h.foldl (λs x=>WR (s+x.dX)) s=s+zG h
 |[],s,_,_,_=>by simp[zG]
 |x::h,s,hx,h0,h1=>by
  have hh:=hx x (by simp)
  simp only[aaq] at h1
  rw[ack,cG oaa,Zj h _ (λy hy=>hx y (by simp[hy])) oaa oaa]
  simp[zG];omega
theorem PL(l:a.aG.length<=8)(r:∀x∈a.aG,0<=x.bi/\1<=x.dX/\x.dX<=100000):VT a=zG a.aG:=by
 rw[VT,Zj _ _ (λx hx=>by grind) oaa oaa];omega
theorem IV:∀{h:List aA},(∀x∈h,0<=x.bi/\1<=x.dX/\x.dX<=100000)->0<=zG h/\zG h<=100000*h.length/\∀x∈h,x.dX<=zG h
 |[],_=>by simp[zG]
 |x::h,r=>by
  have ih:=IV (h:=h) λy hy=>r y (by simp[hy])
  have hx:=r x (by simp)
  have e:zG (x::h)=x.dX+zG h:=by simp[zG]
  grind
theorem WX:ox a=ζ↔NK a:=by
 constructor
 .intro h
  simp only[ox,v0,cJ,fZ] at h
  obtain⟨h1,h2,h3,h4,h5,h6⟩:=h
  have h4:=Bo h4
  have r:∀x∈a.aG,0<=x.bi/\1<=x.dX/\x.dX<=100000:=λx hx=>by
   obtain⟨k,hk⟩:=aau hx
   have:=h5 k x hk
   simp only[FV,v0,aat,cJ] at this
   simp_all
  have hs:=IV r
  refine⟨h1,h2,h3,by omega,r,F8 λk x hk=>?_,?_⟩
  .have:=h5 k x hk
   simp only[FV,v0] at this
   simp_all
  have h6:=DG h6
  rw[PL oaa r,cG (n:=a.er+a.pv) oaa,cG oaa] at h6
  exact h6
 rintro⟨h1,h2,h3,h4,r,h5,h6⟩
 have hs:=IV r
 simp only[ox,v0,cJ,fZ]
 refine⟨h1,h2,h3,leB_t.2 oaa,λk x hk=>?_,eqB_t.2 ?_⟩
 .have hx:=r x (aac hk)
  simp only[FV,v0,aat,cJ]
  exact⟨ltB_f.2 oaa,by omega,Pf h5 hk⟩
 rw[PL oaa r,cG (n:=a.er+a.pv) oaa,cG oaa]
 exact h6
theorem NK.ok(h:NK a):dD a:=⟨by have:=h.l;omega,λ_ _=>trivial⟩
def X5(x y:Int):Int:=if y<x then y else x
theorem min_s(x y:Int):YD x y=ς (X5 x y):=by
 rw[YD,X5];by_cases h:y<x
 .rw[ltB_t.2 h,if_pos h];rfl
 rw[ltB_f.2 oaa,if_neg h];rfl
structure WOK(w:aF):Prop where
 n:1<=w.bK/\w.bK<=100000
 l:w.aJ.length<=8
 f:1<=w.bK-w.aJ.length
 u:∀(k:Nat) (x:ab),w.aJ[k]?=ς x->x.cP=w.bK-w.aJ.length+k/\x.bk.length<=60
theorem WOK.ok(h:WOK w):ez w:=⟨by have:=h.l;omega,λx hx=>by
 obtain⟨k,hk⟩:=aau hx
 exact⟨by have:=(h.u k x hk).2;omega,λ_ _=>trivial⟩⟩
theorem sv{n:Nat}:vw n=ζ↔n<=60:=by simp[vw,ltB];omega
theorem PR:ke w=ζ↔WOK w:=by
 constructor
 .intro h
  simp only[ke,v0,cJ,fZ,unB,sv] at h
  obtain⟨h1,h2,h3,h4⟩:=h
  have h2:=Bo h2
  have h3:=Bo h3
  rw[cG oaa] at h3
  refine⟨h1,by omega,h3,λk x hx=>?_⟩
  have hk:=(aaa.1 hx).1
  have:=h4 k x hx
  have e:=DG this.1
  rw[cG (n:=w.bK-(w.aJ.length:Int)) oaa,cG oaa] at e
  omega
 rintro⟨h1,h2,h3,h4⟩
 simp only[ke,v0,cJ,fZ,unB,sv]
 refine⟨h1,leB_t.2 oaa,leB_t.2 (by rw[cG oaa];omega),λk x hx=>?_⟩
 have hk:=(aaa.1 hx).1
 have:=h4 k x hx
 exact⟨eqB_t.2 (by rw[cG (n:=w.bK-(w.aJ.length:Int)) oaa,cG oaa];exact this.1),this.2⟩
def jx(xs:List ab):Int:=(xs.map λx=>(x.bk.length:Int)).sum
theorem AU:∀{xs:List ab},(∀x∈xs,x.bk.length<=60)->0<=jx xs/\jx xs<=60*xs.length
 |[],_=>by simp[jx]
 |x::xs,h=>by
  have ih:=AU (xs:=xs) λy hy=>h y (by simp[hy])
  have:=h x (by simp)
  have e:jx (x::xs)=x.bk.length+jx xs:=by simp[jx]
  grind
theorem O3{xs:List ab}(h:∀x∈xs,x.bk.length<=60)(hl:xs.length<=1000):zm xs=jx xs:=by
 have key:∀(xs:List ab) (s:Int),(∀x∈xs,x.bk.length<=60)->0<=s->s+60*xs.length<=9000000000->xs.foldl (λa x=>WR (a+(x.bk.length:Int))) s=s+jx xs:=by
  intro xs
  induction xs with
  |nil=>intro s _ _ _;simp[jx]
  |cons x xs ih=>
   intro s h h0 h1
   have hx:=h x (by simp)
   simp only[aaq] at h1
   rw[ack,cG oaa,ih _ (λy hy=>h y (by simp[hy])) oaa oaa]
   simp[jx];omega
 have:=key xs 0 h oaa oaa
 rw[zm,this];omega
theorem WOK.d(h:WOK w):∀x∈w.aJ,x.bk.length<=60:=λx hx=>by
 obtain⟨k,hk⟩:=aau hx;exact(h.u k x hk).2
structure QOK(q:cU):Prop where
 i:0<=q.bi
 u:0<=q.gO
 g:q.gO<=q.dg
 m:q.dg<=100000
theorem GN:oV q=ζ↔QOK q:=by
 simp only[oV,v0,leB_t]
 exact⟨λ⟨a,b,c,d⟩=>⟨a,b,c,d⟩,λ⟨a,b,c,d⟩=>⟨a,b,c,d⟩⟩
theorem Po(h:QOK q):Nb q=q.dg-q.gO:=by
 rw[Nb,GN.2 h];obtain⟨a,b,c,d⟩:=h
 simp only[cond_true];rw[cG oaa]
structure SP(s:ag):Prop where
 ok:cV s
 rcd:BR s.bF=ζ
 plan:AX s.gu=ζ
 page:pu s.oy=ζ
 win:WOK s.aY
 q:QOK s.dq
 st:0<=s.bV/\s.bV<=1
 k1:s.bV=1->tu s.bj=ζ
 k2:0<s.bw->tu s.am.fg=ζ
 ps:0<=s.bw/\s.bw<=999999
 gn:0<=s.ak/\s.ak<=999999
 ep:0<=s.aU/\s.aU<=999999
 rk:0<=s.bj/\s.bj<=2147483646
 ce:0<=s.bJ/\s.bJ<=5
 qu:0<=s.kY/\s.kY<=5
 rt:0<=s.kf/\s.kf<=3
 sl:s.aX.length<=24
 sd:∀p∈s.aX,p.bk.length<=60
 nx:s.aY.bK<=s.aX.length+1
 un:∀x∈s.aY.aJ,EY s x=ζ
 pd:jx s.aY.aJ<=s.dq.dg-s.dq.gO
theorem VA(ok:cV s):kC s=ζ↔SP s:=by
 constructor
 .intro h
  simp only[kC,v0,cJ,PR,GN,aai,CL,sv,vp,GD] at h
  obtain⟨h1,h2,h3,h4,h5,h6,⟨h7,h8⟩,h9,h10,h11,h12,h13,h14,h15,h16,h17,h18,h19,h20⟩:=h
  have h16:=Bo h16
  have h18:=Bo h18
  have h20:=Bo h20
  rw[cG oaa] at h18
  rw[Po h5,O3 h4.d (by have:=h4.l;omega)] at h20
  refine⟨ok,h1,h2,h3,h4,h5,h6,λe=>?_,λe=>?_,h9,h10,h11,h12,h13,h14,h15,by omega,h17,h18,h19,h20⟩
  .simp_all
  rw[ltB_t.2 e] at h8;simp_all
 rintro⟨_,h1,h2,h3,h4,h5,h6,h7,h8,h9,h10,h11,h12,h13,h14,h15,h16,h17,h18,h19,h20⟩
 simp only[kC,v0,cJ,PR,GN,aai,CL,sv,vp,GD]
 refine⟨h1,h2,h3,h4,h5,h6,⟨?_,?_⟩,h9,h10,h11,h12,h13,h14,h15,leB_t.2 oaa,h17,leB_t.2 (by rw[cG oaa];omega),h19,leB_t.2 (by rw[Po h5,O3 h4.d (by have:=h4.l;omega)];omega)⟩
 .cases e:eqB s.bV 1
  .rfl
  simp_all
 cases e:ltB 0 s.bw
 .rfl
 simp_all
def Lr(s:ag)(m:ar):aP:=
 let q:=s.bF.cP+1
 let v:=vec s.bF.fg (Md s.bF.ID q) q
 bif eqB s.bF.cP 999999 then⟨s,[]⟩ else⟨{s with bF:={s.bF with cP:=q},am:=v,bw:=q},[⟨2,m.bJ,q,0,0,v,0⟩]⟩
def Dd(s:ag)(k:Int):ar:=AJ s.bj ⟨k,s.bJ,s.ak,s.aU,0,cF,0⟩
def wT(s:ag)(c:Int):ag:=⟨s.bF,s.gu,1,cF,0,s.bw,s.am.fg,s.aU+1,c,0,d8,s.aX,s.aY,s.kf,s.dq⟩
def B9(s:ag)(m:ar):aP:=
 bif leB s.bw 0||(!eqB m.ak s.bw||(!eqB m.bW s.am.A2||leB 999999 s.aU)) then⟨s,[]⟩ else⟨wT s m.bJ,[Dd (wT s m.bJ) 4]⟩
def vl(s:ag)(m:ar):Bool:=eqB s.bV 1&&(eqB m.ak s.ak&&vH s.bj m)
def u6(s:ag)(m:ar):ag:={s with aU:=m.aU,bJ:=m.bJ,kY:=0,oy:=d8,kf:=0}
def B8(s:ag)(m:ar):aP:=
 bif !vl s m||(ltB m.aU s.aU||(eqB m.aU s.aU&&!eqB m.bJ s.bJ)) then⟨s,[]⟩ else⟨u6 s m,[Dd (u6 s m) 6]⟩
def mI(w:aF)(k:Int):aF:=bif ltB w.bK k then w else⟨w.bK,w.aJ.filter λx=>leB k x.cP⟩
def sq(q:cU)(n:Int):cU:=bif inR n 0 (q.dg-q.gO) then {q with gO:=q.gO+n} else q
def nQ(s:ag)(k:Int):ag:={s with kY:=0,aY:=mI s.aY k,dq:=sq s.dq (jx s.aY.aJ-jx (mI s.aY k).aJ)}
def Lq(s:ag)(m:ar):aP:=bif !vl s m||ltB s.aY.bK m.bW then⟨s,[]⟩ else⟨nQ s m.bW,[]⟩
def sUp(s:ag)(m:ar):aP:=
 bif !nO m then⟨s,[]⟩ else bif eqB m.d9 1 then Lr s m else bif eqB m.d9 3 then B9 s m else bif eqB m.d9 5 then B8 s m else bif eqB m.d9 8 then Lq s m else⟨s,[]⟩
theorem Ao(h:cV s):ow s=ς ⟨s,[]⟩:=by simp[ow,BP h]
theorem U8(h:cV s){l:List ar}(hl:l.length<=1048576):cM s l=ς ⟨s,l⟩:=by simp[cM,PD h,VH hl]
theorem xM(h:cV s):cM s []=ς ⟨s,[]⟩:=U8 h (by simp)
theorem IC(h:cV s)(m:ar):cM s [m]=ς ⟨s,[m]⟩:=U8 h (by simp)
theorem IA{r:be}(h:BR r=ζ):0<=r.cP/\r.cP<=999999:=by
 simp only[BR,v0,cJ] at h;omega
theorem att_s(h:SP s)(m:ar):oh s m=ς (Lr s m):=by
 have hr:=IA h.rcd
 simp only[oh,Z5,pU,ZC,h.rcd,ZS,Ao h.ok,BP h.ok,cG (n:=s.bF.cP+1) oaa,Lr,au]
 cases he:eqB s.bF.cP 999999
 .simp only[bE,eqB_f.2 (show s.bF.cP+1≠s.bF.cP by omega),acr,acd,au]
 simp_all
theorem att_i(h:SP s)(m:ar):ki s m=ς (Lr s m):=by
 have hr:=IA h.rcd
 simp only[ki,Z4,pK,ZB,h.rcd,ZR,xM h.ok,cG (n:=s.bF.cP+1) oaa,Lr,au]
 cases he:eqB s.bF.cP 999999
 .simp only[bE,eqB_f.2 (show s.bF.cP+1≠s.bF.cP by omega),acr,acd,au]
  rw[IC (s:={s with bF:={s.bF with cP:=s.bF.cP+1},am:=vec s.bF.fg (Md s.bF.ID (s.bF.cP+1)) (s.bF.cP+1),bw:=s.bF.cP+1}) h.ok]
  rfl
 simp_all
theorem resp_s(h:SP s)(m:ar):kV s m=ς (B9 s m):=by
 have he:=h.ep
 simp only[kV,oU,Ao h.ok,BP h.ok,rZ,IP,ab4,cG (n:=s.aU+1) oaa,B9]
 cases leB s.bw 0<;>cases eqB m.ak s.bw<;>cases eqB m.bW s.am.A2<;>cases leB 999999 s.aU<;>rfl
theorem resp_i(h:SP s)(m:ar):iu s m=ς (B9 s m):=by
 have he:=h.ep
 have hh:cV (wT s m.bJ):=h.ok
 have a:∀x,cM ⟨s.bF,s.gu,1,cF,0,s.bw,s.am.fg,s.aU+1,m.bJ,0,d8,s.aX,s.aY,s.kf,s.dq⟩ [x]=ς ⟨wT s m.bJ,[x]⟩:=λx=>IC hh x
 simp only[iu,oH,xM h.ok,lC,IO,ab4,cG (n:=s.aU+1) oaa,a,B9]
 cases leB s.bw 0<;>cases eqB m.ak s.bw<;>cases eqB m.bW s.am.A2<;>cases leB 999999 s.aU<;>rfl
theorem OI(s:ag)(m:ar):t7 s m=ς (vl s m):=by
 simp only[t7,V7,ab4,vl];grind
theorem Ys(h:SP s)(m:ar):je s m=ς (B8 s m):=by
 simp only[je,OI,Ao h.ok,BP h.ok,rZ,IP,ab4,B8]
 cases vl s m<;>cases ltB m.aU s.aU<;>cases eqB m.aU s.aU<;>cases eqB m.bJ s.bJ<;>rfl
theorem Yr(h:SP s)(m:ar):f8 s m=ς (B8 s m):=by
 have hh:cV (u6 s m):=h.ok
 have a:∀x,cM {s with aU:=m.aU,bJ:=m.bJ,kY:=0,oy:=d8,kf:=0} [x]=ς ⟨u6 s m,[x]⟩:=λx=>IC hh x
 simp only[f8,NC,xM h.ok,lC,IO,ab4,a,B8,vl]
 cases eqB s.bV 1<;>cases eqB m.ak s.ak<;>cases vH s.bj m<;>cases ltB m.aU s.aU<;>cases eqB m.aU s.aU<;>cases eqB m.bJ s.bJ<;>rfl
theorem Z0(h:WOK w)(k:Int):jZ w k=ς (mI w k):=by
 have hl:=h.l
 simp only[jZ,Lw h.ok,ab4,mI]
 cases ltB w.bK k
 .have:=eE (step:=gL w k) w.aJ (λi s=>((i:Int),s)) (DM 32 (λx=>leB k x.cP) (λx=>x)) ς oaa
   (λi x s hx hi=>by
    have hd:=h.d x (aac hx)
    simp only[gL,cr hi,bm,hx,aa3,de (by_:=1) (n:=x.bk.length) oaa oaa,WRs (k:=i),DM,au]
    cases leB k x.cP<;>simp
    cases dH 32 (s.length+1)<;>rfl) (λs=>by simp[gL]) ([]:List ab)
  rw[CU oaa _ _ _ _ (by simp;omega)] at this
  simp_all
 rfl
theorem Oj(h:WOK w)(p:ab->Bool):okL cN (w.aJ.filter p):=
 ⟨by have:=List.length_filter_le p w.aJ;have:=h.l;omega,λx hx=>h.ok.2 x (aco.1 hx).1⟩
theorem ZZ(h:WOK w)(k:Int):jL w k=ς (mI w k):=by
 have hl:=h.l
 simp only[jL,GX h.ok,ab4,mI]
 cases ltB w.bK k
 .have:=eE (step:=eX w k) w.aJ (λi s=>((i:Int),s)) (DM 32 (λx=>leB k x.cP) (λx=>x)) ς oaa
   (λi x s hx hi=>by
    simp only[eX,cr hi,bm,hx,WRs (k:=i),DM,au]
    cases leB k x.cP<;>simp
    grind) (λs=>by simp[eX]) ([]:List ab)
  rw[CU oaa _ _ _ _ (by simp;omega)] at this
  simp only[show iter (eX w k) FU (0,[])=_ from this,aa3,List.map_id',zn (Oj h _),au]
 rfl
theorem Qa(h:QOK q)(n:Int):∃b,pi q n=ς (sq q n,b):=by
 obtain⟨a,b,c,d⟩:=h
 simp only[pi,Da,GN.2 ⟨a,b,c,d⟩,iy,cG (n:=q.dg-q.gO) oaa,sq,au]
 cases hn:inR n 0 (q.dg-q.gO)
 .simp_all
 rw[cJ] at hn
 simp only[cG (n:=q.gO+n) oaa,au];simp_all
theorem P9(h:QOK q)(n:Int):∃b,oZ q n=ς (sq q n,b):=by
 obtain⟨a,b,c,d⟩:=h
 simp only[oZ,C9,GN.2 ⟨a,b,c,d⟩,jp,cG (n:=q.dg-q.gO) oaa,sq,au]
 cases hn:inR n 0 (q.dg-q.gO)
 .simp_all
 rw[cJ] at hn
 simp only[cG (n:=q.gO+n) oaa,au];simp_all
theorem G1(p:ab->Bool):∀xs:List ab,jx xs=jx (xs.filter p)+jx (xs.filter λx=>!p x)
 |[]=>rfl
 |x::xs=>by
  have ih:=G1 p xs
  have e:∀ys,jx (x::ys)=x.bk.length+jx ys:=λys=>by simp[jx]
  grind
theorem IW(n:Int):∀(xs:List ab) (s:Int),(∀x∈xs,x.bk.length<=60)->0<=s->s+60*xs.length<=9000000000->
 xs.foldl (λa x=>bif ltB x.cP n then WR (a+(x.bk.length:Int)) else a) s=s+jx (xs.filter λx=>ltB x.cP n)
 |[],s,_,_,_=>by simp[jx]
 |x::xs,s,h,h0,h1=>by
  have hx:=h x (by simp)
  simp only[aaq] at h1
  rw[ack,acD]
  cases ltB x.cP n
  .simp only[cond_false]
   exact IW n xs s (λy hy=>h y (by simp[hy])) h0 oaa
  simp only[cond_true]
  rw[cG oaa,IW n xs _ (λy hy=>h y (by simp[hy])) oaa oaa]
  simp[jx];omega
theorem Hl(h:WOK w){k:Int}(hk:ltB w.bK k=η):jx w.aJ-jx (mI w k).aJ=jx (w.aJ.filter λx=>ltB x.cP k):=by
 rw[mI,hk,G1 (λx=>leB k x.cP) w.aJ]
 simp only[cond_false]
 have:(λx:ab=>ltB x.cP k)=λx=>!leB k x.cP:=by funext x;rw[vn]
 grind
theorem ack_s(h:SP s)(m:ar):md s m=ς (Lq s m):=by
 obtain⟨b,hb⟩:=Qa h.q (jx s.aY.aJ-jx (mI s.aY m.bW).aJ)
 have hu:=h.win.d
 have hl:=h.win.l
 have hu2:∀x∈(mI s.aY m.bW).aJ,x.bk.length<=60:=λx hx=>by
  rw[mI] at hx;grind
 have hl2:(mI s.aY m.bW).aJ.length<=8:=by
  rw[mI];cases ltB s.aY.bK m.bW
  .grind
  exact hl
 have s1:=AU hu
 have s2:=AU hu2
 have e1:WR (zm s.aY.aJ-zm (mI s.aY m.bW).aJ)=jx s.aY.aJ-jx (mI s.aY m.bW).aJ:=by
  rw[O3 hu oaa,O3 hu2 oaa,cG oaa]
 simp only[md,OI,Ao h.ok,BP h.ok,Z0 h.win,nb_s (show s.aY.aJ.length<=1048576 by omega),nb_s (show(mI s.aY m.bW).aJ.length<=1048576 by omega),ab4,e1,hb,Lq]
 cases vl s m<;>cases ltB s.aY.bK m.bW<;>rfl
theorem WY(h:WOK w)(k:Int):ez (mI w k):=by
 rw[mI];cases ltB w.bK k
 .exact Oj h _
 exact h.ok
theorem ack_i(h:SP s)(m:ar):jl s m=ς (Lq s m):=by
 have hu:=h.win.d
 have hl:=h.win.l
 have hrun:iter (iM s m) FU (0,0)=ς (jx (s.aY.aJ.filter λx=>ltB x.cP m.bW)):=by
  rw[tK s.aY.aJ (λa x=>bif ltB x.cP m.bW then WR (a+(x.bk.length:Int)) else a) oaa (λk x a hx hk=>by
   simp only[iM,cr hk,bm,hx,WRs (k:=k),au]
   grind) (λa=>by simp[iM]),IW m.bW s.aY.aJ 0 hu oaa oaa]
  simp
 obtain⟨b,hb⟩:=P9 h.q (jx (s.aY.aJ.filter λx=>ltB x.cP m.bW))
 simp only[jl,NC,xM h.ok,hrun,hb,ZZ h.win,ab4,Lq,vl]
 cases eqB s.bV 1<;>cases eqB m.ak s.ak<;>cases vH s.bj m<;>try rfl
 cases hk:ltB s.aY.bK m.bW
 .have ho:cV (nQ s m.bW):=⟨h.ok.1,h.ok.2.1,WY h.win _⟩
  have:=xM ho
  rw[nQ,Hl h.win hk] at this
  simp only[acd,Bool.or_false,nQ,Hl h.win hk,this,au]
 rfl
theorem up_s(h:SP s)(m:ar):om s m=ς (sUp s m):=by
 simp only[om,Pd,Ao h.ok,att_s h,resp_s h,Ys h,ack_s h,ab4,sUp]
 grind
theorem up_i(h:SP s)(m:ar):km s m=ς (sUp s m):=by
 simp only[km,Pc,xM h.ok,att_i h,resp_i h,Yr h,ack_i h,ab4,sUp]
 grind
@[simp] theorem sumR_cons (x:aA) (d:List aA):zG (x::d)=x.dX+zG d:=by simp[zG]
structure MOK(a:an)(q:cU):Prop where
 acc:NK a
 quo:QOK q
 res:BJ a q.bi=q.dg
theorem QG:zH a q=ζ↔MOK a q:=by
 simp only[zH,v0,WX,GN,eqB_t]
 exact⟨λ⟨x,y,z⟩=>⟨x,y,z⟩,λ⟨x,y,z⟩=>⟨x,y,z⟩⟩
structure SG(s:ag)(a:an):Prop where
 sp:SP s
 b1:∀p∈s.aX,okB p.bk
 b2:∀x∈s.aY.aJ,okB x.bk
 mo:MOK a s.dq
structure POK(p:cT):Prop where
 a:0<=p.kF/\p.kF<=4
 w:0<=p.mH/\p.mH<=3
structure RP(r:aj):Prop where
 ok:df r
 v:oB r=ζ
 b1:∀x∈r.am,okB x.bk
 b2:∀p∈r.aD,okB p.bk
structure DP(d:av):Prop where
 card:vr d.dJ=ζ
 st:0<=d.bV/\d.bV<=3
 ce:0<=d.bJ/\d.bJ<=5
 gn:0<=d.ak/\d.ak<=999999
 ep:0<=d.aU/\d.aU<=999999
 rk:0<=d.bj/\d.bj<=2147483646
 k:2<=d.bV->tu d.bj=ζ
 wt:0<=d.mH/\d.mH<=3
 rc:RP d.bY
theorem DP.ok{d:av}(h:DP d):dt d:=h.rc.ok
theorem DP.of{d:av}(h:qB d=ζ)(ok:dt d)(b1:∀x∈d.bY.am,okB x.bk)(b2:∀p∈d.bY.aD,okB p.bk):DP d:=by
 simp only[qB,v0,cJ] at h
 obtain⟨h1,h2,h3,h4,h5,h6,h7,h8,h9⟩:=h
 refine⟨h1,h2,h3,h4,h5,h6,λe=>?_,h8,⟨ok,h9,b1,b2⟩⟩
 rw[cJ.2 ⟨e,h2.2⟩] at h7;simp_all
theorem N9{d:av}(h:DP d):DP (yO d).bC:={h with wt:=⟨by simp[yO],by simp[yO]⟩}
theorem PQ{k r q:Int}(h0:0<=q)(h1:q<=999999):1<=(vec k r q).fg/\(vec k r q).fg<=2147483646:=by
 rw[vec,cJ.2 ⟨h0,h1⟩];exact X4 _ _
theorem xJ{m:ar}(h:nO m=ζ):(1<=m.d9/\m.d9<=8)/\(0<=m.bJ/\m.bJ<=5)/\(0<=m.ak/\m.ak<=999999)/\(0<=m.aU/\m.aU<=999999)/\0<=m.bW/\m.bW<=1000000000000:=by
 simp only[nO,v0,cJ] at h;exact h
theorem Xa{d:av}(h:DP d){m:ar}(hm:nO m=ζ)(h1:d.bV=1):DP (JK d m).bC:=by
 obtain⟨_,_,hg,_⟩:=xJ hm
 have hu:=NA d.dJ.fg m.cy.dT m.cy.fK
 have hk:=PQ (k:=d.dJ.fg) (r:=m.cy.dT) hu.1 hu.2
 rw[JK]
 cases eqB (xg d.dJ.fg d.dJ.dE m.cy) 0
 .exact h
 refine {h with card:=?_,gn:=hg,rk:=⟨by grind,by simp_all⟩,k:=λe=>by simp_all}
 have hc:=h.card
 simp only[vr,v0] at hc ⊢
 exact⟨hc.1,hc.2.1,cJ.2 hu⟩
theorem Xc{d:av}(h:DP d)(m:ar):DP (A7 d m).bC:=by
 have he:=h.ep
 rw[A7]
 cases h1:!nO m||(!eqB m.bJ d.bJ||eqB d.bV 0)
 .have hm:nO m=true:=by revert h1;cases nO m<;>simp
  obtain⟨_,_,hg,hep,_⟩:=xJ hm
  simp only[cond_false]
  cases h2:eqB m.d9 2&&eqB d.bV 1
  .simp only[cond_false]
   cases h4:eqB m.d9 4&&(eqB d.bV 1&&(tu d.bj&&(eqB m.ak d.ak&&vH d.bj m)))
   .simp only[cond_false]
    cases h6:eqB m.d9 6&&(eqB d.bV 2&&(eqB m.ak d.ak&&(eqB m.aU d.aU&&vH d.bj m)))
    .simp only[cond_false]
     cases h7:eqB m.d9 7&&(eqB d.bV 3&&ltB d.aU 999999)
     .simp only[cond_false]
      cases h8:eqB m.d9 7&&eqB d.bV 2
      .exact h
      exact N9 h
     simp only[v0] at h7
     have h3:=DG h7.2.1
     have:=XS h7.2.2
     exact N9 {h with st:=⟨by simp,by simp⟩,ep:=⟨by grind,by grind⟩,k:=λ_=>h.k (by omega)}
    exact {h with}
   simp only[v0] at h4
   exact {h with st:=⟨by simp,by simp⟩,ep:=hep,k:=λ_=>h4.2.2.1}
  rw[v0] at h2
  exact Xa h hm (DG h2.2)
 exact h
theorem Dz:∀(xs:List ab) (n:Int) (dl:List aC),∃t d,xs=t++d/\qP xs n dl=⟨n+t.length,d,dl++t.map λx=>⟨x.bk⟩⟩/\(∀(k:Nat) (x:ab),t[k]?=ς x->x.cP=n+k)/\((∃y ys,d=y::ys/\(y.cP≠n+t.length\/24<=dl.length+t.length))\/d=[])/\(t≠[]->dl.length+t.length<=24)
 |[],n,dl=>⟨[],[],rfl,by simp[qP],by simp,.inr rfl,by simp⟩
 |x::xs,n,dl=>by
  rw[qP]
  by_cases h:x.cP=n/\dl.length<24
  .rw[if_pos h]
   obtain⟨t,d,e1,e2,e3,e4,e5⟩:=Dz xs (n+1) (dl++[⟨x.bk⟩])
   refine⟨x::t,d,by rw[e1];rfl,?_,λk y hy=>?_,?_,λ_=>?_⟩
   .rw[e2];simp;omega
   .cases k with
    |zero=>simp_all
    |succ k=>grind
   .grind
   simp only[aaq]
   by_cases ht:t=[]
   .grind
   grind
  rw[if_neg h]
  refine⟨[],x::xs,rfl,by simp,by simp,.inl ⟨x,xs,rfl,?_⟩,by simp⟩
  grind
structure RcV(r:aj):Prop where
 n:r.bK=(r.aD.length:Int)+1
 l:r.aD.length<=24
 d:∀p∈r.aD,p.bk.length<=60
 pl:r.am.length<=8
 pr:∀x∈r.am,r.bK+1<=x.cP/\x.cP<=r.bK+7/\x.bk.length<=60
 po:r.am.Pairwise λx y=>x.cP<y.cP
theorem Vk:oB r=ζ↔RcV r:=by
 constructor
 .intro h
  have hl:=qG h
  simp only[oB,v0,CL,aai,sv,fZ] at h
  obtain⟨h1,h2,h3,h4,h5⟩:=h
  have hp:∀(k:Nat) (x:ab),r.am[k]?=ς x->(r.bK+1<=x.cP/\x.cP<=r.bK+7)/\iI ab.cP r.am k x=ζ/\x.bk.length<=60:=λk x hx=>by
   have:=h5 k x hx
   simp only[As,v0,cJ,sv] at this
   rw[cG (n:=r.bK+1) oaa,cG (n:=r.bK+8) oaa,cG (n:=r.bK+8-1) oaa] at this
   grind
  refine⟨hl.1,hl.2.1,h3,hl.2.2,λx hx=>?_,F8 λk x hx=>(hp k x hx).2.1⟩
  obtain⟨k,hk⟩:=aau hx
  grind
 rintro⟨h1,h2,h3,h4,h5,h6⟩
 simp only[oB,v0,CL,aai,sv,fZ]
 refine⟨eqB_t.2 (by rw[cG oaa];exact h1),leB_t.2 oaa,h3,leB_t.2 oaa,λk x hx=>?_⟩
 have:=h5 x (aac hx)
 simp only[As,v0,cJ,sv]
 rw[cG (n:=r.bK+1) oaa,cG (n:=r.bK+8) oaa,cG (n:=r.bK+8-1) oaa]
 exact⟨by omega,Pf h6 hx,this.2.2⟩
theorem NU{α:Type}{key:α->Int}:∀{xs:List α} {a b:Int},(xs.Pairwise λx y=>key x<key y)->(∀x∈xs,a<=key x/\key x<=b)->(xs.length:Int)<=max 0 (b-a+1)
 |[],a,b,_,_=>by simp;omega
 |x::xs,a,b,h,hr=>by
  have hx:=hr x (by simp)
  have ih:=NU (xs:=xs) (a:=key x+1) (b:=b) (acb.1 h).2 λy hy=>⟨by have:=(acb.1 h).1 y hy;omega,(hr y (by simp[hy])).2⟩
  grind
theorem Ze{x:ab}:∀{xs:List ab},(xs.Pairwise λa b=>a.cP<b.cP)->∀y∈xs.dropWhile (before x.cP),x.cP<=y.cP
 |[],_,y,hy=>by simp at hy
 |z::xs,h,y,hy=>by
  rw[acy] at hy
  cases hb:before x.cP z<;>rw[hb] at hy
  .have hz:=Mz hb
   rcases aah.1 hy with e|hy
   .simp_all
   have:=(acb.1 h).1 y hy;omega
  exact Ze (acb.1 h).2 y hy
theorem V1{α:Type}(p:α->Bool):∀(xs:List α) (y:α),y∈xs.takeWhile p->p y=ζ
 |[],y,h=>by simp at h
 |x::xs,y,h=>by
  rw[acf] at h
  cases hp:p x<;>rw[hp] at h
  .simp at h
  rcases aah.1 h with e|h
  .simp_all
  exact V1 p xs y h
theorem tw_lt{q:Int}{xs:List ab}:∀y∈xs.takeWhile (before q),y.cP<q:=λy hy=>XS (show ltB y.cP q=ζ from V1 (before q) xs y hy)
theorem T6{xs:List ab}(h:xs.Pairwise λa b=>a.cP<b.cP)(hn:∀y∈xs,y.cP≠x.cP):(qk x xs).Pairwise λa b=>a.cP<b.cP:=by
 have e:=aci (p:=before x.cP) (l:=xs)
 rw[<-e,acj] at h
 obtain⟨h1,h2,h3⟩:=h
 rw[qk,acm,acj]
 refine⟨h1,acb.2 ⟨λy hy=>?_,h2⟩,λa ha b hb=>?_⟩
 .have hm:y∈xs:=acp _ hy
  have:=hn y hm
  have hge:x.cP<=y.cP:=by
   have hs:xs.Pairwise λa b=>a.cP<b.cP:=by rw[<-e,acj];exact⟨h1,h2,h3⟩
   exact Ze hs y hy
  omega
 rcases aaf.1 hb with hb|hb
 .simp at hb;subst hb;exact tw_lt a ha
 simp_all
theorem D7{y:ab}{xs:List ab}:y∈qk x xs↔y=x\/y∈xs:=by
 rw[qk]
 constructor
 .intro h
  simp only[aaf,abl] at h
  rcases h with(h|h)|h
  .exact .inr (acx _ h)
  .exact .inl h
  exact .inr (acp _ h)
 rintro(h|h)
 .simp[h]
 rw[<-aci (p:=before x.cP) (l:=xs)] at h
 grind
theorem Nu(h:RcV r)(hl:yg r x=η):
 ∃t d,qk x r.am=t++d/\(∀(k:Nat) (y:ab),t[k]?=ς y->y.cP=r.bK+k)/\(pF r x).bK=r.bK+t.length/\(pF r x).aD=r.aD++t.map (λy=>⟨y.bk⟩)/\RcV (pF r x)/\
  ((pF r x).am=d\/(pF r x).am=[])/\r.aD.length+t.length<=24/\(x.cP=r.bK->t≠[]):=by
 obtain⟨t,d,e1,e2,e3,e4,e5⟩:=Dz (qk x r.am) r.bK r.aD
 have hl2:=hl
 simp only[yg,aax,acg] at hl
 obtain⟨l1,l2,l3,l4,l5⟩:=hl
 have l2:=Mz l2
 rw[cJ] at l3
 have l5:=H2 l5
 have hn:∀y∈r.am,y.cP≠x.cP:=λy hy=>by
  simp_all
 have hasc:=T6 h.po hn
 have hrng:∀y∈qk x r.am,r.bK<=y.cP/\y.cP<=r.bK+7/\y.bk.length<=60:=λy hy=>by
  rcases D7.1 hy with rfl|hy
  .omega
  have:=h.pr y hy;omega
 have hlen:=NU (key:=ab.cP) hasc (a:=r.bK) (b:=r.bK+7) λy hy=>⟨(hrng y hy).1,(hrng y hy).2.1⟩
 have htl:r.aD.length+t.length<=24:=by
  by_cases ht:t=[]
  .grind
  exact e5 ht
 have hd:∀y∈d,r.bK+t.length<=y.cP:=λy hy=>by
  by_cases ht:t=[]
  .simp_all
  obtain⟨k,hk⟩:∃k,t.length=k+1:=⟨t.length-1,by have:=List.length_pos_iff.2 ht;omega⟩
  grind
 have hdl:(r.aD++t.map λy=>(⟨y.bk⟩:aC)).length=r.aD.length+t.length:=by simp
 have hdata:∀p∈r.aD++t.map λy=>(⟨y.bk⟩:aC),p.bk.length<=60:=λp hp=>by
  rcases aaf.1 hp with hp|hp
  .exact h.d p hp
  obtain⟨y,hy,rfl⟩:=aa1.1 hp
  simp_all
 have hnx:=h.n
 have hsome:x.cP=r.bK->t≠[]:=λe ht=>by
  subst ht
  simp only[aa3] at e1
  rcases e4 with⟨y,ys,e,h4⟩|e
  .simp only[List.length_nil] at h4
   have hy:y.cP<=x.cP:=by
    have hx:x∈d:=by rw[<-e1];exact D7.2 (.inl rfl)
    rw[e] at hx
    rcases aah.1 hx with e'|hx
    .simp_all
    rw[e1,e] at hasc
    have:=(acb.1 hasc).1 x hx
    omega
   grind
  have:(qk x r.am).length=0:=by rw[e1,e];rfl
  rw[wa] at this;omega
 refine⟨t,d,e1,e3,?_⟩
 rw[pF,hl2]
 simp only[cond_false,e2,hdl]
 cases h24:leB 24 ((r.aD.length+t.length:Nat):Int)
 .have h24:=H2 h24
  simp only[cond_false]
  refine⟨θ,θ,⟨by grind,by simp_all,hdata,?_,λy hy=>?_,?_⟩,.inl trivial,htl,hsome⟩
  .grind
  .have h1:=hrng y (by simp_all)
   have h2:=hd y hy
   refine⟨?_,by grind,h1.2.2⟩
   simp only
   rcases e4 with⟨z,zs,e,h4⟩|e
   .have hz:=hd z (by rw[e];simp)
    have hzn:z.cP≠r.bK+t.length:=by rcases h4 with h4|h4;exact h4;omega
    rw[e] at hy
    rcases aah.1 hy with e'|hy'
    .grind
    rw[e1,e,acj] at hasc
    have:=(acb.1 hasc.2.1).1 y hy'
    omega
   simp_all
  grind
 have h24:=Bo h24
 simp only[cond_true]
 exact⟨θ,θ,⟨by grind,by simp_all,hdata,by simp,by simp,.nil⟩,.inr trivial,htl,hsome⟩
theorem VN(h:RP r)(hx:okB x.bk):RP (pF r x):=by
 cases hl:yg r x
 .have hv:=Vk.1 h.v
  obtain⟨t,d,e1,e3,e4,e5,e6,e7,e8,e9⟩:=Nu hv hl
  have hb:∀y∈t++d,okB y.bk:=λy hy=>by
   rw[<-e1] at hy
   rcases D7.1 hy with rfl|hy
   .exact hx
   exact h.b1 y hy
  refine⟨LA h.ok x,Vk.2 e6,λy hy=>?_,λp hp=>?_⟩
  .grind
  rw[e5] at hp
  rcases aaf.1 hp with hp|hp
  .exact h.b2 p hp
  grind
 rw[pF,hl];exact h
theorem UK(root g e:Int)(x:aT):okB (wE root g e x).1.bk:=by
 rw[wE];split
 .exact Xd _ _
 intro y hy;simp[bg] at hy
theorem Xb{d:av}(h:DP d)(x:aT):DP (A6 d x).bC:=by
 simp only[A6]
 cases eqB d.bV 2&&(wE d.bj d.ak d.aU x).2
 .exact h
 exact {h with rc:=VN h.rc (UK _ _ _ _)}
theorem ZU:pu d8=true:=by decide+kernel
theorem Gn{k:Int}:∀{xs:List ab} {f:Int},(∀(i:Nat) (x:ab),xs[i]?=ς x->x.cP=f+i)->(xs.filter λx=>leB k x.cP)=xs.drop (k-f).toNat
 |[],f,_=>by simp
 |x::xs,f,h=>by
  have hx:x.cP=f:=by have:=h 0 x rfl;simpa using this
  have ih:=Gn (k:=k) (xs:=xs) (f:=f+1) λi y hy=>by have:=h (i+1) y (by simp_all);omega
  rw[acD,hx]
  by_cases hk:k<=f
  .rw[leB_t.2 hk,if_pos rfl,ih,show(k-f).toNat=0 by omega,show(k-(f+1)).toNat=0 by omega];rfl
  rw[leB_f.2 oaa,if_neg (by simp),ih,show(k-f).toNat=(k-(f+1)).toNat+1 by omega];rfl
theorem P3(h:WOK w){k:Int}(hk:ltB w.bK k=η):mI w k=⟨w.bK,w.aJ.drop (k-(w.bK-w.aJ.length)).toNat⟩:=by
 rw[mI,hk,Gn (f:=w.bK-w.aJ.length) λi x hx=>(h.u i x hx).1];rfl
theorem Jn(h:WOK w)(k:Int):WOK (mI w k):=by
 cases hk:ltB w.bK k
 .have hl:=h.l
  have hf:=h.f
  have hn:=h.n
  rw[P3 h hk]
  generalize (k-(w.bK-w.aJ.length)).toNat=m
  refine⟨hn,by simp;omega,by simp;omega,λi x hx=>?_⟩
  simp only at hx ⊢
  rw[List.getElem?_drop] at hx
  have hi:=(aaa.1 hx).1
  have:=h.u _ x hx
  grind
 rw[mI,hk];exact h
theorem Dk(w:aF)(k:Int):∀x∈(mI w k).aJ,x∈w.aJ:=λx hx=>by
 rw[mI] at hx;grind
theorem SC(h:WOK w)(k:Int):0<=jx (mI w k).aJ/\jx (mI w k).aJ<=jx w.aJ:=by
 have h1:=AU λx hx=>h.d x (Dk w k x hx)
 refine⟨h1.1,?_⟩
 cases hk:ltB w.bK k
 .have:=Hl h hk
  have h2:=AU (xs:=w.aJ.filter λx=>ltB x.cP k) λx hx=>h.d x (aco.1 hx).1
  omega
 rw[mI,hk];simp_all
theorem Mf{n:Int}(h:0<=n/\n<=q.dg-q.gO):sq q n={q with gO:=q.gO+n}:=by rw[sq,cJ.2 h];rfl
theorem Rn(h:SG s a)(k:Int):SG (nQ s k) a/\(nQ s k).dq={s.dq with gO:=s.dq.gO+(jx s.aY.aJ-jx (mI s.aY k).aJ)}:=by
 have hs:=SC h.sp.win k
 have hp:=h.sp.pd
 have hq:=h.sp.q
 have e:(nQ s k).dq={s.dq with gO:=s.dq.gO+(jx s.aY.aJ-jx (mI s.aY k).aJ)}:=Mf ⟨by omega,by omega⟩
 have hu:=hq.u
 have hg:=hq.g
 have hq':QOK (nQ s k).dq:=by rw[e];exact⟨hq.i,by grind,by grind,hq.m⟩
 refine⟨⟨{h.sp with ok:=⟨h.sp.ok.1,h.sp.ok.2.1,(Jn h.sp.win k).ok⟩,win:=Jn h.sp.win k,q:=hq',qu:=⟨by simp[nQ],by simp[nQ]⟩,nx:=?_,un:=λx hx=>h.sp.un x (Dk _ _ x hx),pd:=?_},h.b1,λx hx=>h.b2 x (Dk _ _ x hx),⟨h.mo.acc,hq',?_⟩⟩,e⟩
 .have:(nQ s k).aY.bK=s.aY.bK:=by simp only[nQ,mI];cases ltB s.aY.bK k<;>rfl
  rw[this];exact h.sp.nx
 .rw[e];simp only[nQ];omega
 rw[e];exact h.mo.res
theorem YB(h:SG s a)(m:ar):SG (Lr s m).ck a:=by
 have hr:=IA h.sp.rcd
 simp only[Lr]
 cases he:eqB s.bF.cP 999999
 .have he:=eqBf he
  have hk:=PQ (k:=s.bF.fg) (r:=Md s.bF.ID (s.bF.cP+1)) (q:=s.bF.cP+1) oaa oaa
  refine⟨{h.sp with rcd:=?_,k2:=λ_=>?_,ps:=⟨by grind,by grind⟩},h.b1,h.b2,h.mo⟩
  .have hc:=h.sp.rcd
   simp only[BR,v0] at hc
   simp only[cond_false,BR,v0]
   exact⟨hc.1,hc.2.1,cJ.2 oaa⟩
  exact cJ.2 hk
 exact h
theorem YA(h:SG s a){c:Int}(hc:0<=c/\c<=5)(hp:0<s.bw)(he:s.aU<999999):SG (wT s c) a:=by
 have hk:=h.sp.k2 hp
 have hkr:=cJ.1 hk
 have hep:=h.sp.ep
 exact⟨{h.sp with page:=ZU,st:=⟨by simp[wT],by simp[wT]⟩,k1:=λ_=>hk,k2:=λe=>by simp[wT] at e,ps:=⟨by simp[wT],by simp[wT]⟩,gn:=h.sp.ps,ep:=⟨by simp only[wT];omega,by simp only[wT];omega⟩,rk:=⟨by simp only[wT];omega,by simp only[wT];omega⟩,ce:=hc,qu:=⟨by simp[wT],by simp[wT]⟩},h.b1,h.b2,h.mo⟩
theorem Vs(h:SG s a){m:ar}(hm:nO m=ζ):SG (B9 s m).ck a:=by
 obtain⟨_,hc,_⟩:=xJ hm
 rw[B9]
 cases hb:leB s.bw 0||(!eqB m.ak s.bw||(!eqB m.bW s.am.A2||leB 999999 s.aU))
 .simp only[aax] at hb
  exact YA h hc (H2 hb.1) (H2 hb.2.2.2)
 exact h
theorem Vq(h:SG s a){m:ar}(hm:nO m=ζ):SG (B8 s m).ck a:=by
 obtain⟨_,hc,_,he,_⟩:=xJ hm
 rw[B8]
 cases !vl s m||(ltB m.aU s.aU||(eqB m.aU s.aU&&!eqB m.bJ s.bJ))
 .exact⟨{h.sp with page:=ZU,ep:=he,ce:=hc,qu:=⟨by simp[u6],by simp[u6]⟩,rt:=⟨by simp[u6],by simp[u6]⟩},h.b1,h.b2,h.mo⟩
 exact h
theorem Yz(h:SG s a)(m:ar):SG (Lq s m).ck a:=by
 rw[Lq]
 cases !vl s m||ltB s.aY.bK m.bW
 .exact(Rn h m.bW).1
 exact h
theorem sUp_SG(h:SG s a)(m:ar):SG (sUp s m).ck a:=by
 rw[sUp]
 cases hm:nO m
 .exact h
 cases eqB m.d9 1
 .cases eqB m.d9 3
  .cases eqB m.d9 5
   .cases eqB m.d9 8
    .exact h
    exact Yz h m
   exact Vq h hm
  exact Vs h hm
 exact YB h m
structure FP(nd nc:Nat)(f:aH):Prop where
 d:0<=f.bC/\f.bC<nd
 c:0<=f.bJ/\f.bJ<nc
 b:okB f.cY.a9.bk
 ok:eP f
structure MP(nc:Nat)(i:Nat)(d:av)(s:ag)(a:an):Prop where
 dp:DP d
 dc:d.bJ<nc
 sg:SG s a
 sc:s.bJ<nc
 si:s.dq.bi=i
 ids:Qq d s=ζ
structure NP(B:Int)(n:ae):Prop where
 map:F1 n.gr=ζ
 mok:gW n.gr
 core:Ca n.kG=ζ
 up:n.kG.iK≠0
 ld:n.aO.length<=4
 ls:n.a8.length=n.aO.length
 la:n.bU.length=n.aO.length
 m:∀(i:Nat) d s a,n.aO[i]?=ς d->n.a8[i]?=ς s->n.bU[i]?=ς a->MP n.gr.bD.length i d s a
 fl:n.ax.length<=200
 fs:∀f∈n.ax,FP n.aO.length n.gr.bD.length f
 dn:inR n.dy 0 (WR ((Jz .i64 1 (n.gr.bD.length:Int))-1))=ζ
 nw:0<=n.Fr/\n.Fr<=100000
 lo:B=B
theorem OY(h:F1 m=ζ):1<=m.bD.length/\m.bD.length<=6:=by
 simp only[F1,v0,cJ] at h;omega
theorem NP.at_(h:NP B n)(hi:i<n.aO.length):∃d s a,n.aO[i]?=ς d/\n.a8[i]?=ς s/\n.bU[i]?=ς a/\MP n.gr.bD.length i d s a:=by
 have h1:=h.ls
 have h2:=h.la
 obtain⟨d,hd⟩:∃d,n.aO[i]?=ς d:=⟨_,aab hi⟩
 obtain⟨s,hs⟩:∃s,n.a8[i]?=ς s:=⟨_,aab (show i<n.a8.length by omega)⟩
 obtain⟨a,ha⟩:∃a,n.bU[i]?=ς a:=⟨_,aab (show i<n.bU.length by omega)⟩
 exact⟨d,s,a,hd,hs,ha,h.m i d s a hd hs ha⟩
theorem NP.mono{B':Int}(h:NP B n)(hb:B<=B'):NP B' n:={h with lo:=rfl}
def g9(n:ae)(f:aH):ae:=bif leB 200 (n.ax.length:Int) then {n with lb:=WR (n.lb+1)} else {n with ax:=n.ax++[f]}
theorem Yo(hf:eP f):t8 n f=ς (g9 n f):=by
 simp only[t8,JR hf,ab4,g9]
 cases hb:leB 200 (n.ax.length:Int)
 .have:=H2 hb
  rw[de oaa (by simp;omega)];rfl
 rfl
theorem O6(hf:eP f):yy n f=ς (g9 n f):=by
 simp only[yy,Gs hf,ab4,g9]
 cases hb:leB 200 (n.ax.length:Int)
 .have:=H2 hb
  rw[de oaa (by simp;omega)];rfl
 rfl
theorem MM(h:NP B n)(hf:FP n.aO.length n.gr.bD.length f)(hB:B<4611686018427387904):NP (B+1) (g9 n f):=by
 have hl:=h.lo
 rw[g9]
 cases hb:leB 200 (n.ax.length:Int)
 .have hb:=H2 hb
  refine {h.mono (show B<=B+1 by omega) with fl:=by simp;omega,fs:=λg hg=>?_}
  rcases aaf.1 hg with hg|hg
  .exact h.fs g hg
  simp_all
 exact {h.mono (show B<=B+1 by omega) with lo:=rfl}
theorem Io(n:ae)(f:aH):(g9 n f).aO=n.aO/\(g9 n f).a8=n.a8/\(g9 n f).bU=n.bU/\(g9 n f).gr=n.gr/\(g9 n f).dy=n.dy/\(g9 n f).kG=n.kG/\(g9 n f).Fr=n.Fr:=by
 rw[g9];grind
def AG(n:ae)(l:List aH):ae:=l.foldl g9 n
theorem EU:∀(l:List aH) {B:Int} {n:ae},NP B n->(∀f∈l,FP n.aO.length n.gr.bD.length f)->B+l.length<4611686018427387904->NP (B+l.length) (AG n l)
 |[],B,n,h,_,_=>by simpa [AG] using h
 |f::l,B,n,h,hf,hB=>by
  simp only[aaq] at hB ⊢
  have h1:=MM h (hf f (by simp)) oaa
  have hk:=Io n f
  have:=EU l h1 (λg hg=>by simp_all) oaa
  rw[show B+((l.length+1:Nat):Int)=B+1+(l.length:Int) by omega]
  exact this
theorem xq(g:ae->aH->Option ae){α:Type}(mk:α->aH)(hg:∀n x,g n (mk x)=ς (g9 n (mk x))):∀(l:List α) (n:ae),lu (λ(n:ae) x=>abX (g n (mk x)) λr=>ς (bN.next (ρ:=ae) r)) ς l n=ς (AG n (l.map mk))
 |[],n=>rfl
 |x::l,n=>by rw[lu,hg];exact xq g mk hg l _
def tq(i:Int)(up:Bool)(m:ar):aH:=⟨i,up,η,m.bJ,m,jH⟩
theorem Y1:ga jH:=⟨by decide,λ_ _=>trivial⟩
theorem De(i:Int)(up:Bool)(m:ar):eP (tq i up m):=Y1
theorem VI(n:ae)(i:Int)(up:Bool){l:List ar}(hl:l.length<=1048576):mF n i up l=ς (AG n (l.map (tq i up))):=by
 have:=eE (step:=kA i up l) l (λk n=>((k:Int),n)) (λn x=>abX (t8 n (tq i up x)) λr=>ς (.next r)) ς oaa
  (λk x n hx hk=>by
   simp only[kA,cr hk,bm,hx,WRs (k:=k),tq,au]
   simp_all) (λn=>by simp[kA]) n
 rw[xq t8 (tq i up) (λn x=>Yo (De i up x))] at this
 rw[mF,show iter (kA i up l) FU (0,n)=_ from this];rfl
theorem Z9(n:ae)(i:Int){l:List ar}(hl:l.length<=1048576):jE n i l=ς (AG n (l.map (tq i η))):=by
 have:=eE (step:=iz i l) l (λk n=>((k:Int),n)) (λn x=>abX (yy n (tq i η x)) λr=>ς (.next r)) ς oaa
  (λk x n hx hk=>by
   simp only[iz,cr hk,bm,hx,WRs (k:=k),au]
   rw[show({iF with bC:=i,bJ:=x.bJ,bS:=x}:aH)=tq i η x from rfl]
   simp_all) (λn=>by simp[iz]) n
 rw[xq yy (tq i η) (λn x=>O6 (De i η x))] at this
 rw[jE,show iter (iz i l) FU (0,n)=_ from this];rfl
def tl(n:ae)(i:Nat)(r:aK):ae:=AG {n with aO:=n.aO.set i r.bC} (r.dQ.map (tq i ζ))
theorem K6(hi:i<n.aO.length){r:aK}(hr:r.dQ.length<=1048576):mt n (i:Int) r=ς (tl n i r):=by
 simp only[mt,bm,aab hi,ab4,ab8,VI _ _ _ hr,tl]
theorem K5(hi:i<n.aO.length){r:aK}(hr:r.dQ.length<=1048576):gE n (i:Int) r=ς (tl n i r):=by
 have:=eE (step:=lQ (i:Int) r) r.dQ (λk n=>((k:Int),n)) (λn x=>abX (yy n (tq i ζ x)) λr=>ς (.next r)) ς oaa
  (λk x n hx hk=>by
   simp only[lQ,cr hk,bm,hx,WRs (k:=k),tq,au]
   simp_all) (λn=>by simp[lQ]) {n with aO:=n.aO.set i r.bC}
 rw[xq yy (tq (i:Int) ζ) (λn x=>O6 (De _ ζ x))] at this
 simp only[gE,bm,aab hi,ab4,ab8,tl]
 simp_all
theorem PF{nd nc:Nat}(hi:i<nd){up:Bool}{m:ar}(hm:0<=m.bJ/\m.bJ<nc):FP nd nc (tq i up m):=
 ⟨by simp only[tq];omega,hm,λx hx=>by simp[tq,jH,uc] at hx,De _ _ _⟩
theorem HP{xs:List α}{j:Nat}{x y:α}(h:(xs.set i x)[j]?=ς y):(i=j/\x=y)\/(i≠j/\xs[j]?=ς y):=by
 grind
theorem NP.setM(h:NP B n){d:av}(hm:MP n.gr.bD.length i d s a):
 NP B {n with aO:=n.aO.set i d,a8:=n.a8.set i s,bU:=n.bU.set i a}:=by
 have h1:=h.ls
 have h2:=h.la
 refine {h with ld:=by simpa using h.ld,ls:=by simp_all,la:=by simp_all,m:=λj d' s' a' hd hs ha=>?_,fs:=λf hf=>by rw[List.length_set];exact h.fs f hf}
 rcases HP hd with⟨e1,e2⟩|⟨e1,e2⟩<;>rcases HP hs with⟨e3,e4⟩|⟨e3,e4⟩<;>rcases HP ha with⟨e5,e6⟩|⟨e5,e6⟩<;>first|omega|skip
 .simp_all
 exact h.m j d' s' a' e2 e4 e6
theorem AI{xs:List α}{x:α}(h:xs[i]?=ς x):xs.set i x=xs:=by
 apply ach
 grind
theorem NP.setD(h:NP B n){d:av}(hs:n.a8[i]?=ς s)(ha:n.bU[i]?=ς a)(hm:MP n.gr.bD.length i d s a):NP B {n with aO:=n.aO.set i d}:=by
 have:=h.setM hm
 rwa [AI hs,AI ha] at this
theorem NP.setS(h:NP B n){d:av}(hd:n.aO[i]?=ς d)(ha:n.bU[i]?=ς a)(hm:MP n.gr.bD.length i d s a):NP B {n with a8:=n.a8.set i s}:=by
 have:=h.setM hm
 rwa [AI hd,AI ha] at this
structure DK(c:Int)(d:av)(r:aK):Prop where
 id:r.bC.dJ.ID=d.dJ.ID
 key:r.bC.dJ.fg=d.dJ.fg
 cell:r.bC.bJ=c
 sg:∀m∈r.dQ,m.bJ=c
 len:r.dQ.length<=1
theorem DK.none(d:av):DK d.bJ d ⟨d,[]⟩:=⟨rfl,rfl,rfl,by simp,by simp⟩
theorem W9(d:av):DK d.bJ d (yO d):=⟨rfl,rfl,rfl,by simp[yO,Dx,AJ],by simp[yO]⟩
theorem Ta{d d':av}(h:d'.dJ=d.dJ):DK d'.bJ d (yO d'):=⟨by rw[<-h];rfl,by rw[<-h];rfl,rfl,by simp[yO,Dx,AJ],by simp[yO]⟩
theorem Ht(d:av)(m:ar):DK d.bJ d (A7 d m):=by
 rw[A7]
 cases !nO m||(!eqB m.bJ d.bJ||eqB d.bV 0)
 .simp only[cond_false]
  cases eqB m.d9 2&&eqB d.bV 1
  .simp only[cond_false]
   cases eqB m.d9 4&&(eqB d.bV 1&&(tu d.bj&&(eqB m.ak d.ak&&vH d.bj m)))
   .simp only[cond_false]
    cases eqB m.d9 6&&(eqB d.bV 2&&(eqB m.ak d.ak&&(eqB m.aU d.aU&&vH d.bj m)))
    .simp only[cond_false]
     cases eqB m.d9 7&&(eqB d.bV 3&&ltB d.aU 999999)
     .simp only[cond_false]
      cases eqB m.d9 7&&eqB d.bV 2
      .exact .none d
      exact W9 d
     exact Ta (d:=d) (d':={d with bV:=2,aU:=d.aU+1}) rfl
    exact⟨rfl,rfl,rfl,by simp,by simp⟩
   exact⟨rfl,rfl,rfl,by simp,by simp⟩
  simp only[cond_true,JK]
  cases eqB (xg d.dJ.fg d.dJ.dE m.cy) 0<;>exact⟨rfl,rfl,rfl,by simp,by simp⟩
 exact .none d
theorem Hs(d:av)(x:aT):DK d.bJ d (A6 d x):=by
 simp only[A6]
 cases eqB d.bV 2&&(wE d.bj d.ak d.aU x).2
 .exact .none d
 exact⟨rfl,rfl,rfl,by simp[dAck,AJ],by simp⟩
structure SK(c:Int)(s:ag)(r:aP):Prop where
 id:r.ck.bF.ID=s.bF.ID
 key:r.ck.bF.fg=s.bF.fg
 si:r.ck.dq.bi=s.dq.bi
 cell:r.ck.bJ=s.bJ\/r.ck.bJ=c
 sg:∀m∈r.dQ,m.bJ=c
 len:r.dQ.length<=1
 sub:r.ck.aX=s.aX
theorem SK.none(c:Int)(s:ag):SK c s ⟨s,[]⟩:=⟨rfl,rfl,rfl,.inl rfl,by simp,by simp,rfl⟩
theorem Nk(s:ag)(m:ar):SK m.bJ s (sUp s m):=by
 rw[sUp]
 cases nO m
 .exact .none _ s
 simp only[au]
 cases eqB m.d9 1
 .simp only[cond_false]
  cases eqB m.d9 3
  .simp only[cond_false]
   cases eqB m.d9 5
   .simp only[cond_false]
    cases eqB m.d9 8
    .exact .none _ s
    simp only[cond_true,Lq]
    cases !vl s m||ltB s.aY.bK m.bW
    .refine⟨rfl,rfl,?_,.inl rfl,by simp,by simp,rfl⟩
     simp only[cond_false,nQ,sq]
     grind
    exact .none _ s
   simp only[cond_true,B8]
   cases !vl s m||(ltB m.aU s.aU||(eqB m.aU s.aU&&!eqB m.bJ s.bJ))
   .exact⟨rfl,rfl,rfl,.inr rfl,by simp[Dd,AJ,u6],by simp,rfl⟩
   exact .none _ s
  simp only[cond_true,B9]
  cases leB s.bw 0||(!eqB m.ak s.bw||(!eqB m.bW s.am.A2||leB 999999 s.aU))
  .exact⟨rfl,rfl,rfl,.inr rfl,by simp[Dd,AJ,wT],by simp,rfl⟩
  exact .none _ s
 simp only[cond_true,Lr]
 cases eqB s.bF.cP 999999
 .exact⟨rfl,rfl,rfl,.inl rfl,by simp,by simp,rfl⟩
 exact .none _ s
theorem MP.dev{nc:Nat}{d:av}(h:MP nc i d s a){c:Int}{r:aK}(hk:DK c d r)(hd:DP r.bC)(hc:c<nc):MP nc i r.bC s a:=by
 refine⟨hd,by rw[hk.cell];exact hc,h.sg,h.sc,h.si,?_⟩
 have:=h.ids
 simp only[Qq,hk.id,hk.key] at this ⊢;exact this
theorem MP.ses{nc:Nat}{d:av}(h:MP nc i d s a){c:Int}{r:aP}(hk:SK c s r)(hs:SG r.ck a)(hc:c<nc):MP nc i d r.ck a:=by
 refine⟨h.dp,h.dc,hs,?_,by rw[hk.si];exact h.si,?_⟩
 .rcases hk.cell with e|e<;>rw[e]
  .exact h.sc
  exact hc
 have:=h.ids
 simp only[Qq,hk.id,hk.key] at this ⊢;exact this
theorem GM(h:NP B n){d:av}(hd:n.aO[i]?=ς d){c:Int}{r:aK}(hk:DK c d r)(hr:DP r.bC)(hc:c<n.gr.bD.length)(hB:B+1<4611686018427387904):NP (B+1) (tl n i r):=by
 have hi:=(aaa.1 hd).1
 obtain⟨d',s,a,h1,h2,h3,hm⟩:=h.at_ hi
 rw[hd] at h1;cases h1
 have hn:=h.setD h2 h3 (hm.dev hk hr hc)
 have hl:=hk.len
 have:=EU (r.dQ.map (tq i ζ)) hn (λf hf=>by
  obtain⟨m,hm',rfl⟩:=aa1.1 hf
  rw[show({n with aO:=n.aO.set i r.bC}:ae).aO.length=n.aO.length by simp]
  refine PF hi ?_
  rw[hk.sg m hm',<-hk.cell];exact⟨hr.ce.1,by rw[hk.cell];exact hc⟩) (by simp;omega)
 exact this.mono (by simp;omega)
def Iy(n:ae)(i:Nat)(r:aP):ae:=AG {n with a8:=n.a8.set i r.ck} (r.dQ.map (tq i η))
theorem Ri(h:NP B n)(hs:n.a8[i]?=ς s){c:Int}{r:aP}(hk:SK c s r)(hr:∀a,SG s a->SG r.ck a)(hc:0<=c/\c<n.gr.bD.length)(hB:B+1<4611686018427387904):NP (B+1) (Iy n i r):=by
 have hi:=(aaa.1 hs).1
 have hls:=h.ls
 obtain⟨d,s',a,h1,h2,h3,hm⟩:=h.at_ (show i<n.aO.length by omega)
 rw[hs] at h2;cases h2
 have hn:=h.setS h1 h3 (hm.ses hk (hr a hm.sg) hc.2)
 have hl:=hk.len
 have:=EU (r.dQ.map (tq i η)) hn (λf hf=>by
  obtain⟨m,hm',rfl⟩:=aa1.1 hf
  refine PF (show i<n.aO.length by omega) ?_
  rw[hk.sg m hm'];exact hc) (by simp;omega)
 exact this.mono (by simp;omega)
def oF(n:ae)(k:Nat):ae:={n with ax:=n.ax.take k++n.ax.drop (k+1)}
theorem Hr(h:NP B n)(k:Nat):NP B (oF n k):=by
 have:=h.fl
 refine {h with fl:=by simp[oF];omega,fs:=λf hf=>?_}
 have:f∈n.ax:=by
  simp only[oF,aaf] at hf
  rcases hf with hf|hf
  .grind
  grind
 exact h.fs f this
theorem YS(hl:n.ax.length<=200)(hf:n.ax[k]?=ς f):AS n (k:Int)=ς (f,oF n k):=by
 have hk:=(aaa.1 hf).1
 have a1:fD n.ax 0 (k:Int)=true:=by simp[fD];omega
 have a2:fD n.ax ((k+1:Nat):Int) (n.ax.length:Int)=true:=by simp[fD];omega
 have a3:dH 176 (n.ax.take k).length=true:=de oaa (by simp;omega)
 have a4:dH 176 (n.ax.take k++n.ax.drop (k+1)).length=true:=de oaa (by simp;omega)
 simp only[AS,bm,hf,a1,WRs (k:=k),a2,aa3,ab8,a3,a4,oF,au]
theorem YR(hl:n.ax.length<=200)(hf:n.ax[k]?=ς f):kt n (k:Int)=ς (f,oF n k):=by
 have hk:=(aaa.1 hf).1
 have a0:iG 176 0 (n.ax.length:Int)=true:=by simp only[iG,decide_eq_true_eq];omega
 have a1:fD n.ax 0 (k:Int)=true:=by simp[fD];omega
 have a2:fD n.ax ((k+1:Nat):Int) (n.ax.length:Int)=true:=by simp[fD];omega
 have a3:dH 176 (n.ax.take k).length=true:=de oaa (by simp;omega)
 have a4:dH 176 (n.ax.take k++n.ax.drop (k+1)).length=true:=de oaa (by simp;omega)
 have a5:(aae (0:Int).toNat iF)=[]:=rfl
 simp only[kt,bm,hf,a0,a1,WRs (k:=k),a2,a5,aa3,ab8,a3,a4,oF,au]
def Qv(n:ae)(c:Int):Bool:=jJ n.gr c&&eqB (SN .i64 (W2 .i64 n.dy c) 1) 0
theorem isUp_s(hm:1<=n.gr.bD.length/\n.gr.bD.length<=6)(c:Int):xO n c=ς (Qv n c):=by
 have hmin:X5 (n.gr.bD.length:Int) 6=(n.gr.bD.length:Int):=by unfold X5;split<;>omega
 simp only[xO,min_s,hmin,iy,ab4,cG (n:=(n.gr.bD.length:Int)-1) oaa,Qv]
 rw[show inR c 0 ((n.gr.bD.length:Int)-1)=jJ n.gr c from rfl]
 cases hc:jJ n.gr c
 .rfl
 have:=cJ.1 (show inR c 0 ((n.gr.bD.length:Int)-1)=ζ from hc)
 rw[leB_t.2 this.1];rfl
theorem isUp_i(hm:1<=n.gr.bD.length/\n.gr.bD.length<=6)(c:Int):xt n c=ς (Qv n c):=by
 simp only[xt,Hq (show n.gr.bD.length<=1048576 by omega),ab4,Qv]
 cases hc:jJ n.gr c
 .rfl
 have:=cJ.1 (show inR c 0 ((n.gr.bD.length:Int)-1)=ζ from hc)
 rw[leB_t.2 this.1,ltB_t.2 (show c<6 by omega)];rfl
def Ui(n:ae):ae:={n with lb:=WR (n.lb+1)}
theorem OP(h:NP B n)(hB:B<4611686018427387904):NP (B+1) (Ui n):=by
 have hl:=h.lo
 exact {h.mono (show B<=B+1 by omega) with lo:=rfl}
def rv(n:ae)(k:Nat):ae:=match n.ax[k]? with
 |none=>n
 |some f=>
  let n1:=oF n k
  let i:=f.bC.toNat
  bif !Qv n1 f.bJ then Ui n1 else
  bif f.oE then(bif f.iJ||!eqB f.bS.bJ f.bJ then n1 else match n1.a8[i]? with
   |none=>n1
   |some s=>Iy n1 i (sUp s f.bS))
  else match n1.aO[i]? with
   |none=>n1
   |some d=>bif !eqB d.bJ f.bJ then Ui n1 else tl n1 i (bif f.iJ then A6 d f.cY else A7 d f.bS)
theorem yQ(h:NP B n)(k:Nat)(hB:B+1<4611686018427387904):NP (B+1) (rv n k):=by
 rw[rv]
 cases hf:n.ax[k]? with
 |none=>exact h.mono oaa
 |some f=>
  have hp:=h.fs f (aac hf)
  have h1:=Hr h k
  simp only
  cases Qv (oF n k) f.bJ
  .exact OP h1 oaa
  simp only[au]
  cases f.oE
  .simp only[cond_false]
   cases hd:(oF n k).aO[f.bC.toNat]? with
   |none=>exact h1.mono oaa
   |some d=>
    have hdi:=(aaa.1 hd).1
    obtain⟨d',s,a,e1,e2,e3,hm⟩:=h1.at_ hdi
    rw[hd] at e1;cases e1
    simp only
    cases eqB d.bJ f.bJ
    .exact OP h1 oaa
    simp only[au]
    cases f.iJ
    .exact GM h1 hd (Ht d f.bS) (Xc hm.dp _) hm.dc hB
    exact GM h1 hd (Hs d f.cY) (Xb hm.dp _) hm.dc hB
  simp only[cond_true]
  cases he:f.iJ||!eqB f.bS.bJ f.bJ
  .simp only[cond_false]
   simp only[aax,acg] at he
   have he:=DG he.2
   cases hs:(oF n k).a8[f.bC.toNat]? with
   |none=>exact h1.mono oaa
   |some s=>exact Ri h1 hs (Nk s f.bS) (λa ha=>sUp_SG ha _) (by rw[he];exact hp.c) hB
  exact h1.mono oaa
theorem Te(i:Int)(h:0<=i):i=(i.toNat:Int):=by omega
theorem Qc(h:NP B n)(hk:k<n.ax.length):sY n (k:Int)=ς (rv n k):=by
 obtain⟨f,hf⟩:∃f,n.ax[k]?=ς f:=⟨_,aab hk⟩
 have hp:=h.fs f (aac hf)
 have h1:=Hr h k
 have hls:=h1.ls
 have hdd:=hp.d
 obtain⟨d,s,a,e1,e2,e3,hm⟩:=h1.at_ (show f.bC.toNat<(oF n k).aO.length by simp only[oF];omega)
 have hdev:=Te f.bC hdd.1
 have hix:ix (oF n k).a8 f.bC=ς s:=by rw[hdev,bm];exact e2
 have hixd:ix (oF n k).aO f.bC=ς d:=by rw[hdev,bm];exact e1
 have hdl:=(aaa.1 e1).1
 have hp1:mt (oF n k) f.bC (A6 d f.cY)=ς (tl (oF n k) f.bC.toNat (A6 d f.cY)):=by
  rw[hdev];exact K6 oaa (by have:=(Hs d f.cY).len;omega)
 have hp2:mt (oF n k) f.bC (A7 d f.bS)=ς (tl (oF n k) f.bC.toNat (A7 d f.bS)):=by
  rw[hdev];exact K6 oaa (by have:=(Ht d f.bS).len;omega)
 have hp3:∀n',mF n' f.bC η (sUp s f.bS).dQ=ς (AG n' ((sUp s f.bS).dQ.map (tq (f.bC.toNat:Int) η))):=λn'=>by
  rw[<-hdev];exact VI _ _ _ (by have:=(Nk s f.bS).len;omega)
 simp only[sY,YS h.fl hf,isUp_s (OY h1.map),hix,hixd,up_s hm.sg.sp,rad_s hm.dp.ok (show Pb f.cY from hp.b),sig_s hm.dp.ok hm.dp.card hm.dp.ep,hp1,hp2,hp3,ab4,rv,hf,e1,e2,Iy,Ui]
 grind
theorem Qb(h:NP B n)(hk:k<n.ax.length):vZ n (k:Int)=ς (rv n k):=by
 obtain⟨f,hf⟩:∃f,n.ax[k]?=ς f:=⟨_,aab hk⟩
 have hp:=h.fs f (aac hf)
 have h1:=Hr h k
 have hls:=h1.ls
 have hdd:=hp.d
 obtain⟨d,s,a,e1,e2,e3,hm⟩:=h1.at_ (show f.bC.toNat<(oF n k).aO.length by simp only[oF];omega)
 have hdev:=Te f.bC hdd.1
 have hix:ix (oF n k).a8 f.bC=ς s:=by rw[hdev,bm];exact e2
 have hixd:ix (oF n k).aO f.bC=ς d:=by rw[hdev,bm];exact e1
 have hdl:=(aaa.1 e1).1
 have hp1:gE (oF n k) f.bC (A6 d f.cY)=ς (tl (oF n k) f.bC.toNat (A6 d f.cY)):=by
  rw[hdev];exact K5 oaa (by have:=(Hs d f.cY).len;omega)
 have hp2:gE (oF n k) f.bC (A7 d f.bS)=ς (tl (oF n k) f.bC.toNat (A7 d f.bS)):=by
  rw[hdev];exact K5 oaa (by have:=(Ht d f.bS).len;omega)
 have hp3:∀n',jE n' f.bC (sUp s f.bS).dQ=ς (AG n' ((sUp s f.bS).dQ.map (tq (f.bC.toNat:Int) η))):=λn'=>by
  rw[<-hdev];exact Z9 _ _ (by have:=(Nk s f.bS).len;omega)
 simp only[vZ,YR h.fl hf,isUp_i (OY h1.map),hix,hixd,up_i hm.sg.sp,rad_i hm.dp.ok (show Pb f.cY from hp.b),sig_i hm.dp.ok hm.dp.card hm.dp.ep,hp1,hp2,hp3,ab4,rv,hf,e1,e2,Iy,Ui]
 grind
def RadOK(x:aT):Prop:=okB x.a9.bk/\x.a9.bk.length<=60
structure TK(nc:Nat)(s:ag)(a:an)(t:Fs):Prop where
 rcd:t.ck.bF=s.bF
 cell:t.ck.bJ=s.bJ
 si:t.ck.dq.bi=s.dq.bi
 sub:t.ck.aX=s.aX
 pg:∀m∈t.Y6,0<=m.bJ/\m.bJ<nc
 pl:t.Y6.length<=1000
 rd:∀x∈t.cY,RadOK x
 rl:t.cY.length<=4
def wt(a b:Int):Int:=abY (WR (dZ 17 [a,b]*dZ 17 [a,b])) 2147483647
structure BY(n:ae):Prop where
 d1:∀d∈n.aO,∀x∈d.bY.am,okB x.bk
 d2:∀d∈n.aO,∀p∈d.bY.aD,okB p.bk
 s1:∀s∈n.a8,∀p∈s.aX,okB p.bk
 s2:∀s∈n.a8,∀x∈s.aY.aJ,okB x.bk
 f:∀f∈n.ax,okB f.cY.a9.bk
theorem NP.of(ok:dS n)(v:lI n=ζ)(b:BY n):NP 0 n:=by
 simp only[lI,Ce,v0,cJ,fZ,aai,flB] at v
 obtain⟨v1,v2,v3,v4,v5,v6,v7,v8,v9,v10,v11,v12⟩:=v
 have v4:=Bo v4
 have v5:=xn v5
 have v6:=xn v6
 have v8:=Bo v8
 have v12:=Bo v12
 refine⟨v1,ok.1,v2,eqBf (by simp_all),by omega,v5,v6,λi d s a hd hs ha=>?_,by omega,λf hf=>?_,cJ.2 v10,v11,rfl⟩
 .have:=v7 i d hd
  simp only[FN,hs,ha,v0] at this
  obtain⟨m1,m2,m3,m4,m5,m6,m7,m8⟩:=this
  have hdm:=aac hd
  have hsm:=aac hs
  have c1:=cJ.1 (show inR d.bJ 0 ((n.gr.bD.length:Int)-1)=ζ from m5)
  have c2:=cJ.1 (show inR s.bJ 0 ((n.gr.bD.length:Int)-1)=ζ from m6)
  exact⟨DP.of m1 (ok.2.1.2 d hdm) (b.d1 d hdm) (b.d2 d hdm),by omega,⟨(VA (ok.2.2.1.2 s hsm)).1 m2,b.s1 s hsm,b.s2 s hsm,QG.1 m8⟩,by omega,DG m7,m4⟩
 have:=v9 f hf
 have c2:=cJ.1 (show inR f.bJ 0 ((n.gr.bD.length:Int)-1)=ζ from this.2)
 exact⟨by omega,by omega,b.f f hf,ok.2.2.2.2.2 f hf⟩
theorem NP.okN(h:NP B n):dS n:=by
 have h1:=h.ld
 have h2:=h.ls
 have h3:=h.la
 have h4:=h.fl
 refine⟨h.mok,⟨by omega,λd hd=>?_⟩,⟨by omega,λs hs=>?_⟩,⟨by omega,λa ha=>?_⟩,⟨by omega,λf hf=>(h.fs f hf).ok⟩⟩
 .obtain⟨i,hi⟩:=aau hd
  have hlt:=(aaa.1 hi).1
  obtain⟨d',s,a,e1,e2,e3,hm⟩:=h.at_ hlt
  rw[hi] at e1;cases e1;exact hm.dp.ok
 .obtain⟨i,hi⟩:=aau hs
  have hlt:=(aaa.1 hi).1
  obtain⟨d',s,a,e1,e2,e3,hm⟩:=h.at_ (show i<n.aO.length by omega)
  rw[hi] at e2;cases e2;exact hm.sg.sp.ok
 obtain⟨i,hi⟩:=aau ha
 have hlt:=(aaa.1 hi).1
 obtain⟨d',s,a,e1,e2,e3,hm⟩:=h.at_ (show i<n.aO.length by omega)
 rw[hi] at e3;cases e3;exact hm.sg.mo.acc.ok
def A5:Nat->ae->ae
 |0,n=>n
 |c+1,n=>bif eqB (n.ax.length:Int) 0 then n else A5 c (rv n 0)
theorem NP.z(h:NP B n):NP 0 n:={h with lo:=rfl}
theorem N8:∀(c:Nat) {n:ae},NP 0 n->NP 0 (A5 c n)
 |0,n,h=>by simpa [A5] using h
 |c+1,n,h=>by
  rw[A5]
  cases eqB (n.ax.length:Int) 0
  .exact N8 c (yQ h 0 oaa).z
  exact h
theorem GI:∀(c k fu:Nat) (m:Nat) {n:ae},NP 0 n->k+c=m->m<=4000->c<fu->iter (iw (m:Int)) fu ((k:Int),n)=ς (A5 c n)
 |0,k,fu,m,n,h,h1,h2,h3=>by
  cases fu with
  |zero=>omega
  |succ fu=>rw[iter];simp only[iw,ltB_f.2 (show(m:Int)<=(k:Int) by omega),A5,au]
 |c+1,k,fu,m,n,h,h1,h2,h3=>by
  cases fu with
  |zero=>omega
  |succ fu=>
   rw[iter,A5]
   simp only[iw,ltB_t.2 (show(k:Int)<(m:Int) by omega),au]
   by_cases e:n.ax.length=0
   .simp_all
   rw[ltB_t.2 (show(0:Int)<(n.ax.length:Int) by omega),eqB_f.2 (show(n.ax.length:Int)≠0 by omega)]
   have hd:=Qb h (k:=0) oaa
   simp only[au]
   rw[show(0:Int)=((0:Nat):Int) from rfl,hd]
   simp only[ab4,WRs (k:=k)]
   exact GI c (k+1) fu m (yQ h 0 oaa).z oaa h2 oaa
theorem Gf:∀(c k fu:Nat) (m:Nat) {n:ae},NP 0 n->k+c=m->m<=4000->c<fu->iter (kB (m:Int)) fu ((k:Int),n)=ς (A5 c n)
 |0,k,fu,m,n,h,h1,h2,h3=>by
  cases fu with
  |zero=>omega
  |succ fu=>rw[iter];simp only[kB,ltB_f.2 (show(m:Int)<=(k:Int) by omega),A5,au]
 |c+1,k,fu,m,n,h,h1,h2,h3=>by
  cases fu with
  |zero=>omega
  |succ fu=>
   rw[iter,A5]
   simp only[kB,ltB_t.2 (show(k:Int)<(m:Int) by omega),au]
   by_cases e:n.ax.length=0
   .simp_all
   rw[ltB_t.2 (show(0:Int)<(n.ax.length:Int) by omega),eqB_f.2 (show(n.ax.length:Int)≠0 by omega)]
   have hd:=Qc h (k:=0) oaa
   simp only[au]
   rw[show(0:Int)=((0:Nat):Int) from rfl,hd]
   simp only[ab4,WRs (k:=k)]
   exact Gf c (k+1) fu m (yQ h 0 oaa).z oaa h2 oaa
theorem Pe(h:NP 0 n){m:Nat}(hm:m<=4000):lB n (m:Int)=ς (A5 m n)/\sZ n (m:Int)=ς (A5 m n):=by
 have h1:=GI m 0 FU m h oaa hm (by have:=oC;omega)
 have h2:=Gf m 0 FU m h oaa hm (by have:=oC;omega)
 constructor
 .rw[lB,show iter (iw (m:Int)) FU (0,n)=_ from h1];rfl
 rw[sZ,show iter (kB (m:Int)) FU (0,n)=_ from h2];rfl
def ub(n:ae)(m:Int):ae:=bif lI n&&inR m 0 4000 then A5 m.toNat n else n
theorem Hu(ok:dS n)(b:BY n){m:Int}:mw n m=ς (ub n m):=by
 simp only[mw,net_ci ok,QX ok,ab4,ub,jp]
 cases hv:lI n
 .rfl
 cases hm:inR m 0 4000
 .rfl
 have hm:=cJ.1 hm
 have:=(Pe (NP.of ok hv b) (m:=m.toNat) oaa).1
 rw[show(m.toNat:Int)=m by omega] at this
 simp[this]
theorem Hv(ok:dS n)(b:BY n){m:Int}:sN n m=ς (ub n m):=by
 simp only[sN,net_c ok,QY ok,ab4,ub,iy]
 cases hv:lI n
 .rfl
 cases hm:inR m 0 4000
 .rfl
 have hm:=cJ.1 hm
 have:=(Pe (NP.of ok hv b) (m:=m.toNat) oaa).2
 rw[show(m.toNat:Int)=m by omega] at this
 simp[this]
theorem LK(ok:dS n)(b:BY n){m:Int}:dS (ub n m):=by
 rw[ub]
 cases hv:lI n
 .exact ok
 cases hm:inR m 0 4000
 .exact ok
 exact(N8 m.toNat (NP.of ok hv b)).okN
def MX{β:Type}(f:β->Int->Option (Int×β))(h:β->Int->Option Int)(ok:β->Prop)(K:Int):Prop:=
 ∀x k,ok x->0<=k->k+K<=9223372036854775000->∃k' y,f x k=ς (k',y)/\k<=k'/\k'<=k+K/\h y k=ς k'
theorem pf{E:α->Int->Option (Int×α)}{ok:α->Prop}{K:Int}{h:List α->Int->Option Int}{Lh:List α->(Int×Int)->Option (bN (Int×Int) Int)}(hK:0<=K)(hh:∀a k,h a k=iter (Lh a) FU (k,0))(hE:∀x k,ok x->0<=k->k+K<=9223372036854775000->∃k' y,E x k=ς (k',y)/\k<=k'/\k'<=k+K/\∀(zs:List α) (i:Nat),zs[i]?=ς y->Lh zs (k,(i:Int))=ς (.next (k',WR ((i:Int)+1))))(hend:∀(zs:List α) k,Lh zs (k,(zs.length:Int))=ς (.done k)):MX (mX E) h (okL ok) (1048576*K):=by
 have key:∀(xs:List α) (k:Int),(∀x∈xs,ok x)->0<=k->k+(xs.length:Int)*K<=9223372036854775000->∃k' ys,k<=k'/\k'<=k+(xs.length:Int)*K/\ys.length=xs.length/\
  (∀(pre:List α) (fu:Nat),xs.length<fu->pre.length+xs.length<=1048576->iter (LX E) fu (k,(pre.length:Int),pre++xs)=ς (k',pre++ys))/\
  (∀(pre:List α) (fu:Nat),xs.length<fu->pre.length+xs.length<=1048576->iter (Lh (pre++ys)) fu (k,(pre.length:Int))=ς k'):=by
  intro xs
  induction xs with
  |nil=>
   intro k _ h0 _
   refine⟨k,[],by omega,by simp,rfl,λpre fu hfu _=>?_,λpre fu hfu _=>?_⟩
   .obtain⟨fu,rfl⟩:∃g,fu=g+1:=⟨fu-1,by simp at hfu;omega⟩
    rw[iter];simp[LX]
   obtain⟨fu,rfl⟩:∃g,fu=g+1:=⟨fu-1,by simp at hfu;omega⟩
   have:=hend (pre++[]) k
   rw[List.append_nil] at this ⊢
   rw[iter,this]
  |cons x xs ih=>
   intro k hok h0 hk
   have hn:((x::xs).length:Int)*K=(xs.length:Int)*K+K:=by
    rw[aaq,acF,acJ];simp
   rw[hn] at hk ⊢
   have hm:0<=(xs.length:Int)*K:=acH oaa hK
   obtain⟨k1,y,e1,b1,b2,e2⟩:=hE x k (hok x (by simp)) h0 oaa
   obtain⟨k',ys,c1,c2,c3,c4,c5⟩:=ih k1 (λz hz=>hok z (by simp[hz])) oaa oaa
   refine⟨k',y::ys,by omega,by omega,by simp[c3],λpre fu hfu hp=>?_,λpre fu hfu hp=>?_⟩
   .obtain⟨fu,rfl⟩:∃g,fu=g+1:=⟨fu-1,by simp at hfu;omega⟩
    simp only[aaq] at hfu hp
    rw[iter,LX,ltB_t.2 (show(pre.length:Int)<(((pre++x::xs).length:Nat):Int) by simp;omega)]
    have h1:ix (pre++x::xs) (pre.length:Int)=ς x:=by rw[bm];simp
    have h2:(pre++x::xs).set (pre.length:Int).toNat y=(pre++[y])++xs:=by simp
    simp only[h1,e1,h2,WRs (k:=pre.length),au]
    have:=c4 (pre++[y]) fu oaa (by simp;omega)
    rw[show((pre++[y]).length)=pre.length+1 by simp] at this
    simpa using this
   obtain⟨fu,rfl⟩:∃g,fu=g+1:=⟨fu-1,by simp at hfu;omega⟩
   simp only[aaq] at hfu hp
   rw[iter,e2 (pre++y::ys) pre.length (by simp)]
   simp only[WRs (k:=pre.length)]
   have:=c5 (pre++[y]) fu oaa (by simp;omega)
   rw[show((pre++[y]).length)=pre.length+1 by simp] at this
   simpa using this
 intro xs k hok h0 hk
 have hx:(xs.length:Int)*K<=1048576*K:=acv (by have:=hok.1;omega) hK
 obtain⟨k',ys,c1,c2,c3,c4,c5⟩:=key xs k hok.2 h0 oaa
 refine⟨k',ys,?_,c1,by omega,?_⟩
 .rw[mX]
  have:=c4 [] FU (by have:=hok.1;have:=oC;omega) (by have:=hok.1;simpa using this)
  simp at this
  rw[this];rfl
 rw[hh]
 have:=c5 [] FU (by have:=hok.1;have:=oC;omega) (by have:=hok.1;simpa using this)
 simpa using this
end Go.AM
set_option maxRecDepth 100000
set_option maxHeartbeats 4000000
namespace Go.AM
open Go.Proofs
theorem fG{j:Int}(h0:0<=j)(h:j+1<=9223372036854775807):WR (j+1)=j+1:=cG oaa
theorem P7(b:Bool):booB b b=true:=by simp[booB]
theorem BS{k:Int}(h0:0<=k)(h:k+40<=9223372036854775807):Unit->WR (k+1)=k+1/\WR (k+1+1)=k+1+1/\WR (k+1+1+1)=k+1+1+1/\WR (k+1+1+1+1)=k+1+1+1+1/\WR (k+1+1+1+1+1)=k+1+1+1+1+1/\WR (k+1+1+1+1+1+1)=k+1+1+1+1+1+1/\WR (k+1+1+1+1+1+1+1)=k+1+1+1+1+1+1+1/\WR (k+1+1+1+1+1+1+1+1)=k+1+1+1+1+1+1+1+1/\WR (k+1+1+1+1+1+1+1+1+1)=k+1+1+1+1+1+1+1+1+1/\WR (k+1+1+1+1+1+1+1+1+1+1)=k+1+1+1+1+1+1+1+1+1+1/\WR (k+1+1+1+1+1+1+1+1+1+1+1)=k+1+1+1+1+1+1+1+1+1+1+1/\WR (k+1+1+1+1+1+1+1+1+1+1+1+1)=k+1+1+1+1+1+1+1+1+1+1+1+1/\WR (k+1+1+1+1+1+1+1+1+1+1+1+1+1)=k+1+1+1+1+1+1+1+1+1+1+1+1+1/\WR (k+1+1+1+1+1+1+1+1+1+1+1+1+1+1)=k+1+1+1+1+1+1+1+1+1+1+1+1+1+1/\WR (k+1+1+1+1+1+1+1+1+1+1+1+1+1+1+1)=k+1+1+1+1+1+1+1+1+1+1+1+1+1+1+1/\WR (k+1+1+1+1+1+1+1+1+1+1+1+1+1+1+1+1)=k+1+1+1+1+1+1+1+1+1+1+1+1+1+1+1+1/\WR (k+1+1+1+1+1+1+1+1+1+1+1+1+1+1+1+1+1)=k+1+1+1+1+1+1+1+1+1+1+1+1+1+1+1+1+1/\WR (k+1+1+1+1+1+1+1+1+1+1+1+1+1+1+1+1+1+1)=k+1+1+1+1+1+1+1+1+1+1+1+1+1+1+1+1+1+1/\WR (k+1+1+1+1+1+1+1+1+1+1+1+1+1+1+1+1+1+1+1)=k+1+1+1+1+1+1+1+1+1+1+1+1+1+1+1+1+1+1+1/\WR (k+1+1+1+1+1+1+1+1+1+1+1+1+1+1+1+1+1+1+1+1)=k+1+1+1+1+1+1+1+1+1+1+1+1+1+1+1+1+1+1+1+1/\WR (k+1+1+1+1+1+1+1+1+1+1+1+1+1+1+1+1+1+1+1+1+1)=k+1+1+1+1+1+1+1+1+1+1+1+1+1+1+1+1+1+1+1+1+1/\WR (k+1+1+1+1+1+1+1+1+1+1+1+1+1+1+1+1+1+1+1+1+1+1)=k+1+1+1+1+1+1+1+1+1+1+1+1+1+1+1+1+1+1+1+1+1+1/\WR (k+1+1+1+1+1+1+1+1+1+1+1+1+1+1+1+1+1+1+1+1+1+1+1)=k+1+1+1+1+1+1+1+1+1+1+1+1+1+1+1+1+1+1+1+1+1+1+1/\WR (k+1+1+1+1+1+1+1+1+1+1+1+1+1+1+1+1+1+1+1+1+1+1+1+1)=k+1+1+1+1+1+1+1+1+1+1+1+1+1+1+1+1+1+1+1+1+1+1+1+1/\WR (k+1+1+1+1+1+1+1+1+1+1+1+1+1+1+1+1+1+1+1+1+1+1+1+1+1)=k+1+1+1+1+1+1+1+1+1+1+1+1+1+1+1+1+1+1+1+1+1+1+1+1+1/\WR (k+1+1+1+1+1+1+1+1+1+1+1+1+1+1+1+1+1+1+1+1+1+1+1+1+1+1)=k+1+1+1+1+1+1+1+1+1+1+1+1+1+1+1+1+1+1+1+1+1+1+1+1+1+1/\WR (k+1+1+1+1+1+1+1+1+1+1+1+1+1+1+1+1+1+1+1+1+1+1+1+1+1+1+1)=k+1+1+1+1+1+1+1+1+1+1+1+1+1+1+1+1+1+1+1+1+1+1+1+1+1+1+1/\WR (k+1+1+1+1+1+1+1+1+1+1+1+1+1+1+1+1+1+1+1+1+1+1+1+1+1+1+1+1)=k+1+1+1+1+1+1+1+1+1+1+1+1+1+1+1+1+1+1+1+1+1+1+1+1+1+1+1+1/\WR (k+1+1+1+1+1+1+1+1+1+1+1+1+1+1+1+1+1+1+1+1+1+1+1+1+1+1+1+1+1)=k+1+1+1+1+1+1+1+1+1+1+1+1+1+1+1+1+1+1+1+1+1+1+1+1+1+1+1+1+1/\WR (k+1+1+1+1+1+1+1+1+1+1+1+1+1+1+1+1+1+1+1+1+1+1+1+1+1+1+1+1+1+1)=k+1+1+1+1+1+1+1+1+1+1+1+1+1+1+1+1+1+1+1+1+1+1+1+1+1+1+1+1+1+1/\WR (k+1+1+1+1+1+1+1+1+1+1+1+1+1+1+1+1+1+1+1+1+1+1+1+1+1+1+1+1+1+1+1)=k+1+1+1+1+1+1+1+1+1+1+1+1+1+1+1+1+1+1+1+1+1+1+1+1+1+1+1+1+1+1+1/\WR (k+1+1+1+1+1+1+1+1+1+1+1+1+1+1+1+1+1+1+1+1+1+1+1+1+1+1+1+1+1+1+1+1)=k+1+1+1+1+1+1+1+1+1+1+1+1+1+1+1+1+1+1+1+1+1+1+1+1+1+1+1+1+1+1+1+1/\WR (k+1+1+1+1+1+1+1+1+1+1+1+1+1+1+1+1+1+1+1+1+1+1+1+1+1+1+1+1+1+1+1+1+1)=k+1+1+1+1+1+1+1+1+1+1+1+1+1+1+1+1+1+1+1+1+1+1+1+1+1+1+1+1+1+1+1+1+1:=λ_=>⟨fG oaa oaa,fG oaa oaa,fG oaa oaa,fG oaa oaa,fG oaa oaa,fG oaa oaa,fG oaa oaa,fG oaa oaa,fG oaa oaa,fG oaa oaa,fG oaa oaa,fG oaa oaa,fG oaa oaa,fG oaa oaa,fG oaa oaa,fG oaa oaa,fG oaa oaa,fG oaa oaa,fG oaa oaa,fG oaa oaa,fG oaa oaa,fG oaa oaa,fG oaa oaa,fG oaa oaa,fG oaa oaa,fG oaa oaa,fG oaa oaa,fG oaa oaa,fG oaa oaa,fG oaa oaa,fG oaa oaa,fG oaa oaa,fG oaa oaa⟩
theorem Fw{α:Type}{i:Nat}{zs:List α}{β:Type}{p q:β}(h:i<zs.length):(bif ltB (i:Int) (zs.length:Int) then p else q)=p:=by rw[ltB_t.2 (show(i:Int)<(zs.length:Int) by omega)];rfl
theorem ee{α β:Type}{zs:List α}{i:Int}{y:α}{f:α->Int}{v:Int}{A:Option β}{B:α->Option β}(hi:ix zs i=ς y)(h:f y=v):(abX (ix zs i) λx=>bif !eqB (f x) v then A else B x)=B y:=by rw[hi];subst h;simp[bE]
theorem hd_b{α β:Type}{zs:List α}{i:Int}{y:α}{f:α->Bool}{v:Bool}{A:Option β}{B:α->Option β}(hi:ix zs i=ς y)(h:f y=v):(abX (ix zs i) λx=>bif !(booB (f x) v) then A else B x)=B y:=by rw[hi];subst h;simp[P7]
theorem Fy{α β:Type}{zs:List α}{i k:Int}{y:α}{f:α->Option Int}{A:Option β}{B:Int->Option β}(hi:ix zs i=ς y)(h:f y=ς k)(h0:0<=k):(abX (ix zs i) λx=>abX (f x) λr=>bif ltB r 0 then A else B r)=B k:=by rw[hi];simp only[h,ltB_f.2 h0,au]
theorem If:MX iS re (okL (λ_=>True)) 1048576:=by
 refine pf (K:=1) (E:=uG) (Lh:=o7) oaa (λa k=>rfl) (λx k hx h0 hk=>?_) (λzs k=>by simp[o7,dn,bH])
 have w0:=BS (k:=k) oaa oaa
 refine⟨k+1,IntKind.u8.wrap (k),?_,by omega,by omega,λzs i hz=>?_⟩
 .simp only[uG,ab4,w0 ()]
 have hl:=(aaa.1 hz).1
 have hi:=(bm zs i).trans hz
 unfold o7
 simp only[w0 ()]
 refine(Fw oaa).trans ?_
 refine(ee hi rfl).trans ?_
 rfl
theorem Un:MX oN xB (okL (λ_=>True)) 1048576:=by
 refine pf (K:=1) (E:=wq) (Lh:=qo) oaa (λa k=>rfl) (λx k hx h0 hk=>?_) (λzs k=>by simp[qo,dn,bH])
 have w0:=BS (k:=k) oaa oaa
 refine⟨k+1,k,?_,by omega,by omega,λzs i hz=>?_⟩
 .simp only[wq,ab4,w0 ()]
 have hl:=(aaa.1 hz).1
 have hi:=(bm zs i).trans hz
 unfold qo
 simp only[w0 ()]
 refine(Fw oaa).trans ?_
 refine(ee hi rfl).trans ?_
 rfl
theorem Ex:MX gT o9 (okL eQ) 1099511627776:=by
 refine pf (K:=1048576) (E:=pP) (Lh:=kP) oaa (λa k=>rfl) (λx k hx h0 hk=>?_) (λzs k=>by simp[kP,dn,bH])
 obtain⟨x_Data⟩:=x
 obtain⟨r1,y1,e1,a1,b1,c1⟩:=If x_Data (k) hx oaa oaa
 have n1:ltB r1 0=false:=ltB_f.2 oaa
 refine⟨r1,⟨y1⟩,?_,by omega,by omega,λzs i hz=>?_⟩
 .simp only[pP,ab4,e1]
 have hl:=(aaa.1 hz).1
 have hi:=(bm zs i).trans hz
 unfold kP
 refine(Fw oaa).trans ?_
 refine(Fy hi (k:=r1) c1 oaa).trans ?_
 rfl
theorem sK:MX d5 gF (okL cN) 1099512676352:=by
 refine pf (K:=1048577) (E:=iU) (Lh:=fr) oaa (λa k=>rfl) (λx k hx h0 hk=>?_) (λzs k=>by simp[fr,dn,bH])
 obtain⟨x_Seq,x_Data⟩:=x
 obtain⟨r1,y1,e1,a1,b1,c1⟩:=If x_Data (k+1) hx oaa oaa
 have n1:ltB r1 0=false:=ltB_f.2 oaa
 have w0:=BS (k:=k) oaa oaa
 refine⟨r1,⟨k,y1⟩,?_,by omega,by omega,λzs i hz=>?_⟩
 .simp only[iU,ab4,w0 (),e1]
 have hl:=(aaa.1 hz).1
 have hi:=(bm zs i).trans hz
 unfold fr
 simp only[w0 ()]
 refine(Fw oaa).trans ?_
 refine(ee hi rfl).trans ?_
 refine(Fy hi (k:=r1) c1 oaa).trans ?_
 rfl
theorem Ey:MX gI nB (okL (λ_=>True)) 2097152:=by
 refine pf (K:=2) (E:=lj) (Lh:=gH) oaa (λa k=>rfl) (λx k hx h0 hk=>?_) (λzs k=>by simp[gH,dn,bH])
 obtain⟨x_SessionID,x_Amount⟩:=x
 have w0:=BS (k:=k) oaa oaa
 refine⟨k+1+1,⟨k,k+1⟩,?_,by omega,by omega,λzs i hz=>?_⟩
 .simp only[lj,ab4,w0 ()]
 have hl:=(aaa.1 hz).1
 have hi:=(bm zs i).trans hz
 unfold gH
 simp only[w0 ()]
 refine(Fw oaa).trans ?_
 refine(ee hi rfl).trans ?_
 refine(ee hi rfl).trans ?_
 rfl
theorem X7:MX uJ zg (okL qq) 1099512676352:=by
 refine pf (K:=1048577) (E:=uK) (Lh:=o8) oaa (λa k=>rfl) (λx k hx h0 hk=>?_) (λzs k=>by simp[o8,dn,bH])
 obtain⟨x_Area,x_Neighbors⟩:=x
 obtain⟨r1,y1,e1,a1,b1,c1⟩:=Un x_Neighbors (k+1) hx oaa oaa
 have n1:ltB r1 0=false:=ltB_f.2 oaa
 have w0:=BS (k:=k) oaa oaa
 refine⟨r1,⟨k,y1⟩,?_,by omega,by omega,λzs i hz=>?_⟩
 .simp only[uK,ab4,w0 (),e1]
 have hl:=(aaa.1 hz).1
 have hi:=(bm zs i).trans hz
 unfold o8
 simp only[w0 ()]
 refine(Fw oaa).trans ?_
 refine(ee hi rfl).trans ?_
 refine(Fy hi (k:=r1) c1 oaa).trans ?_
 rfl
theorem QI:MX uL uE (okL dt) 2305844108737904640:=by
 refine pf (K:=2199024304140) (E:=ri) (Lh:=lS) oaa (λa k=>rfl) (λx k hx h0 hk=>?_) (λzs k=>by simp[lS,dn,bH])
 obtain⟨⟨⟨x_Card_ID_Network,x_Card_ID_Number⟩,x_Card_Key,x_Card_LastSeq⟩,x_State,x_Cell,x_Generation,x_RootKey,x_Epoch,x_PathConfirmed,x_Wait,⟨x_Receiver_Next,x_Receiver_Pending,x_Receiver_Delivered⟩⟩:=x
 obtain⟨r1,y1,e1,a1,b1,c1⟩:=sK x_Receiver_Pending (k+1+1+1+1+1+1+1+1+1+1+1+1) hx.1 oaa oaa
 have n1:ltB r1 0=false:=ltB_f.2 oaa
 obtain⟨r2,y2,e2,a2,b2,c2⟩:=Ex x_Receiver_Delivered (r1) hx.2 oaa oaa
 have n2:ltB r2 0=false:=ltB_f.2 oaa
 have w0:=BS (k:=k) oaa oaa
 refine⟨r2,⟨⟨⟨k,k+1⟩,k+1+1,k+1+1+1⟩,k+1+1+1+1,k+1+1+1+1+1,k+1+1+1+1+1+1,k+1+1+1+1+1+1+1,k+1+1+1+1+1+1+1+1,(eqB (abY (k+1+1+1+1+1+1+1+1+1) 3) 0),k+1+1+1+1+1+1+1+1+1+1,⟨k+1+1+1+1+1+1+1+1+1+1+1,y1,y2⟩⟩,?_,by omega,by omega,λzs i hz=>?_⟩
 .simp only[ri,ab4,w0 (),e1,e2]
 have hl:=(aaa.1 hz).1
 have hi:=(bm zs i).trans hz
 unfold lS
 simp only[w0 ()]
 refine(Fw oaa).trans ?_
 refine(ee hi rfl).trans ?_
 refine(ee hi rfl).trans ?_
 refine(ee hi rfl).trans ?_
 refine(ee hi rfl).trans ?_
 refine(ee hi rfl).trans ?_
 refine(ee hi rfl).trans ?_
 refine(ee hi rfl).trans ?_
 refine(ee hi rfl).trans ?_
 refine(ee hi rfl).trans ?_
 refine(hd_b hi rfl).trans ?_
 refine(ee hi rfl).trans ?_
 refine(ee hi rfl).trans ?_
 refine(Fy hi (k:=r1) c1 oaa).trans ?_
 refine(Fy hi (k:=r2) c2 oaa).trans ?_
 rfl
theorem MF:MX tj th (okL cV) 2305845208265261056:=by
 refine pf (K:=2199025352731) (E:=pR) (Lh:=kQ) oaa (λa k=>rfl) (λx k hx h0 hk=>?_) (λzs k=>by simp[kQ,dn,bH])
 obtain⟨⟨⟨x_Record_ID_Network,x_Record_ID_Number⟩,x_Record_Key,x_Record_Seq⟩,⟨x_Plan_RateLimit,x_Plan_BestClass,x_Plan_GrantSize,x_Plan_RoamingNetworks⟩,x_State,⟨x_Pending_Rand,x_Pending_Autn,x_Pending_MAC,x_Pending_Res,x_Pending_Key⟩,x_PendingSeq,x_Generation,x_RootKey,x_Epoch,x_Cell,x_Quiet,⟨x_Page_Area,x_Page_Attempt,x_Page_Wait⟩,x_Submitted,⟨x_Window_Next,x_Window_Unacked⟩,x_Retry,⟨x_Usage_SessionID,x_Usage_Granted,x_Usage_Used⟩⟩:=x
 obtain⟨r1,y1,e1,a1,b1,c1⟩:=Un x_Plan_RoamingNetworks (k+1+1+1+1+1+1+1) hx.1 oaa oaa
 have n1:ltB r1 0=false:=ltB_f.2 oaa
 obtain⟨r2,y2,e2,a2,b2,c2⟩:=Ex x_Submitted (r1+1+1+1+1+1+1+1+1+1+1+1+1+1+1+1) hx.2.1 oaa oaa
 have n2:ltB r2 0=false:=ltB_f.2 oaa
 obtain⟨r3,y3,e3,a3,b3,c3⟩:=sK x_Window_Unacked (r2+1) hx.2.2 oaa oaa
 have n3:ltB r3 0=false:=ltB_f.2 oaa
 have w0:=BS (k:=k) oaa oaa
 have w1:=BS (k:=r1) oaa oaa
 have w2:=BS (k:=r2) oaa oaa
 have w3:=BS (k:=r3) oaa oaa
 refine⟨r3+1+1+1+1,⟨⟨⟨k,k+1⟩,k+1+1,k+1+1+1⟩,⟨k+1+1+1+1,k+1+1+1+1+1,k+1+1+1+1+1+1,y1⟩,r1,⟨r1+1,r1+1+1,r1+1+1+1,r1+1+1+1+1,r1+1+1+1+1+1⟩,r1+1+1+1+1+1+1,r1+1+1+1+1+1+1+1,r1+1+1+1+1+1+1+1+1,r1+1+1+1+1+1+1+1+1+1,r1+1+1+1+1+1+1+1+1+1+1,r1+1+1+1+1+1+1+1+1+1+1+1,⟨r1+1+1+1+1+1+1+1+1+1+1+1+1,r1+1+1+1+1+1+1+1+1+1+1+1+1+1,r1+1+1+1+1+1+1+1+1+1+1+1+1+1+1⟩,y2,⟨r2,y3⟩,r3,⟨r3+1,r3+1+1,r3+1+1+1⟩⟩,?_,by omega,by omega,λzs i hz=>?_⟩
 .simp only[pR,ab4,w0 (),w1 (),w2 (),w3 (),e1,e2,e3]
 have hl:=(aaa.1 hz).1
 have hi:=(bm zs i).trans hz
 unfold kQ
 simp only[w0 (),w1 (),w2 (),w3 ()]
 refine(Fw oaa).trans ?_
 refine(ee hi rfl).trans ?_
 refine(ee hi rfl).trans ?_
 refine(ee hi rfl).trans ?_
 refine(ee hi rfl).trans ?_
 refine(ee hi rfl).trans ?_
 refine(ee hi rfl).trans ?_
 refine(ee hi rfl).trans ?_
 refine(Fy hi (k:=r1) c1 oaa).trans ?_
 try simp only[w0 (),w1 (),w2 (),w3 ()]
 refine(ee hi rfl).trans ?_
 refine(ee hi rfl).trans ?_
 refine(ee hi rfl).trans ?_
 refine(ee hi rfl).trans ?_
 refine(ee hi rfl).trans ?_
 refine(ee hi rfl).trans ?_
 refine(ee hi rfl).trans ?_
 refine(ee hi rfl).trans ?_
 refine(ee hi rfl).trans ?_
 refine(ee hi rfl).trans ?_
 refine(ee hi rfl).trans ?_
 refine(ee hi rfl).trans ?_
 refine(ee hi rfl).trans ?_
 refine(ee hi rfl).trans ?_
 refine(ee hi rfl).trans ?_
 refine(Fy hi (k:=r2) c2 oaa).trans ?_
 try simp only[w0 (),w1 (),w2 (),w3 ()]
 refine(ee hi rfl).trans ?_
 refine(Fy hi (k:=r3) c3 oaa).trans ?_
 try simp only[w0 (),w1 (),w2 (),w3 ()]
 refine(ee hi rfl).trans ?_
 refine(ee hi rfl).trans ?_
 refine(ee hi rfl).trans ?_
 refine(ee hi rfl).trans ?_
 rfl
theorem MD:MX ti tf (okL dD) 2199026401280:=by
 refine pf (K:=2097155) (E:=pO) (Lh:=kO) oaa (λa k=>rfl) (λx k hx h0 hk=>?_) (λzs k=>by simp[kO,dn,bH])
 obtain⟨x_Total,x_Available,x_Spent,x_Reservations⟩:=x
 obtain⟨r1,y1,e1,a1,b1,c1⟩:=Ey x_Reservations (k+1+1+1) hx oaa oaa
 have n1:ltB r1 0=false:=ltB_f.2 oaa
 have w0:=BS (k:=k) oaa oaa
 refine⟨r1,⟨k,k+1,k+1+1,y1⟩,?_,by omega,by omega,λzs i hz=>?_⟩
 .simp only[pO,ab4,w0 (),e1]
 have hl:=(aaa.1 hz).1
 have hi:=(bm zs i).trans hz
 unfold kO
 simp only[w0 ()]
 refine(Fw oaa).trans ?_
 refine(ee hi rfl).trans ?_
 refine(ee hi rfl).trans ?_
 refine(ee hi rfl).trans ?_
 refine(Fy hi (k:=r1) c1 oaa).trans ?_
 rfl
theorem QJ:MX uM uF (okL eP) 1099532599296:=by
 refine pf (K:=1048596) (E:=ro) (Lh:=lT) oaa (λa k=>rfl) (λx k hx h0 hk=>?_) (λzs k=>by simp[lT,dn,bH])
 obtain⟨x_Device,x_Uplink,x_IsRadio,x_Cell,⟨x_Signal_Kind,x_Signal_Cell,x_Signal_Generation,x_Signal_Epoch,x_Signal_Number,⟨x_Signal_Vector_Rand,x_Signal_Vector_Autn,x_Signal_Vector_MAC,x_Signal_Vector_Res,x_Signal_Vector_Key⟩,x_Signal_MAC⟩,⟨x_Radio_Generation,x_Radio_Epoch,⟨x_Radio_Message_Direction,x_Radio_Message_Count,x_Radio_Message_Data,x_Radio_Message_MAC⟩⟩⟩:=x
 obtain⟨r1,y1,e1,a1,b1,c1⟩:=If x_Radio_Message_Data (k+1+1+1+1+1+1+1+1+1+1+1+1+1+1+1+1+1+1+1) hx oaa oaa
 have n1:ltB r1 0=false:=ltB_f.2 oaa
 have w0:=BS (k:=k) oaa oaa
 have w1:=BS (k:=r1) oaa oaa
 refine⟨r1+1,⟨k,(eqB (abY (k+1) 3) 0),(eqB (abY (k+1+1) 3) 0),k+1+1+1,⟨k+1+1+1+1,k+1+1+1+1+1,k+1+1+1+1+1+1,k+1+1+1+1+1+1+1,k+1+1+1+1+1+1+1+1,⟨k+1+1+1+1+1+1+1+1+1,k+1+1+1+1+1+1+1+1+1+1,k+1+1+1+1+1+1+1+1+1+1+1,k+1+1+1+1+1+1+1+1+1+1+1+1,k+1+1+1+1+1+1+1+1+1+1+1+1+1⟩,k+1+1+1+1+1+1+1+1+1+1+1+1+1+1⟩,⟨k+1+1+1+1+1+1+1+1+1+1+1+1+1+1+1,k+1+1+1+1+1+1+1+1+1+1+1+1+1+1+1+1,⟨k+1+1+1+1+1+1+1+1+1+1+1+1+1+1+1+1+1,k+1+1+1+1+1+1+1+1+1+1+1+1+1+1+1+1+1+1,y1,r1⟩⟩⟩,?_,by omega,by omega,λzs i hz=>?_⟩
 .simp only[ro,ab4,w0 (),w1 (),e1]
 have hl:=(aaa.1 hz).1
 have hi:=(bm zs i).trans hz
 unfold lT
 simp only[w0 (),w1 ()]
 refine(Fw oaa).trans ?_
 refine(ee hi rfl).trans ?_
 refine(hd_b hi rfl).trans ?_
 refine(hd_b hi rfl).trans ?_
 refine(ee hi rfl).trans ?_
 refine(ee hi rfl).trans ?_
 refine(ee hi rfl).trans ?_
 refine(ee hi rfl).trans ?_
 refine(ee hi rfl).trans ?_
 refine(ee hi rfl).trans ?_
 refine(ee hi rfl).trans ?_
 refine(ee hi rfl).trans ?_
 refine(ee hi rfl).trans ?_
 refine(ee hi rfl).trans ?_
 refine(ee hi rfl).trans ?_
 refine(ee hi rfl).trans ?_
 refine(ee hi rfl).trans ?_
 refine(ee hi rfl).trans ?_
 refine(ee hi rfl).trans ?_
 refine(ee hi rfl).trans ?_
 refine(Fy hi (k:=r1) c1 oaa).trans ?_
 try simp only[w0 (),w1 ()]
 refine(ee hi rfl).trans ?_
 rfl
attribute [local simp] bH bE bm
theorem BY.of{n:ae}(hp:sL n):BY n where
 d1:=λd hd x hx=>((hp.2.1.2 d hd).1.2 x hx).2
 d2:=λd hd x hx=>((hp.2.1.2 d hd).2.2 x hx).2
 s1:=λs hs x hx=>((hp.2.2.1.2 s hs).2.1.2 x hx).2
 s2:=λs hs x hx=>((hp.2.2.1.2 s hs).2.2.2 x hx).2
 f:=λf hf=>(hp.2.2.2.2.2 f hf).2
theorem ME{n:ae}(ok:dS n):∃m g,gS n 1=ς (m,g)/\ltB m 0=η/\nz g 1=ς m:=by
 obtain⟨k1,y1,e1,a1,b1,c1⟩:=X7 n.gr.bD 1 ok.1 oaa oaa
 obtain⟨k2,y2,e2,a2,b2,c2⟩:=QI n.aO k1 ok.2.1 oaa oaa
 obtain⟨k3,y3,e3,a3,b3,c3⟩:=MF n.a8 k2 ok.2.2.1 oaa oaa
 obtain⟨k4,y4,e4,a4,b4,c4⟩:=MD n.bU k3 ok.2.2.2.1 oaa oaa
 obtain⟨k5,y5,e5,a5,b5,c5⟩:=QJ n.ax k4 ok.2.2.2.2 oaa oaa
 refine⟨k5,⟨⟨y1⟩,y2,y3,y4,y5,n.dy,n.kG,n.Fr,n.lb⟩,?_,ltB_f.2 oaa,?_⟩
 .simp only[gS,e1,e2,e3,e4,e5,ab4]
 simp only[nz,uD,c1,c2,c3,c4,c5,ltB_f.2 (show(0:Int)<=k1 by omega),ltB_f.2 (show(0:Int)<=k2 by omega),ltB_f.2 (show(0:Int)<=k3 by omega),ltB_f.2 (show(0:Int)<=k4 by omega),ltB_f.2 (show(0:Int)<=k5 by omega),au]
theorem vz(n:ae)(hp:sL n)(l:Int)(hd:(Lit.int .i64 l).wf=ζ):mj n l=ς true:=by
 unfold mj
 obtain⟨r1,a1,b1,c1⟩:=KU n 1048576 hp oaa oaa
 rcases c1 with⟨c1,rfl⟩|⟨c1,d1,ok⟩
 .simp[a1,c1]
 have hb:=BY.of hp
 have hw:=LK ok hb (m:=l)
 obtain⟨k,z1,z2,z3⟩:=M7 n 1 ok oaa oaa
 obtain⟨m,g,x1,x2,x3⟩:=ME hw
 have hk:ltB k 0=false:=ltB_f.2 oaa
 simp[a1,c1,K2 _ ok,Hv ok hb,Hu ok hb,B3 _ hw,B3 _ ok,z1,x1,x2,x3,hk]
end Go.AM
