/- A part. -/
import Derived.Test.YtfbpfflnhfcmaaaGreatL
set_option linter.unusedVariables false
set_option linter.unusedSimpArgs false
set_option maxHeartbeats 4000000
open Option renaming some->ς,none->ξ
open Bool renaming true->ζ,false->η
open True renaming intro->θ
open Option renaming bind_some->afY,bind->afW,map_some->agc
open List renaming getElem?_eq_getElem->aa9,getElem?_eq_some_iff->abb,mem_of_getElem?->abl,mem_append->ab1,nil_append->afl,getElem?_of_mem->aej,length_cons->aee,pairwise_cons->af9,replicate->ab3,getElem?_mapIdx->aga,takeWhile_append_dropWhile->ago,pairwise_append->agh,mem_cons->acb,mem_map->afk,ext_getElem?->af8,all_eq_true->acf,takeWhile_cons->agl,range->abm,getElem_mem->agi,mem_singleton->afn,getElem?_set->afE,take_of_length_le->agd,cons_append->aes,dropWhile_subset->agq,foldl_cons->agm,mem_range->af1,length->agj,take_add_one->age,append_assoc->agk,drop_eq_getElem_cons->ae0,rel_of_pairwise_cons->agy,getElem?_append_left->aer,length_nil->af2,getElem?_eq_none->agz,drop_left->ags,drop_drop->aeK,takeWhile_subset->agA,length_filter_le->agt,length_replicate->agB,mem_of_mem_take->aeo,dropWhile_cons->agD,length_append->aeu,drop_length->agG,length_take->aeQ,filter_cons->agv,mem_filter->agf,take_left->agx
open Bool renaming and_eq_true->v0,or_eq_false_iff->adi,eq_iff_iff->af0,not_eq_false'->af5,and_true->afD,or_self->af7,not_eq_true'->aet,true_and->af6,and_false->afJ,false_and->agp,false_or->aen,or_false->afL,true_or->agn
open Int renaming toNat_natCast->afZ,tmod_eq_emod_of_nonneg->af4,tmod->afX,add_emod_right->agE,emod_lt_of_pos->agu,emod_eq_of_lt->agF,emod_nonneg->agw
open Nat renaming add_sub_cancel->agb,le_refl->acA,mul_le_mul->agr,zero_le->ac7,le_trans->afo
namespace Go.AM
variable{σ τ ρ α β:Type}{n:Go.AM.ab}{k:Nat}{p:Go.AM.cm}{a:Go.AM.av}{b i B:Int}{r:Go.AM.a9}{w:Go.AM.bk}{s:Go.AM.ag}{x:Go.AM.ah}{m:Go.AM.be}{f:Go.AM.bg}{q:Go.AM.cW}{t:List Go.AM.aU}
theorem gH:9223372036854775808<=FU:=by unfold FU;omega
def kW{α σ ρ:Type}(body:σ->α->Option (cj σ ρ))(fin:σ->Option ρ):List α->σ->Option ρ
 |[],s=>fin s
 |x::xs,s=>match body s x with
  |some (.next s')=>kW body fin xs s'
  |some (.done r)=>ς r
  |none=>ξ
def D4(f:σ->τ):Option (cj σ ρ)->Option (cj τ ρ)
 |some (.next s)=>ς (.next (f s))
 |some (.done r)=>ς (.done r)
 |none=>ξ
@[simp] theorem stepM_next (f:σ->τ) (s:σ):D4 (ρ:=ρ) f (ς (.next s))=ς (.next (f s)):=rfl
@[simp] theorem stepM_done (f:σ->τ) (r:ρ):D4 f (ς (.done r))=ς (.done r):=rfl
@[simp] theorem stepM_none (f:σ->τ):D4 (ρ:=ρ) f ξ=none:=rfl
@[simp] theorem stepM_cond (f:σ->τ) (b:Bool) (x y:Option (cj σ ρ)):D4 f (bif b then x else y)=bif b then D4 f x else D4 f y:=by cases b<;>rfl
@[simp] theorem stepM_bind (f:σ->τ) (o:Option α) (k:α->Option (cj σ ρ)):D4 f (afW o k)=afW o (λa=>D4 f (k a)):=by cases o<;>rfl
@[simp] theorem dn_some (r:ρ):dn (σ:=σ) (ς r)=ς (.done r):=rfl
@[simp] theorem dn_none {ρ:Type}:dn (σ:=σ) (ρ:=ρ) ξ=none:=rfl
theorem eR{step:τ->Option (cj τ ρ)}(xs:List α)(mk:Nat->σ->τ)(body:σ->α->Option (cj σ ρ))(fin:σ->Option ρ)(hl:xs.length<=9223372036854775806)(hs:∀(k:Nat) (x:α) (s:σ),xs[k]?=ς x->k<xs.length->step (mk k s)=D4 (mk (k+1)) (body s x))(he:∀s,step (mk xs.length s)=dn (fin s))(s0:σ):iter step FU (mk 0 s0)=kW body fin xs s0:=by
 have key:∀(m n:Nat) (s:σ) (k:Nat),m=xs.length-k->k<=xs.length->m<n->iter step n (mk k s)=kW body fin (xs.drop k) s:=by
  intro m
  induction m with
  |zero=>
   intro n s k hm hk hn
   cases n with
   |zero=>omega
   |succ n=>
    have:k=xs.length:=by omega
    subst this
    rw[agG,kW,iter,he]
    cases fin s<;>rfl
  |succ m ih=>
   intro n s k hm hk hn
   cases n with
   |zero=>omega
   |succ n=>
    have hlt:k<xs.length:=by omega
    rw[ae0 hlt,kW,iter,hs k xs[k] s (aa9 hlt) hlt]
    cases hb:body s xs[k] with
    |none=>rfl
    |some o=>
     cases o with
     |done r=>rfl
     |next s'=>exact ih n s' (k+1) oaa oaa oaa
 have:=key (xs.length-0) FU s0 0 rfl (ac7 _) (by have:=gH;omega)
 simp_all
theorem bB(xs:List α)(k:Nat):ix xs (k:Int)=xs[k]?:=by simp[ix,leB]
theorem bN{n:Int}(h: -9223372036854775808<=n/\n<=9223372036854775807):WR n=n:=MN h
theorem pA(h:k<9223372036854775807):WR ((k:Int)+1)=((k+1:Nat):Int):=by rw[bN oaa];omega
theorem WRs(h:k<9223372036854775807:=by omega):WR ((k:Int)+1)=((k+1:Nat):Int):=pA h
theorem rt{p:Prop}(h:p:=by first|rfl|trivial):p:=h
theorem cy{a b:Nat}(h:a<b):ltB (a:Int) (b:Int)=true:=by simp[ltB,h]
theorem bK(a:Int):ltB a a=false:=by simp[ltB]
theorem bj(a:Int):eqB a a=true:=by simp[eqB]
theorem Vd{step:Int×List β->Option (cj (Int×List β) (List β))}(f:α->β)(z:β)(xs:List α)(hl:xs.length<=9223372036854775806)(hs:∀(k:Nat) (x:α) (v:List β),xs[k]?=ς x->v.length=xs.length->step ((k:Int),v)=ς (.next (((k+1:Nat):Int),v.set k (f x))))(he:∀v,step ((xs.length:Nat),v)=ς (.done v)):iter step FU (0,ab3 xs.length z)=ς (xs.map f):=by
 have key:∀(m n:Nat) (k:Nat),m=xs.length-k->k<=xs.length->m<n->iter step n ((k:Int),(xs.take k).map f++ab3 (xs.length-k) z)=ς (xs.map f):=by
  intro m
  induction m with
  |zero=>
   intro n k hm hk hn
   cases n with
   |zero=>omega
   |succ n=>
    have:k=xs.length:=by omega
    subst this
    rw[iter,he]
    simp
  |succ m ih=>
   intro n k hm hk hn
   cases n with
   |zero=>omega
   |succ n=>
    have hlt:k<xs.length:=by omega
    rw[iter,hs k xs[k] _ (aa9 hlt) (by simp;omega)]
    have e:((xs.take k).map f++ab3 (xs.length-k) z).set k (f xs[k])=(xs.take (k+1)).map f++ab3 (xs.length-(k+1)) z:=by
     apply af8
     intro j
     rw[afE]
     by_cases hj:k=j
     .grind
     grind
    grind
 have:=key (xs.length-0) FU 0 rfl (ac7 _) (by have:=gH;omega)
 simp_all
attribute [local simp] bK bj bB
def okL(ok:α->Prop)(xs:List α):Prop:=xs.length<=1048576/\∀x∈xs,ok x
def preL(pre:α->Prop)(xs:List α):Prop:=xs.length<=9223372036854775807/\∀x∈xs,pre x
theorem Ha{α ρ:Type}{body:Unit->α->Option (cj Unit ρ)}{fin:Unit->Option ρ}:∀(xs:List α),(∀x∈xs,body () x=ς (.next ()))->kW body fin xs ()=fin ()
 |[],_=>rfl
 |x::xs,h=>by rw[kW,h x (by simp)];exact Ha xs (λy hy=>h y (by simp[hy]))
theorem lt0_t{r:Int}(h:r<0):ltB r 0=true:=by simp[ltB,h]
theorem lt0_f{r:Int}(h:0<=r):ltB r 0=false:=by simp_all
def uQ(by_:Nat)(p:α->Bool)(f:α->β)(acc:List β)(x:α):Option (cj (List β) (List β)):=
 bif p x then(bif da by_ (acc++[f x]).length then ς (.next (acc++[f x])) else ξ) else ς (.next acc)
theorem vO{α β:Type}{by_:Nat}(hb:by_<=100000)(p:α->Bool)(f:α->β):∀(xs:List α) (acc:List β),acc.length+xs.length<=1048576->kW (uQ by_ p f) ς xs acc=ς (acc++(xs.filter p).map f)
 |[],acc,h=>by simp[kW]
 |x::xs,acc,h=>by
  simp only[aee] at h
  rw[kW]
  cases hp:p x with
  |false=>
   rw[List.filter_cons_of_neg (by simp[hp])]
   simpa [uQ,hp] using vO hb p f xs acc oaa
  |true=>
   have ha:da by_ (acc++[f x]).length=true:=by
    have h1:(acc++[f x]).length*by_<=1048577*100000:=agr (by simp;omega) hb
    simp only[da,decide_eq_true_eq]
    refine⟨by omega,by simp;omega⟩
   rw[List.filter_cons_of_pos (by simp[hp])]
   simp only[uQ,hp,ha,cond_true]
   rw[vO hb p f xs (acc++[f x]) (by simp;omega)]
   simp
theorem cE{by_ n:Nat}(hb:by_<=100000)(hn:n<=1048577):da by_ n=true:=by
 have h1:n*by_<=1048577*100000:=agr hn hb
 simp only[da,decide_eq_true_eq]
 omega
def xJ(n:Int):Prop:=0<=n/\n<=255
theorem wf_u8{n:Int}(h:(Lit.int .u8 n).wf=ζ):xJ n:=by
 simp[Lit.wf,IntKind.min,IntKind.max,IntKind.signed,IntKind.bits] at h
 exact⟨by omega,by omega⟩
theorem xz{L:Int->Option (cj Int Int)}(xs:List α)(p:α->Bool)(hl:xs.length<=9223372036854775806)(hs:∀(k:Nat) (x:α),xs[k]?=ς x->k<xs.length->L (k:Int)=bif p x then ς (.done (k:Int)) else ς (.next ((k+1:Nat):Int)))(he:L (xs.length:Int)=ς (.done (-1))):
 iter L FU 0=ς (qd p 0 xs):=by
 have key:∀(m n:Nat) (k:Nat),m=xs.length-k->k<=xs.length->m<n->iter L n (k:Int)=ς (qd p k (xs.drop k)):=by
  intro m
  induction m with
  |zero=>
   intro n k hm hk hn
   cases n with
   |zero=>omega
   |succ n=>
    have:k=xs.length:=by omega
    subst this
    rw[iter,he,agG,qd]
  |succ m ih=>
   intro n k hm hk hn
   cases n with
   |zero=>omega
   |succ n=>
    have hlt:k<xs.length:=by omega
    rw[iter,hs k xs[k] (aa9 hlt) hlt,YQ hlt]
    cases p xs[k] with
    |true=>rfl
    |false=>grind
 have:=key (xs.length-0) FU 0 rfl (ac7 _) (by have:=gH;omega)
 simp_all
theorem Ex{α:Type}(p:α->Bool):∀(xs:List α) (i:Nat),qd p (i:Int) xs= -1/\(∀x∈xs,p x=η)\/∃j:Nat,qd p (i:Int) xs=((i+j:Nat):Int)/\∃x,xs[j]?=ς x/\p x=ζ/\∀y∈xs.take j,p y=η
 |[],i=>.inl ⟨rfl,by simp⟩
 |x::xs,i=>by
  rw[qd]
  cases hp:p x with
  |true=>exact .inr ⟨0,by simp,x,rfl,hp,by simp⟩
  |false=>
   rcases Ex p xs (i+1) with⟨h1,h2⟩|⟨j,h1,y,h2,h3,h4⟩
   .simp_all
   refine .inr ⟨j+1,?_,y,by simp_all,h3,by simp_all⟩
   grind
theorem M5{L:Int->Option (cj Int Bool)}(xs:List α)(p:α->Bool)(hl:xs.length<=9223372036854775806)(hs:∀(k:Nat) (x:α),xs[k]?=ς x->k<xs.length->L (k:Int)=bif p x then ς (.done ζ) else ς (.next ((k+1:Nat):Int)))(he:L (xs.length:Int)=ς (.done η)):
 iter L FU 0=ς (xs.any p):=by
 have:=eR (step:=L) xs (λk (_:Unit)=>(k:Int)) (λ_ x=>bif p x then ς (.done ζ) else ς (.next ())) (λ_=>ς η) hl
  (λk x s hx hk=>by simp_all) (λs=>by rw[he];rfl) ()
 refine Eq.trans (show iter L FU 0=_ from this) ?_
 have key:∀xs:List α,kW (λ(_:Unit) x=>bif p x then ς (cj.done ζ) else ς (.next ())) (λ_=>ς η) xs ()=ς (xs.any p):=by
  intro xs
  induction xs with
  |nil=>rfl
  |cons x xs ih=>rw[kW];grind
 exact key xs
theorem Xs{L:Int->Option (cj Int Bool)}(xs:List α)(p:α->Bool)(hl:xs.length<=9223372036854775806)(hs:∀(k:Nat) (x:α),xs[k]?=ς x->k<xs.length->L (k:Int)=bif p x then ς (.next ((k+1:Nat):Int)) else ς (.done η))(he:L (xs.length:Int)=ς (.done ζ)):
 iter L FU 0=ς (xs.all p):=by
 have:=eR (step:=L) xs (λk (_:Unit)=>(k:Int)) (λ_ x=>bif p x then ς (.next ()) else ς (.done η)) (λ_=>ς ζ) hl
  (λk x s hx hk=>by simp_all) (λs=>by rw[he];rfl) ()
 refine Eq.trans (show iter L FU 0=_ from this) ?_
 have key:∀xs:List α,kW (λ(_:Unit) x=>bif p x then ς (.next ()) else ς (cj.done η)) (λ_=>ς ζ) xs ()=ς (xs.all p):=by
  intro xs
  induction xs with
  |nil=>rfl
  |cons x xs ih=>rw[kW];grind
 exact key xs
theorem allK{L:Int->Option (cj Int Bool)}(xs:List α)(p:Nat->α->Bool)(c:Option Bool)(hl:xs.length<=9223372036854775806)(hs:∀(k:Nat) (x:α),xs[k]?=ς x->k<xs.length->L (k:Int)=bif p k x then ς (.next ((k+1:Nat):Int)) else ς (.done η))(he:L (xs.length:Int)=dn c):
 iter L FU 0=bif xs.zipIdx.all (λy=>p y.2 y.1) then c else ς false:=by
 have:=eR (step:=L) xs.zipIdx (λk (_:Unit)=>(k:Int)) (λ_ y=>bif p y.2 y.1 then ς (.next ()) else ς (.done η)) (λ_=>c) (by simp_all)
  (λk y s hy hk=>by
   have hk':k<xs.length:=by simpa using hk
   have:y=(xs[k],k):=by rw[aa9 hk] at hy;simpa using hy.symm
   simp_all) (λs=>by simp_all) ()
 refine Eq.trans (show iter L FU 0=_ from this) ?_
 have key:∀ys:List (α×Nat),kW (λ(_:Unit) y=>bif p y.2 y.1 then ς (.next ()) else ς (cj.done η)) (λ_=>c) ys ()=bif ys.all (λy=>p y.2 y.1) then c else ς false:=by
  intro ys
  induction ys with
  |nil=>rfl
  |cons x xs ih=>rw[kW];grind
 exact key _
def inR(n a b:Int):Bool:=leB a n&&leB n b
theorem bE{n a:Int}:inR n a b=ζ↔a<=n/\n<=b:=by simp[inR,leB]
theorem CU{n:Nat}(h:n<=1048576):WR ((n:Int)-1)=(n:Int)-1:=bN oaa
theorem YZ{xs:List α}(h0:0<=i)(h1:i<xs.length):∃x,x∈xs/\ix xs i=ς x:=by
 obtain⟨k,rfl⟩:=Int.eq_ofNat_of_zero_le h0
 have hk:k<xs.length:=by omega
 exact⟨xs[k],agi hk,by rw[bB,aa9 hk]⟩
theorem UC(b:Bool):booB b b=true:=by simp
def rgI(k:IntKind)(n:Int):Prop:=(Lit.int k n).wf=ζ
theorem WT.rg{k:IntKind}{n:Int}(h:WT (.i k) (.i k n)):rgI k n:=by
 cases h with|i h=>exact h
theorem R8{α:Type}{e:List Sh}{f:α->List D}:∀{xs:List α},WTL e (xs.map f)->∀x∈xs,WTs e (f x)
 |[],_,x,hx=>by cases hx
 |y::ys,h,x,hx=>by
  cases h with
  |cons h1 h2=>
   rcases acb.1 hx with rfl|hx
   .exact h1
   exact R8 h2 x hx
theorem WT.rl{e:List Sh}{f:α->List D}{xs:List α}(h:WT (.l e) (.l (xs.map f))):∀x∈xs,WTs e (f x):=by
 cases h with|l hl h=>exact R8 h
def Wp(m:Option α)(Q:α->Prop):Prop:=match m with
 |some a=>Q a
 |none=>False
theorem Wp.ex{m:Option α}{Q:α->Prop}(h:Wp m Q):∃a,m=ς a/\Q a:=by
 cases m with
 |none=>exact h.elim
 |some a=>exact⟨a,rfl,h⟩
theorem Wp.of{m:Option α}{Q:α->Prop}{a:α}(h:m=ς a)(q:Q a):Wp m Q:=by subst h;exact q
theorem Wp.some{α:Type}{a:α}{Q:α->Prop}(h:Q a):Wp (ς a) Q:=h
theorem Wp.bind{m:Option α}{k:α->Option β}{Q:β->Prop}(h:Wp m (λa=>Wp (k a) Q)):Wp (afW m k) Q:=by
 cases m with
 |none=>exact h.elim
 |some a=>exact h
theorem Wp.mono{m:Option α}{P Q:α->Prop}(h:Wp m P)(k:∀a,P a->Q a):Wp m Q:=by
 cases m with
 |none=>exact h.elim
 |some a=>exact k a h
theorem Wp.call{m:Option α}{k:α->Option β}{P:α->Prop}{Q:β->Prop}(h:Wp m P)(hk:∀a,P a->Wp (k a) Q):Wp (afW m k) Q:=Wp.bind (h.mono hk)
theorem Wp.eq{m:Option α}{k:α->Option β}{a:α}{Q:β->Prop}(h:m= .some a)(hk:Wp (k a) Q):Wp (afW m k) Q:=by subst h;exact hk
theorem Wp.cond{b:Bool}{x y:Option α}{Q:α->Prop}(h1:b=ζ->Wp x Q)(h0:b=η->Wp y Q):Wp (bif b then x else y) Q:=by
 cases b
 .exact h0 rfl
 exact h1 rfl
theorem Wp.ok{b:Bool}{x:Option α}{Q:α->Prop}(hb:b=ζ)(h:Wp x Q):Wp (bif b then x else ξ) Q:=by subst hb;exact h
theorem Wp.iter{step:σ->Option (cj σ ρ)}{Q:ρ->Prop}(I:σ->Prop)(μ:σ->Nat)(h:∀x,I x->Wp (step x) (λs=>match s with| .next x'=>I x'/\μ x'<μ x| .done r=>Q r)):
 ∀(n:Nat) (x:σ),I x->μ x<n->Wp (AM.iter step n x) Q
 |0,_,_,h=>by omega
 |n+1,x,hI,hn=>by
  obtain⟨s,e,hs⟩:=(h x hI).ex
  rw[AM.iter,e]
  cases s with
  |next x'=>exact Wp.iter I μ h n x' hs.1 (by have:=hs.2;omega)
  |done r=>exact hs
theorem Wp.iterF{step:σ->Option (cj σ ρ)}{Q:ρ->Prop}(I:σ->Prop)(μ:σ->Nat){x:σ}(hI:I x)(hn:μ x<=1000000000000)(h:∀x,I x->Wp (step x) (λs=>match s with| .next x'=>I x'/\μ x'<μ x| .done r=>Q r)):Wp (AM.iter step FU x) Q:=
 Wp.iter I μ h FU x hI (by have:=gH;omega)
theorem Wp.dn{m:Option ρ}{Q:cj σ ρ->Prop}(h:Wp m (λr=>Q (.done r))):Wp (AM.dn m) Q:=by
 cases m with
 |none=>exact h.elim
 |some r=>exact h
theorem Wp.ix{xs:List α}{k:α->Option β}{Q:β->Prop}(h0:0<=i)(h1:i<xs.length)(hk:∀x,x∈xs->xs[i.toNat]?= .some x->Wp (k x) Q):Wp (afW (AM.ix xs i) k) Q:=by
 have hl:i.toNat<xs.length:=by omega
 have hx:xs[i.toNat]?= .some xs[i.toNat]:=aa9 hl
 refine Wp.eq (a:=xs[i.toNat]) ?_ (hk _ (agi hl) hx)
 unfold AM.ix
 rw[show leB 0 i=ζ from by simp[leB,h0]]
 exact hx
theorem kO{a:Int}(h:ltB a b=ζ):a<b:=ltB_t.1 h
theorem ou{a:Int}(h:ltB a b=η):b<=a:=ltB_f.1 h
theorem vK{a:Int}(h:leB a b=ζ):a<=b:=leB_t.1 h
theorem xh{a:Int}(h:leB a b=η):b<a:=leB_f.1 h
theorem gj{a:Int}(h:eqB a b=ζ):a=b:=eqB_t.1 h
theorem Jc{a:Int}(h:eqB a b=η):a≠b:=eqB_f.1 h
theorem gJ{b n:Nat}(h:n*b<=140737488355328)(h':n<=9223372036854775807):da b n=true:=by simp[da,h,h']
def adc(a:fo):Prop:=okL (λ_=>True) a.cY
def gP(a:be):Prop:=okL adc a.bp
def gA(a:ah):Prop:=okL (λ_=>True) a.bh
def u5(a:bI):Prop:=okL (λ_=>True) a.bh
def fE(a:a9):Prop:=okL gA a.aV/\okL u5 a.bv
def ew(a:aA):Prop:=fE a.bm
def eX(a:bR):Prop:=okL (λ_=>True) a.bU
def km(a:bk):Prop:=okL gA a.aJ
def d7(a:ag):Prop:=eX a.gI/\okL u5 a.aC/\km a.ax
def iO(a:av):Prop:=okL (λ_=>True) a.aD
def wi(a:bF):Prop:=okL (λ_=>True) a.bh
def qk(a:aF):Prop:=wi a.bO
def lU(a:bg):Prop:=qk a.bV
def js(a:ab):Prop:=gP a.cp/\okL ew a.aj/\okL d7 a.an/\okL iO a.aT/\okL lU a.aH
open Go.Proofs
def iI(p:Nat->α->Bool)(xs:List α):Bool:=xs.zipIdx.all (λy=>p y.2 y.1)
theorem eN{p:Nat->α->Bool}{xs:List α}:iI p xs=ζ↔∀(k:Nat) (x:α),xs[k]?=ς x->p k x=true:=by
 unfold iI
 rw[acf]
 constructor
 .intro h k x hx
  exact h (x,k) (by grind)
 grind
theorem PQ{p q:Nat->α->Bool}{xs:List α}(h:∀(k:Nat) (x:α),xs[k]?=ς x->p k x=q k x):iI p xs=iI q xs:=by
 rw[af0,eN,eN]
 simp_all
theorem M3{p q:Nat->α->Bool}{xs:List α}:(iI p xs&&iI q xs)=iI (λk x=>p k x&&q k x) xs:=by
 rw[af0,v0,eN,eN,eN]
 grind
theorem uF{p:α->Bool}{xs:List α}:iI (λ_ x=>p x) xs=xs.all p:=by
 rw[af0,eN,acf]
 constructor
 .intro h x hx
  obtain⟨k,hk,rfl⟩:=List.getElem_of_mem hx
  exact h k _ (aa9 hk)
 grind
theorem fL{L:Int->Option (cj Int Bool)}(xs:List α)(p:Nat->α->Bool)(c:Option Bool)(hl:xs.length<=9223372036854775806)(hs:∀(k:Nat) (x:α),xs[k]?=ς x->k<xs.length->L (k:Int)=bif p k x then ς (.next ((k+1:Nat):Int)) else ς (.done η))(he:L (xs.length:Int)=dn c):
 iter L FU 0=bif iI p xs then c else ς false:=allK xs p c hl hs he
theorem yK{xs:List α}(hk:k<xs.length)(h0:0<k)(hl:xs.length<=9223372036854775806):∃y,xs[k-1]?=ς y/\ix xs (WR ((k:Int)-1))=ς y:=by
 have h1:k-1<xs.length:=by omega
 refine⟨xs[k-1],aa9 h1,?_⟩
 rw[bN oaa,show((k:Int)-1)=((k-1:Nat):Int) from by omega,bB,aa9 h1]
def kQ(key:α->Int)(xs:List α)(k:Nat)(x:α):Bool:=match k with
 |0=>ζ
 |j+1=>match xs[j]? with
  |some y=>!leB (key x) (key y)
  |none=>η
def asc(xs:List Int):Bool:=iI (kQ id xs) xs
theorem gE(a b c:Int):bW a b c=ς (inR a b c):=by
 unfold bW inR
 grind
theorem fQ(a b c:Int):dt a b c=ς (inR a b c):=by
 unfold dt inR
 grind
theorem SS{xs:List Int}(h:xs.length<=1048576):qf xs=ς (asc xs):=by
 have key:∀(n m:Nat) (j:Nat),j+n=xs.length->1<=j->n<m->∃b,iter (lE xs) m (j:Int)=ς b/\(b=ζ↔∀k x,j<=k->xs[k]?=ς x->kQ id xs k x=ζ):=by
  intro n
  induction n with
  |zero=>
   intro m j hj h1 hm
   cases m with
   |zero=>omega
   |succ m=>
    simp only[iter,lE]
    simp_all
  |succ n ih=>
   intro m j hj h1 hm
   cases m with
   |zero=>omega
   |succ m=>
    have hjl:j<xs.length:=by omega
    obtain⟨y,hy,hi⟩:=yK hjl oaa oaa
    simp only[iter,lE]
    rw[cy hjl,hi,bB,aa9 hjl]
    simp only[au]
    obtain⟨i,rfl⟩:∃i,j=i+1:=⟨j-1,by omega⟩
    simp only[agb] at hy
    cases hle:leB xs[i+1] y with
    |true=>
     refine⟨η,rfl,(λh=>by cases h),λhh=>?_⟩
     have:=hh (i+1) _ (acA _) (aa9 hjl)
     simp[kQ,hy,hle] at this
    |false=>
     simp only[cond_false]
     rw[WRs (k:=i+1)]
     obtain⟨b,hb,hi⟩:=ih m (i+1+1) oaa oaa oaa
     refine⟨b,hb,hi.trans ⟨λhh k x hk hx=>?_,λhh k x hk hx=>hh k x oaa hx⟩⟩
     by_cases e:k=i+1
     .subst e
      rw[aa9 hjl] at hx;cases hx
      simp[kQ,hy,hle]
     grind
 unfold qf
 cases hx:xs with
 |nil=>
  have:FU=(FU-1)+1:=by have:=gH;omega
  rw[this,iter]
  simp[lE,dn,ltB,asc,iI]
 |cons a l=>
  rw[<-hx]
  obtain⟨b,hb,hi⟩:=key (xs.length-1) FU 1 (by grind) (acA _) (by have:=gH;omega)
  rw[show(1:Int)=((1:Nat):Int) from rfl,hb]
  congr 1
  rw[af0,hi,asc,eN]
  constructor
  .intro hh k x hk
   cases k with
   |zero=>rfl
   |succ k=>simp_all
  simp_all
def o7(k:Int):Bool:=inR k 1 2147483646
theorem N4(k:Int):ip k=ς (o7 k):=by simp only[ip,gE,afY,o7]
theorem N5(k:Int):jg k=ς (o7 k):=by simp only[jg,fQ,afY,o7]
def RI(x:dH):Bool:=inR x.eF 0 3&&inR x.bP 0 99
theorem sid_i(x:dH):it x=ς (RI x):=by
 simp only[it,gE,afY,RI];grind
theorem sid_s(x:dH):iw x=ς (RI x):=by
 simp only[iw,fQ,afY,RI];grind
def ye(x:mw):Bool:=RI x.ID&&(o7 x.eV&&inR x.dh 0 999999)
theorem aa4(x:mw):pM x=ς (ye x):=by
 simp only[pM,sid_i,N4,gE,afY,ye];grind
theorem aa5(x:mw):qw x=ς (ye x):=by
 simp only[qw,sid_s,N5,fQ,afY,ye];grind
def vN(x:a8):Bool:=RI x.ID&&(o7 x.eV&&inR x.cH 0 999999)
theorem rec_i(x:a8):fP x=ς (vN x):=by
 simp only[fP,sid_i,N4,gE,afY,vN];grind
theorem Z2(x:a8):fc x=ς (vN x):=by
 simp only[fc,sid_s,N5,fQ,afY,vN];grind
def lv(x:cm):Bool:=inR x.fF 0 2&&(inR x.dJ 0 4&&inR x.dy 0 3)
theorem ZN(x:cm):pL x=ς (lv x):=by
 simp only[pL,gE,afY,lv];grind
theorem ZO(x:cm):qv x=ς (lv x):=by
 simp only[qv,fQ,afY,lv];grind
def kT(x:bQ):Bool:=inR x.fU 1 6&&inR x.fZ 0 (WR ((nO .i64 1 x.fU)-1))
theorem Md(x:bQ):kY x=ς (kT x):=by
 simp only[kY,gE,afY,kT]
 cases h:inR x.fU 1 6 with
 |false=>rfl
 |true=>rw[show leB 0 x.fU=ζ from by rw[bE] at h;simp[leB];omega];rfl
theorem QS(x:bQ):nB x=ς (kT x):=by
 simp only[nB,fQ,afY,kT]
 cases h:inR x.fU 1 6 with
 |false=>rfl
 |true=>rw[show leB 0 x.fU=ζ from by rw[bE] at h;simp[leB];omega];rfl
def mZ(x:cW):Bool:=leB 0 x.aO&&(leB 0 x.d6&&(leB x.d6 x.cG&&leB x.cG 100000))
theorem F9(x:cW):kh x=ς (mZ x):=by
 simp only[kh,afY,mZ];grind
theorem DE(x:cW):jh x=ς (mZ x):=by
 have:mZ x=(leB 0 x.aO&&(inR x.cG 0 100000&&inR x.d6 0 x.cG)):=by
  rw[af0];simp[mZ,inR,leB];omega
 rw[this]
 simp only[jh,fQ,afY];grind
def zJ(n:Nat):Bool:=!ltB 60 (n:Int)
def D7(xs:List bI):Bool:=xs.all λx=>zJ x.bh.length
theorem fit_i{xs:List bI}(h:xs.length<=1048576):wc xs=ς (D7 xs):=
 Xs xs (λx=>zJ x.bh.length) oaa (λk x hx hk=>by
  simp only[uU,cy hk,bB,hx,WRs (k:=k),zJ,au]
  simp_all) (by simp[uU,dn])
def DC(r:a9)(k:Nat)(x:ah):Bool:=inR x.cH (WR (r.bw+1)) (WR (WR (r.bw+8)-1))&&(kQ ah.cH r.aV k x&&zJ x.bh.length)
def qQ(r:a9):Bool:=eqB r.bw (WR ((r.bv.length:Int)+1))&&(leB (r.bv.length:Int) 24&&(D7 r.bv&&(leB (r.aV.length:Int) 8&&iI (DC r) r.aV)))
theorem uW(a b:Int):ltB a b=!leB b a:=by rw[af0];simp_all
theorem Z5(h1:r.bv.length<=1048576)(h2:r.aV.length<=1048576):kB r=ς (qQ r):=by
 have hL:iter (ku r) FU 0=bif iI (DC r) r.aV then ς ζ else ς false:=by
  refine fL r.aV (DC r) (ς ζ) oaa (λk x hx hk=>?_) (by simp[ku])
  simp only[ku,cy hk,bB,hx,WRs (k:=k),gE,DC,zJ,au]
  cases k with
  |zero=>
   simp only[kQ,show ltB 0 ((0:Nat):Int)=η from by simp[ltB]]
   cases ltB 60 (x.bh.length:Int)<;>cases inR x.cH (WR (r.bw+1)) (WR (WR (r.bw+8)-1))<;>rfl
  |succ k=>
   obtain⟨y,hy,hi⟩:=yK hk oaa oaa
   simp only[agb] at hy
   simp only[kQ,hy,hi,show ltB 0 ((k+1:Nat):Int)=ζ from by simp[ltB],afY]
   cases ltB 60 (x.bh.length:Int)<;>cases inR x.cH (WR (r.bw+1)) (WR (WR (r.bw+8)-1))<;>cases leB x.cH y.cH<;>rfl
 simp only[kB,fit_i h1,afY,hL,qQ,uW 24,uW 8]
 grind
theorem Z6(h1:r.bv.length<=1048576)(h2:r.aV.length<=1048576):kG r=ς (qQ r):=by
 have hF:iter (iV r) FU 0=bif iI (λ_ x=>zJ x.bh.length) r.bv then ς (eqB r.bw (WR ((r.bv.length:Int)+1))&&(leB (r.bv.length:Int) 24&&leB (r.aV.length:Int) 8)) else ς false:=by
  refine fL r.bv (λ_ x=>zJ x.bh.length) _ oaa (λk x hx hk=>?_) ?_
  .simp only[iV,cy hk,bB,hx,WRs (k:=k),zJ,au]
   simp_all
  simp only[iV,bK,cond_false]
  grind
 have hL:iter (kw r) FU 0=bif iI (DC r) r.aV then iter (iV r) FU 0 else ς false:=by
  refine fL r.aV (DC r) _ oaa (λk x hx hk=>?_) (by simp[kw])
  simp only[kw,cy hk,bB,hx,WRs (k:=k),fQ,DC,zJ,au]
  cases k with
  |zero=>
   simp only[kQ,show ltB 0 ((0:Nat):Int)=η from by simp[ltB]]
   cases ltB 60 (x.bh.length:Int)<;>cases inR x.cH (WR (r.bw+1)) (WR (WR (r.bw+8)-1))<;>rfl
  |succ k=>
   obtain⟨y,hy,hi⟩:=yK hk oaa oaa
   simp only[agb] at hy
   simp only[kQ,hy,hi,show ltB 0 ((k+1:Nat):Int)=ζ from by simp[ltB],afY]
   cases ltB 60 (x.bh.length:Int)<;>cases inR x.cH (WR (r.bw+1)) (WR (WR (r.bw+8)-1))<;>cases leB x.cH y.cH<;>rfl
 rw[uF] at hF
 simp only[kG,hL,hF,qQ,D7]
 grind
def nJ(d:aA):Bool:=ye d.dq&&(inR d.aX 0 3&&(inR d.aS 0 5&&(inR d.ae 0 999999&&(inR d.aK 0 999999&&(inR d.aZ 0 2147483646&&((!inR d.aX 2 3||o7 d.aZ)&&(inR d.dy 0 3&&qQ d.bm)))))))
theorem st23(n:Int):inR n 2 3=(eqB n 2||eqB n 3):=by rw[af0];simp[inR,leB,eqB];omega
theorem X1{d:aA}(h1:d.bm.bv.length<=1048576)(h2:d.bm.aV.length<=1048576):pI d=ς (nJ d):=by
 simp only[pI,aa4,gE,N4,Z5 h1 h2,afY,nJ,st23]
 grind
theorem X2{d:aA}(h1:d.bm.bv.length<=1048576)(h2:d.bm.aV.length<=1048576):qr d=ς (nJ d):=by
 simp only[qr,aa5,fQ,N5,Z6 h1 h2,afY,nJ]
 grind
theorem xA{α:Type}{step:Int×Int->Option (cj (Int×Int) Int)}(xs:List α)(f:Int->α->Int)(hl:xs.length<=9223372036854775806)(hs:∀(k:Nat) (x:α) (a:Int),xs[k]?=ς x->k<xs.length->step (a,(k:Int))=ς (.next (f a x,((k+1:Nat):Int))))(he:∀a,step (a,(xs.length:Int))=ς (.done a))(a0:Int):
 iter step FU (a0,0)=ς (xs.foldl f a0):=by
 have:=eR (step:=step) xs (λk (v:Int)=>(v,(k:Int))) (λv x=>ς (.next (f v x))) ς hl
  (λk x s hx hk=>by simp_all) (λs=>by rw[he];rfl) a0
 refine Eq.trans (show iter step FU (a0,0)=_ from this) ?_
 clear this he hs
 induction xs generalizing a0 with
 |nil=>rfl
 |cons x xs ih=>rw[kW,agm];grind
def Ax(xs:List ah):Int:=xs.foldl (λa x=>WR (a+(x.bh.length:Int))) 0
theorem nb_i{xs:List ah}(h:xs.length<=1048576):qg xs=ς (Ax xs):=by
 unfold qg
 rw[xA xs (λa x=>WR (a+(x.bh.length:Int))) oaa (λk x a hx hk=>by
  simp only[qh,cy hk,bB,hx,WRs (k:=k),au]) (λa=>by simp[qh])]
 rfl
theorem nb_s{xs:List ah}(h:xs.length<=1048576):rQ xs=ς (Ax xs):=by
 unfold rQ
 rw[xA xs (λa x=>WR (a+(x.bh.length:Int))) oaa (λk x a hx hk=>by
  simp only[y8,cy hk,bB,hx,WRs (k:=k),au]) (λa=>by simp[y8])]
 rfl
def OD(q:cW):Int:=bif mZ q then WR (q.cG-q.d6) else 0
theorem aaa(q:cW):jG q=ς (OD q):=by simp only[jG,F9,afY,OD];grind
theorem aab(q:cW):jI q=ς (OD q):=by simp only[jI,DE,afY,OD];grind
def EG(p:bR):Bool:=inR p.m9 1 1000&&(inR p.m0 1 4&&inR p.d4 1 100000)
def qR(p:bR):Bool:=EG p&&iI (λk x=>inR x 0 3&&kQ id p.bU k x) p.bU
theorem subs_i{p:bR}(h:eX p):jN p=ς (qR p):=by
 have hl:=h.1
 have hL:iter (iB p) FU 0=bif iI (λ_ x=>inR x 0 3) p.bU then ς (asc p.bU) else ς false:=by
  refine fL p.bU (λ_ x=>inR x 0 3) _ oaa (λk x hx hk=>?_) (by simp[iB,SS hl])
  simp only[iB,cy hk,bB,hx,WRs (k:=k),gE,au]
  cases inR x 0 3<;>rfl
 simp only[jN,gE,afY,hL,qR,EG,<-M3,asc]
 grind
theorem aaO{p:bR}(h:eX p):iy p=ς (qR p):=by
 have hl:=h.1
 have hL:iter (iH p) FU 0=bif iI (λk x=>inR x 0 3&&kQ id p.bU k x) p.bU then ς (EG p) else ς false:=by
  refine fL p.bU _ _ oaa (λk x hx hk=>?_) ?_
  .simp only[iH,cy hk,bB,hx,WRs (k:=k),fQ,au]
   cases k with
   |zero=>
    simp only[kQ,show ltB 0 ((0:Nat):Int)=η from by simp[ltB]]
    cases inR x 0 3<;>rfl
   |succ k=>
    obtain⟨y,hy,hi⟩:=yK hk oaa oaa
    simp only[agb] at hy
    simp only[kQ,hy,hi,hx,bB,show ltB 0 ((k+1:Nat):Int)=ζ from by simp[ltB],afY,id]
    cases inR x 0 3<;>cases leB x y<;>rfl
  simp only[iH,bK,fQ,EG,au]
  grind
 simp only[iy,hL,qR]
 grind
def unB(w:bk)(k:Nat)(x:ah):Bool:=eqB x.cH (WR (WR (w.bw-(w.aJ.length:Int))+(k:Int)))&&zJ x.bh.length
def lx(w:bk):Bool:=inR w.bw 1 100000&&(leB (w.aJ.length:Int) 8&&(leB 1 (WR (w.bw-(w.aJ.length:Int)))&&iI (unB w) w.aJ))
theorem OU(h:km w):mD w=ς (lx w):=by
 have hl:=h.1
 have hL:iter (mb w) FU 0=bif iI (unB w) w.aJ then ς ζ else ς false:=by
  refine fL w.aJ (unB w) _ oaa (λk x hx hk=>?_) (by simp[mb])
  simp only[mb,cy hk,bB,hx,WRs (k:=k),unB,zJ,au]
  cases eqB x.cH (WR (WR (w.bw-(w.aJ.length:Int))+(k:Int)))<;>cases ltB 60 (x.bh.length:Int)<;>rfl
 simp only[mD,gE,afY,hL,lx,uW]
 grind
theorem OV(h:km w):mP w=ς (lx w):=by
 have hl:=h.1
 have hL:iter (mn w) FU 0=bif iI (unB w) w.aJ then ς (inR w.bw 1 100000&&(leB (w.aJ.length:Int) 8&&leB 1 (WR (w.bw-(w.aJ.length:Int))))) else ς false:=by
  refine fL w.aJ (unB w) _ oaa (λk x hx hk=>?_) ?_
  .simp only[mn,cy hk,bB,hx,WRs (k:=k),unB,zJ,au]
   cases eqB x.cH (WR (WR (w.bw-(w.aJ.length:Int))+(k:Int)))<;>cases ltB 60 (x.bh.length:Int)<;>rfl
  simp only[mn,bK,fQ,au]
  grind
 simp only[mP,hL,lx]
 grind
def OR(a b:List Int):Bool:=strB (zH a) (zH b)
theorem eqb_i(a b:List Int):vS a b=ς (OR a b):=rfl
theorem eqb_s(a b:List Int):sW a b=ς (OR a b):=rfl
def EY(s:ag)(x:ah):Bool:=match s.aC[(x.cH-1).toNat]? with
 |some y=>OR x.bh y.bh
 |none=>η
def oR(s:ag):Bool:=leB (s.aC.length:Int) 24&&(D7 s.aC&&(lx s.ax&&leB s.ax.bw (WR ((s.aC.length:Int)+1))))
def wk(s:ag):Bool:=leB (Ax s.ax.aJ) (OD s.bG)
def Hw(s:ag):Bool:=(!eqB s.aX 1||o7 s.aZ)&&(!ltB 0 s.bA||o7 s.aV.eV)
def kK(s:ag):Bool:=vN s.bD&&(qR s.gI&&(lv s.et&&(lx s.ax&&(mZ s.bG&&(inR s.aX 0 1&&(Hw s&&(inR s.bA 0 999999&&(inR s.ae 0 999999&&(inR s.aK 0 999999&&(inR s.aZ 0 2147483646&&
 (inR s.aS 0 5&&(inR s.cP 0 5&&(inR s.cF 0 3&&(leB (s.aC.length:Int) 24&&(D7 s.aC&&(leB s.ax.bw (WR ((s.aC.length:Int)+1))&&(s.ax.aJ.all (EY s)&&wk s)))))))))))))))))
theorem un_ix(hs:oR s=ζ)(hx:s.ax.aJ[k]?=ς x):∃y,ix s.aC (WR (x.cH-1))=ς y/\s.aC[(x.cH-1).toNat]?=ς y:=by
 simp only[oR,lx,v0,eN,bE] at hs
 obtain⟨h1,h2,⟨⟨h3,h3'⟩,h4,h5,h6⟩,h7⟩:=hs
 have hk:=(abb.1 hx).1
 have h8:=h6 k x hx
 simp only[unB,v0] at h8
 have h4':(s.ax.aJ.length:Int)<=8:=by simpa [leB] using h4
 have h1':(s.aC.length:Int)<=24:=by simpa [leB] using h1
 rw[bN oaa] at h5
 rw[bN oaa] at h7
 have h9:=h8.1
 rw[bN (n:=s.ax.bw-_) oaa,bN oaa] at h9
 have h9':x.cH=s.ax.bw-s.ax.aJ.length+k:=by simpa [eqB] using h9
 have h5':1<=s.ax.bw-(s.ax.aJ.length:Int):=by simpa [leB] using h5
 have h7':s.ax.bw<=(s.aC.length:Int)+1:=by simpa [leB] using h7
 have hlt:(x.cH-1).toNat<s.aC.length:=by omega
 refine⟨s.aC[(x.cH-1).toNat],?_,aa9 hlt⟩
 have hm:x.cH-1=(((x.cH-1).toNat:Nat):Int):=by omega
 rw[bN oaa]
 simp_all
theorem tail_i(h:d7 s)(hs:oR s=ζ):iter (gN s) FU 0=ς (s.ax.aJ.all (EY s)&&wk s):=by
 have hl:=h.2.2.1
 have:=fL (L:=gN s) s.ax.aJ (λ_ x=>EY s x) (ς (wk s)) oaa (λk x hx hk=>by
  obtain⟨y,h1,h2⟩:=un_ix hs hx
  simp only[gN,cy hk,bB,hx,h1,eqb_i,WRs (k:=k),EY,h2,au]
  simp_all) (by simp[gN,jO,nb_i hl,aaa,wk])
 rw[this,uF]
 grind
theorem tail_s(h:d7 s)(hs:oR s=ζ):iter (lW s) FU 0=ς (s.ax.aJ.all (EY s)&&wk s):=by
 have hl:=h.2.2.1
 have:=fL (L:=lW s) s.ax.aJ (λ_ x=>EY s x) (ς (wk s)) oaa (λk x hx hk=>by
  obtain⟨y,h1,h2⟩:=un_ix hs hx
  simp only[lW,cy hk,bB,hx,h1,eqb_s,WRs (k:=k),EY,h2,au]
  simp_all) (by simp[lW,nb_s hl,aab,wk])
 rw[this,uF]
 grind
theorem aaN(h:d7 s):zf s=ς (oR s&&(s.ax.aJ.all (EY s)&&wk s)):=by
 have hl:=h.2.1.1
 have hL:=fL (L:=sE s) s.aC (λ_ x=>zJ x.bh.length) (bif leB (s.aC.length:Int) 24&&(lx s.ax&&leB s.ax.bw (WR ((s.aC.length:Int)+1))) then iter (lW s) FU 0 else ς η) oaa (λk x hx hk=>by
  simp only[sE,cy hk,bB,hx,WRs (k:=k),zJ,au]
  simp_all) (by
  simp only[sE,bK,OV h.2.2,uW,au]
  grind)
 rw[uF] at hL
 unfold zf
 rw[hL]
 cases hs:oR s with
 |true=>
  rw[tail_s h hs]
  simp only[oR,D7,v0] at hs
  grind
 |false=>
  have:(leB (s.aC.length:Int) 24&&(lx s.ax&&leB s.ax.bw (WR ((s.aC.length:Int)+1))))=η\/(s.aC.all λx=>zJ x.bh.length)=false:=by
   simp only[oR,D7] at hs
   revert hs
   cases leB (s.aC.length:Int) 24<;>cases lx s.ax<;>cases leB s.ax.bw (WR ((s.aC.length:Int)+1))<;>cases(s.aC.all λx=>zJ x.bh.length)<;>simp
  grind
theorem st01(n:Int):inR n 0 1=(eqB n 0||eqB n 1):=by rw[af0];simp[inR,leB,eqB];omega
theorem ET(h:d7 s):jF s=ς (kK s):=by
 have hz:=λhs=>tail_i h hs
 simp only[jF,rec_i,subs_i h.1,ZN,OU h.2.2,F9,N4,gE,fit_i h.2.1.1,afY,kK,Hw,st01,uW 24,uW (WR ((s.aC.length:Int)+1))]
 simp only[oR] at hz
 revert hz
 generalize iter (gN s) FU 0=z
 cases vN s.bD
 .intro _;rfl
 cases qR s.gI
 .intro _;rfl
 cases lv s.et
 .intro _;rfl
 cases lx s.ax
 .intro _;rfl
 cases mZ s.bG
 .intro _;rfl
 cases eqB s.aX 0<;>cases eqB s.aX 1<;>try (intro _;rfl)
 all_goals
  cases o7 s.aZ<;>cases ltB 0 s.bA<;>cases o7 s.aV.eV<;>try (intro _;rfl)
 all_goals
  cases inR s.bA 0 999999<;>cases inR s.ae 0 999999<;>cases inR s.aK 0 999999<;>cases inR s.aZ 0 2147483646<;>try (intro _;rfl)
 all_goals
  cases inR s.aS 0 5<;>cases inR s.cP 0 5<;>cases inR s.cF 0 3<;>try (intro _;rfl)
 all_goals
  cases leB (s.aC.length:Int) 24<;>cases D7 s.aC<;>cases leB s.ax.bw (WR ((s.aC.length:Int)+1))<;>intro hz<;>first|rfl|exact hz rfl
theorem EU(h:d7 s):lL s=ς (kK s):=by
 have:kK s=(inR s.aX 0 1&&(Hw s&&(vN s.bD&&(qR s.gI&&(lv s.et&&(mZ s.bG&&((oR s&&(s.ax.aJ.all (EY s)&&wk s))&&(inR s.bA 0 999999&&(inR s.ae 0 999999&&(inR s.aK 0 999999&&(inR s.aZ 0 2147483646&&(inR s.aS 0 5&&(inR s.cP 0 5&&inR s.cF 0 3))))))))))))):=by
  simp only[kK,oR];ac_rfl
 rw[this]
 simp only[lL,Z2,aaO h.1,ZO,DE,N5,fQ,aaN h,afY,Hw,st01]
 cases eqB s.aX 0<;>cases eqB s.aX 1<;>cases o7 s.aZ<;>cases ltB 0 s.bA<;>cases o7 s.aV.eV<;>try rfl
 all_goals
  cases vN s.bD<;>cases qR s.gI<;>cases lv s.et<;>cases mZ s.bG<;>cases(oR s&&(s.ax.aJ.all (EY s)&&wk s))<;>try rfl
 all_goals
  cases inR s.bA 0 999999<;>cases inR s.ae 0 999999<;>cases inR s.aK 0 999999<;>cases inR s.aZ 0 2147483646<;>try rfl
 all_goals
  cases inR s.aS 0 5<;>cases inR s.cP 0 5<;>rfl
def Wr(a:av):Int:=a.aD.foldl (λs x=>WR (s+x.eo)) 0
theorem totr_i(h:iO a):pV a=ς (Wr a):=by
 have:=h.1
 unfold pV
 rw[xA a.aD (λs x=>WR (s+x.eo)) oaa (λk x s hx hk=>by
  simp only[pY,cy hk,bB,hx,WRs (k:=k),au]) (λs=>by simp[pY])]
 rfl
theorem totr_s(h:iO a):qG a=ς (Wr a):=by
 have:=h.1
 unfold qG
 rw[xA a.aD (λs x=>WR (s+x.eo)) oaa (λk x s hx hk=>by
  simp only[qH,cy hk,bB,hx,WRs (k:=k),au]) (λs=>by simp[qH])]
 rfl
def Jt(a:av)(k:Nat)(x:aU):Bool:=!ltB x.aO 0&&(inR x.eo 1 100000&&kQ aU.aO a.aD k x)
def Wq(a:av):Bool:=eqB (WR (WR (a.bL+a.d9)+Wr a)) a.iA
def mY(a:av):Bool:=inR a.iA 0 100000&&(inR a.bL 0 a.iA&&(inR a.d9 0 a.iA&&(leB (a.aD.length:Int) 8&&(iI (Jt a) a.aD&&Wq a))))
theorem A7(h:iO a):iK a=ς (mY a):=by
 have hl:=h.1
 have hL:iter (kX a) FU 0=bif iI (Jt a) a.aD then ς (Wq a) else ς false:=by
  refine fL a.aD (Jt a) _ oaa (λk x hx hk=>?_) (by simp[kX,totr_i h,Wq])
  simp only[kX,cy hk,bB,hx,WRs (k:=k),gE,Jt,au]
  cases k with
  |zero=>
   simp only[kQ,show ltB 0 ((0:Nat):Int)=η from by simp[ltB]]
   cases ltB x.aO 0<;>cases inR x.eo 1 100000<;>rfl
  |succ k=>
   obtain⟨y,hy,hi⟩:=yK hk oaa oaa
   simp only[agb] at hy
   simp only[kQ,hy,hi,show ltB 0 ((k+1:Nat):Int)=ζ from by simp[ltB],afY]
   cases ltB x.aO 0<;>cases inR x.eo 1 100000<;>cases leB x.aO y.aO<;>rfl
 simp only[iK,gE,afY,hL,mY,uW 8]
 grind
theorem A8(h:iO a):iQ a=ς (mY a):=by
 have hl:=h.1
 have hL:iter (lp a) FU 0=bif iI (Jt a) a.aD then ς (inR a.iA 0 100000&&(inR a.bL 0 a.iA&&(inR a.d9 0 a.iA&&(leB (a.aD.length:Int) 8&&Wq a)))) else ς false:=by
  refine fL a.aD (Jt a) _ oaa (λk x hx hk=>?_) ?_
  .simp only[lp,cy hk,bB,hx,WRs (k:=k),fQ,Jt,au]
   cases k with
   |zero=>
    simp only[kQ,show ltB 0 ((0:Nat):Int)=η from by simp[ltB]]
    cases ltB x.aO 0<;>cases inR x.eo 1 100000<;>rfl
   |succ k=>
    obtain⟨y,hy,hi⟩:=yK hk oaa oaa
    simp only[agb] at hy
    simp only[kQ,hy,hi,hx,bB,show ltB 0 ((k+1:Nat):Int)=ζ from by simp[ltB],afY]
    cases ltB x.aO 0<;>cases inR x.eo 1 100000<;>cases leB x.aO y.aO<;>rfl
  simp only[lp,bK,fQ,totr_s h,Wq,au]
  grind
 simp only[iQ,hL,mY]
 grind
def jE(a:av)(i:Int):Int:=match a.aD.find? (λx=>eqB x.aO i) with
 |some x=>x.eo
 |none=>0
theorem Sx(p:α->Bool)(xs:List α):(qd p 0 xs= -1/\xs.find? p=ξ)\/∃x,ltB (qd p 0 xs) 0=η/\ix xs (qd p 0 xs)=ς x/\xs.find? p=ς x:=by
 rcases Ex p xs 0 with⟨h1,h2⟩|⟨j,h1,x,h2,h3,h4⟩
 .simp_all
 right
 have h1':qd p 0 xs=(j:Int):=by simpa using h1
 refine⟨x,by simp_all,by simp_all,?_⟩
 have hj:=(abb.1 h2)
 rw[List.find?_eq_some_iff_getElem]
 have hjl:=hj.1
 refine⟨h3,j,hjl,hj.2,λi hi=>?_⟩
 have hil:i<xs.length:=Nat.lt_trans hi hjl
 have:xs[i]∈xs.take j:=List.mem_take_iff_getElem.2 ⟨i,by omega,rfl⟩
 simp_all
theorem OG(h:iO a)(i:Int):pT a i=ς (jE a i):=by
 have:=h.1
 have hf:=xz (L:=jQ a i) a.aD (λx=>eqB x.aO i) oaa (λk x hx hk=>by
  simp only[jQ,cy hk,bB,hx,WRs (k:=k),au]
  rfl) (by simp[jQ,dn])
 unfold pT gv jE
 rw[hf]
 rcases Sx (λx:aU=>eqB x.aO i) a.aD with⟨e1,e2⟩|⟨x,e1,e2,e3⟩
 .rw[e1,e2];simp[ltB]
 grind
theorem OH(h:iO a)(i:Int):qE a i=ς (jE a i):=by
 have:=h.1
 have hf:=xz (L:=wF a i) a.aD (λx=>eqB x.aO i) oaa (λk x hx hk=>by
  simp only[wF,cy hk,bB,hx,WRs (k:=k),au]
  rfl) (by simp[wF,dn])
 unfold qE s9 jE
 rw[hf]
 rcases Sx (λx:aU=>eqB x.aO i) a.aD with⟨e1,e2⟩|⟨x,e1,e2,e3⟩
 .rw[e1,e2];simp[ltB]
 grind
def zo(a:av)(q:cW):Bool:=mY a&&(mZ q&&eqB (jE a q.aO) q.cG)
theorem LU(h:iO a)(q:cW):ga a q=ς (zo a q):=by
 simp only[ga,A7 h,F9,OG h,afY,zo];grind
theorem LV(h:iO a)(q:cW):ge a q=ς (zo a q):=by
 simp only[ge,A8 h,DE,OH h,afY,zo];grind
theorem my{L:Int->Option (cj Int ρ)}(xs:List α)(p:Nat->α->Bool)(f:ρ)(c:Option ρ)(hl:xs.length<=9223372036854775806)(hs:∀(k:Nat) (x:α),xs[k]?=ς x->k<xs.length->L (k:Int)=bif p k x then ς (.next ((k+1:Nat):Int)) else ς (.done f))(he:L (xs.length:Int)=dn c):
 iter L FU 0=bif iI p xs then c else ς f:=by
 have:=eR (step:=L) xs.zipIdx (λk (_:Unit)=>(k:Int)) (λ_ y=>bif p y.2 y.1 then ς (.next ()) else ς (.done f)) (λ_=>c) (by simp_all)
  (λk y s hy hk=>by
   have hk':k<xs.length:=by simpa using hk
   have:y=(xs[k],k):=by rw[aa9 hk] at hy;simpa using hy.symm
   simp_all) (λs=>by simp_all) ()
 refine Eq.trans (show iter L FU 0=_ from this) ?_
 have key:∀ys:List (α×Nat),kW (λ(_:Unit) y=>bif p y.2 y.1 then ς (.next ()) else ς (cj.done f)) (λ_=>c) ys ()=bif ys.all (λy=>p y.2 y.1) then c else ς f:=by
  intro ys
  induction ys with
  |nil=>rfl
  |cons x xs ih=>rw[kW];grind
 exact key _
theorem Yz{l:List Int}(h:l.length<=1048576)(v:Int):DW l v=ς (l.any λx=>eqB x v):=
 M5 l (λx=>eqB x v) oaa (λk x hx hk=>by
  simp only[CO,cy hk,bB,hx,WRs (k:=k),au]
  rfl) (by simp[CO,dn])
theorem Yf(a b:Int):eqB a b=eqB b a:=by rw[af0];simp[eqB];exact eq_comm
theorem has_i{l:List Int}(h:l.length<=1048576)(v:Int):gZ l v=ς (l.any λx=>eqB x v):=by
 have hf:=xz (L:=hP l v) l (λx=>eqB x v) oaa (λk x hx hk=>by
  simp only[hP,cy hk,bB,hx,WRs (k:=k),Yf v x,au]
  rfl) (by simp[hP,dn])
 unfold gZ lX
 rw[hf]
 simp only[afY]
 rw[Ht oaa]
def er(m:be)(i:Int):Bool:=inR i 0 ((m.bp.length:Int)-1)
theorem yt(h:m.bp.length<=1048576)(i:Int):mh m i=ς (er m i):=by
 simp only[mh,gE,CU h,afY,er]
def CZ(m:be)(x:Int)(i:Nat):Bool:=match m.bp[x.toNat]? with
 |some d=>d.cY.any λy=>eqB y (i:Int)
 |none=>η
def nbB(m:be)(i:Nat)(ns:List Int)(k:Nat)(x:Int):Bool:=er m x&&(!eqB x (i:Int)&&(kQ id ns k x&&CZ m x i))
def D6(m:be)(i:Nat)(c:fo):Bool:=inR c.fF 0 2&&iI (nbB m i c.cY) c.cY
def qU(m:be):Bool:=inR (m.bp.length:Int) 1 6&&iI (D6 m) m.bp
theorem C6{x:Int}(h:er m x=ζ):∃d,d∈m.bp/\ix m.bp x=ς d/\m.bp[x.toNat]?=ς d:=by
 simp only[er,bE] at h
 have hlt:x.toNat<m.bp.length:=by omega
 refine⟨m.bp[x.toNat],agi hlt,?_,aa9 hlt⟩
 have hm:x=(x.toNat:Int):=by omega
 generalize x.toNat=m at hm hlt ⊢
 simp_all
theorem map_i(h:gP m):vU m=ς (qU m):=by
 have hl:=h.1
 have h2:∀(i:Nat) (c:fo),c∈m.bp->i<m.bp.length->iter (pK m (i:Int) c) FU 0=bif iI (λk x=>!eqB x (i:Int)&&(er m x&&CZ m x i)) c.cY then ς (.next ((i+1:Nat):Int)) else ς (.done η):=by
  intro i c hc hi
  have hn:=(h.2 c hc).1
  refine my c.cY (λk x=>!eqB x (i:Int)&&(er m x&&CZ m x i)) (cj.done η) _ oaa (λk x hx hk=>?_) (by simp[pK,WRs (k:=i)])
  simp only[pK,cy hk,bB,hx,WRs (k:=k),yt hl,xc,au]
  cases eqB x (i:Int) with
  |true=>rfl
  |false=>
   cases hcb:er m x with
   |false=>rfl
   |true=>
    obtain⟨d,d1,d2,d3⟩:=C6 hcb
    simp only[d2,has_i (h.2 d d1).1,CZ,d3,au]
    simp_all
 have hL:iter (pJ m) FU 0=bif iI (D6 m) m.bp then ς ζ else ς false:=by
  refine my m.bp (D6 m) η (ς ζ) oaa (λk x hx hk=>?_) (by simp[pJ])
  have hm:=abl hx
  simp only[pJ,cy hk,bB,hx,gE,SS (h.2 x hm).1,h2 k x hm hk,D6,au]
  have:iI (nbB m k x.cY) x.cY=(asc x.cY&&iI (λj y=>!eqB y (k:Int)&&(er m y&&CZ m y k)) x.cY):=by
   rw[asc,M3]
   exact PQ λj y _=>by simp only[nbB];ac_rfl
  rw[this]
  cases inR x.fF 0 2<;>cases asc x.cY<;>cases iI (λj y=>!eqB y (k:Int)&&(er m y&&CZ m y k)) x.cY<;>rfl
 simp only[vU,gE,afY,hL,qU]
 grind
theorem map_s(h:gP m):sZ m=ς (qU m):=by
 have hl:=h.1
 have h2:∀(i:Nat) (c:fo),c∈m.bp->i<m.bp.length->iter (qt m (i:Int) c) FU 0=bif iI (nbB m i c.cY) c.cY then ς (.next ((i+1:Nat):Int)) else ς (.done η):=by
  intro i c hc hi
  have hn:=(h.2 c hc).1
  refine my c.cY (nbB m i c.cY) (cj.done η) _ oaa (λk x hx hk=>?_) (by simp[qt,WRs (k:=i)])
  simp only[qt,cy hk,bB,hx,WRs (k:=k),fQ,CU hl,nbB,au]
  cases hcb:er m x with
  |false=>rw[show inR x 0 ((m.bp.length:Int)-1)=η from hcb];rfl
  |true=>
   rw[show inR x 0 ((m.bp.length:Int)-1)=ζ from hcb]
   obtain⟨d,d1,d2,d3⟩:=C6 hcb
   cases k with
   |zero=>
    simp only[kQ,show ltB 0 ((0:Nat):Int)=η from by simp[ltB],d2,Yz (h.2 d d1).1,CZ,d3,au]
    cases eqB x (i:Int)<;>cases(d.cY.any λy=>eqB y (i:Int))<;>rfl
   |succ k=>
    obtain⟨y,hy,hi⟩:=yK hk oaa oaa
    simp only[agb] at hy
    simp only[kQ,hy,hi,show ltB 0 ((k+1:Nat):Int)=ζ from by simp[ltB],d2,Yz (h.2 d d1).1,CZ,d3,id,au]
    cases eqB x (i:Int)<;>cases leB x y<;>cases(d.cY.any λy=>eqB y (i:Int))<;>rfl
 have hL:iter (qs m) FU 0=bif iI (D6 m) m.bp then ς (inR (m.bp.length:Int) 1 6) else ς false:=by
  refine my m.bp (D6 m) η _ oaa (λk x hx hk=>?_) (by simp[qs,fQ])
  have hm:=abl hx
  simp only[qs,cy hk,bB,hx,fQ,h2 k x hm hk,D6,au]
  cases inR x.fF 0 2<;>cases iI (nbB m k x.cY) x.cY<;>rfl
 simp only[sZ,hL,qU]
 grind
def Hs(d:aA)(s:ag):Bool:=(eqB d.dq.ID.eF s.bD.ID.eF&&(eqB d.dq.ID.bP s.bD.ID.bP&&ζ))&&eqB d.dq.eV s.bD.eV
def Dv(n:ab)(i:Nat)(d:aA):Bool:=match n.an[i]?,n.aT[i]? with
 |some s,ς a=>nJ d&&(kK s&&(mY a&&(Hs d s&&(er n.cp d.aS&&(er n.cp s.aS&&(eqB s.bG.aO (i:Int)&&zo a s.bG))))))
 |_,_=>η
def flB(n:ab)(f:bg):Bool:=inR f.aY 0 ((n.aj.length:Int)-1)&&er n.cp f.aS
def Co(n:ab):Bool:=inR n.bH 0 (WR ((nO .i64 1 (n.cp.bp.length:Int))-1))&&(inR n.iS 0 100000&&leB 0 n.Lost)
def oG(n:ab):Bool:=qU n.cp&&(kT n.fg&&(!eqB n.fg.fZ 0&&(leB (n.aj.length:Int) 4&&(eqB (n.an.length:Int) (n.aj.length:Int)&&(eqB (n.aT.length:Int) (n.aj.length:Int)&&
 (iI (Dv n) n.aj&&(leB (n.aH.length:Int) 200&&(n.aH.all (flB n)&&Co n))))))))
theorem Sd{x:Int}(h:inR x 0 b=ζ):er m x=ltB x (m.bp.length:Int):=by
 rw[bE] at h
 rw[af0];simp[er,inR,leB,ltB];omega
theorem flt_i(h:js n):iter (jo n) FU 0=ς (n.aH.all (flB n)&&Co n):=by
 have hl:=h.2.2.2.2.1
 have:=fL (L:=jo n) n.aH (λ_ f=>flB n f) (ς (Co n)) oaa (λk x hx hk=>by
  simp only[jo,cy hk,bB,hx,WRs (k:=k),gE,CU h.2.1.1,yt h.1.1,flB,au]
  cases inR x.aY 0 ((n.aj.length:Int)-1)<;>cases er n.cp x.aS<;>rfl) (by
  simp only[jo,bK,gE,Co,show leB 0 (n.cp.bp.length:Int)=ζ from by simp[leB],au]
  grind)
 rw[this,uF]
 grind
theorem flt_s(h:js n):iter (jv n) FU 0=ς (n.aH.all (flB n)&&Co n):=by
 have hl:=h.2.2.2.2.1
 have:=fL (L:=jv n) n.aH (λ_ f=>flB n f) (ς (Co n)) oaa (λk x hx hk=>by
  simp only[jv,cy hk,bB,hx,WRs (k:=k),fQ,CU h.2.1.1,CU h.1.1,flB,er,au]
  cases inR x.aY 0 ((n.aj.length:Int)-1)<;>cases inR x.aS 0 ((n.cp.bp.length:Int)-1)<;>rfl) (by
  simp only[jv,bK,fQ,Co,show leB 0 (n.cp.bp.length:Int)=ζ from by simp[leB],au]
  grind)
 rw[this,uF]
 grind
section
variable{n:ab}(h:js n)(e1:n.an.length=n.aj.length)(e2:n.aT.length=n.aj.length)
include h e1 e2
omit h in
theorem at_i(hk:k<n.aj.length):∃s a,s∈n.an/\a∈n.aT/\n.an[k]?=ς s/\n.aT[k]?=ς a:=
 ⟨n.an[k]'(by omega),n.aT[k]'(by omega),agi _,agi _,aa9 _,aa9 _⟩
theorem mem_i{d:aA}(hd:n.aj[k]?=ς d):lg n (k:Int)=ς (Dv n k d):=by
 have hk:=(abb.1 hd).1
 obtain⟨s,a,s1,a1,s2,a2⟩:=at_i e1 e2 hk
 have od:=h.2.1.2 d (abl hd)
 have os:=h.2.2.1.2 s s1
 have oa:=h.2.2.2.1.2 a a1
 simp only[lg,bB,hd,s2,a2,X1 od.2.1 od.1.1,ET os,A7 oa,yt h.1.1,LU oa,afY,Dv,Hs]
 grind
theorem mem_s{d:aA}(hd:n.aj[k]?=ς d):zg n (k:Int)=ς (Dv n k d):=by
 have hk:=(abb.1 hd).1
 obtain⟨s,a,s1,a1,s2,a2⟩:=at_i e1 e2 hk
 have od:=h.2.1.2 d (abl hd)
 have os:=h.2.2.1.2 s s1
 have oa:=h.2.2.2.1.2 a a1
 simp only[zg,bB,hd,s2,a2,X2 od.2.1 od.1.1,EU os,A8 oa,LV oa,afY,Dv,Hs]
 cases hv:nJ d
 .rfl
 cases hs:kK s
 .rfl
 have c1:er n.cp d.aS=ltB d.aS (n.cp.bp.length:Int):=by
  simp only[nJ,v0] at hv;exact Sd hv.2.2.1
 have c2:er n.cp s.aS=ltB s.aS (n.cp.bp.length:Int):=by
  simp only[kK,v0] at hs;exact Sd hs.2.2.2.2.2.2.2.2.2.2.2.1
 grind
theorem mems_i:iter (jn n) FU 0=ς (iI (Dv n) n.aj&&(leB (n.aH.length:Int) 200&&(n.aH.all (flB n)&&Co n))):=by
 have hl:=h.2.1.1
 have:=fL (L:=jn n) n.aj (Dv n) (ς (leB (n.aH.length:Int) 200&&(n.aH.all (flB n)&&Co n))) oaa (λk x hx hk=>by
  simp only[jn,cy hk,mem_i h e1 e2 hx,WRs (k:=k),au]
  simp_all) (by
  simp only[jn,bK,cond_false,flt_i h,uW 200]
  grind)
 grind
theorem mems_s:iter (ju n) FU 0=ς (iI (Dv n) n.aj&&(n.aH.all (flB n)&&Co n)):=by
 have hl:=h.2.1.1
 have:=fL (L:=ju n) n.aj (Dv n) (ς (n.aH.all (flB n)&&Co n)) oaa (λk x hx hk=>by
  simp only[ju,cy hk,mem_s h e1 e2 hx,WRs (k:=k),au]
  simp_all) (by simp only[ju,bK,cond_false,flt_s h])
 grind
end
theorem Be{a b:Nat}(h:eqB (a:Int) (b:Int)=ζ):a=b:=by
 have:(a:Int)=b:=by simpa [eqB] using h
 omega
theorem EE(h:js n):iL n=ς (oG n):=by
 simp only[iL,map_i h.1,Md,afY,oG,uW 4]
 cases qU n.cp<;>cases kT n.fg<;>cases eqB n.fg.fZ 0<;>cases leB (n.aj.length:Int) 4<;>try rfl
 cases e1:eqB (n.an.length:Int) (n.aj.length:Int)<;>cases e2:eqB (n.aT.length:Int) (n.aj.length:Int)<;>try rfl
 rw[mems_i h (Be e1) (Be e2)];rfl
theorem VA(h:js n):oO n=ς (oG n):=by
 simp only[oO,map_s h.1,QS,afY,oG,uW 4,uW 200]
 cases qU n.cp<;>cases kT n.fg<;>cases eqB n.fg.fZ 0<;>cases leB (n.aj.length:Int) 4<;>try rfl
 cases e1:eqB (n.an.length:Int) (n.aj.length:Int)<;>cases e2:eqB (n.aT.length:Int) (n.aj.length:Int)<;>try rfl
 rw[mems_s h (Be e1) (Be e2)]
 grind
attribute [local simp] bK bB
theorem rC{by_:Nat}{L:Int×List α->Option (cj (Int×List α) (List α))}(xs:List α)(hb:by_<=100000)(hl:xs.length<=1048576)(hs:∀(k:Nat) (x:α),xs[k]?=ς x->k<xs.length->L ((k:Int),xs.take k)=bif da by_ (xs.take k++[x]).length then ς (.next (((k+1:Nat):Int),xs.take k++[x])) else ξ)(he:L ((xs.length:Nat),xs)=ς (.done xs)):iter L FU (0,[])=ς xs:=by
 have:=eR (step:=L) xs (λk (_:Unit)=>((k:Int),xs.take k)) (λ_ _=>ς (.next ())) (λ_=>ς xs) oaa
  (λk x _ hx hk=>by
   rw[hs k x hx hk,cE hb (by simp;omega)]
   have e:xs.take (k+1)=xs.take k++[x]:=by rw[age,hx];rfl
   simp[e]) (λ_=>by simp_all) ()
 rw[Ha xs (λ_ _=>rfl)] at this
 exact this
theorem C7(z:α)(xs:List α):cpL (ab3 ((xs.length:Int)).toNat z) xs=xs:=by simp[cpL]
theorem iN{b n:Nat}(hb:b<=100000)(hn:n<=1048576):rF b (n:Int) (n:Int)=true:=by
 have h:b*n<=100000*1048576:=agr hb hn
 have h2:(b:Int)*(n:Int)<=104857600000:=by rw[<-Int.natCast_mul];omega
 simp only[rF,decide_eq_true_eq];omega
theorem rD{f:α->Option α}{L:Int×List α->Option (cj (Int×List α) (List α))}(z:α)(xs:List α)(hl:xs.length<=1048576)(hf:∀x∈xs,f x=ς x)(hs:∀(k:Nat) (v:List α),L ((k:Int),v)=bif ltB (k:Int) (xs.length:Int) then(afW (ix xs (k:Int)) λx=>afW (f x) λr=>afW (ix v (k:Int)) λ_=>ς (.next (WR ((k:Int)+1),v.set ((k:Int)).toNat r))) else ς (.done v)):
 iter L FU (0,ab3 ((xs.length:Int)).toNat z)=ς xs:=by
 have:=Vd (step:=L) id z xs oaa
  (λk x v hx hv=>by
   have hk:=(abb.1 hx).1
   rw[hs]
   simp[cy hk,hx,hf x (abl hx),WRs (k:=k),aa9 (show k<v.length by omega)])
  (λv=>by rw[hs];simp)
 simp_all
theorem JD{xs:List bI}(h:okL u5 xs):vk xs=ς xs:=by
 rw[vk,rC (by_:=24) (L:=sD xs) xs oaa h.1 (λk x hx hk=>by
  simp[sD,cy hk,hx,pA (show k<9223372036854775807 by have:=h.1;omega),cE (by_:=1) (n:=x.bh.length) oaa (by have:=(h.2 x (abl hx)).1;omega)]) (by simp[sD])]
 rfl
theorem OW{xs:List ah}(h:okL gA xs):xY xs=ς xs:=by
 rw[xY,rC (by_:=32) (L:=uh xs) xs oaa h.1 (λk x hx hk=>by
  simp[uh,cy hk,hx,pA (show k<9223372036854775807 by have:=h.1;omega),cE (by_:=1) (n:=x.bh.length) oaa (by have:=(h.2 x (abl hx)).1;omega)]) (by simp[uh])]
 rfl
theorem Iu(h:km w):o5 w=ς w:=by rw[o5,OW h];rfl
theorem Z4(h:fE r):AT r=ς r:=by rw[AT,OW h.1,afY,JD h.2];rfl
theorem plan_c{p:bR}(h:eX p):yb p=ς p:=by
 rw[yb,afl,cE oaa (by have:=h.1;omega)];rfl
theorem tz(h:d7 s):jZ s=ς s:=by rw[jZ,plan_c h.1,afY,JD h.2.1,afY,Iu h.2.2];rfl
theorem Da{d:aA}(h:ew d):lO d=ς d:=by rw[lO,Z4 h];rfl
theorem Gt(h:iO a):oE a=ς a:=by
 rw[oE,afl,cE oaa (by have:=h.1;omega)];rfl
theorem ads{x:aF}(h:qk x):DY x=ς x:=by
 rw[DY,afl,cE oaa (by have:=h.1;omega)];rfl
theorem NB(h:lU f):vr f=ς f:=by rw[vr,ads h];rfl
theorem map_c(h:gP m):s8 m=ς m:=by
 rw[s8,rC (by_:=32) (L:=kS m) m.bp oaa h.1 (λk x hx hk=>by
  simp[kS,cy hk,hx,pA (show k<9223372036854775807 by have:=h.1;omega),cE (by_:=8) (n:=x.cY.length) oaa (by have:=(h.2 x (abl hx)).1;omega)]) (by simp[kS])]
 rfl
theorem net_c(h:js n):AZ n=ς n:=by
 obtain⟨h1,h2,h3,h4,h5⟩:=h
 rw[AZ,map_c h1,afY,
  rC (by_:=144) (L:=wK n) n.aj oaa h2.1 (λk x hx hk=>by simp[wK,cy hk,hx,pA (show k<9223372036854775807 by have:=h2.1;omega),Da (h2.2 x (abl hx))]) (by simp[wK]),afY,
  rC (by_:=288) (L:=wL n) n.an oaa h3.1 (λk x hx hk=>by simp[wL,cy hk,hx,pA (show k<9223372036854775807 by have:=h3.1;omega),tz (h3.2 x (abl hx))]) (by simp[wL]),afY,
  rC (by_:=48) (L:=wM n) n.aT oaa h4.1 (λk x hx hk=>by simp[wM,cy hk,hx,pA (show k<9223372036854775807 by have:=h4.1;omega),Gt (h4.2 x (abl hx))]) (by simp[wM]),afY,
  rC (by_:=176) (L:=wN n) n.aH oaa h5.1 (λk x hx hk=>by simp[wN,cy hk,hx,pA (show k<9223372036854775807 by have:=h5.1;omega),NB (h5.2 x (abl hx))]) (by simp[wN])]
 rfl
theorem YW{xs:List Int}(h:xs.length<=1048576):ul xs=ς xs:=by rw[ul,iN oaa h,C7];rfl
theorem yq{xs:List Int}(h:xs.length<=1048576):fy xs=ς xs:=by rw[fy,iN oaa h,C7];rfl
theorem acV{xs:List aU}(h:xs.length<=1048576):gh xs=ς xs:=by rw[gh,iN oaa h,C7];rfl
theorem aaK{xs:List aG}(h:xs.length<=1048576):gr xs=ς xs:=by rw[gr,iN oaa h,C7];rfl
theorem HU{xs:List bI}(h:okL u5 xs):ol xs=ς xs:=by
 rw[ol,iN oaa h.1,rD (f:=λx=>afW (fy x.bh) λr=>ς (⟨r⟩:bI)) (L:=rz xs) (⟨[]⟩:bI) xs h.1 (λx hx=>by rw[yq (h.2 x hx).1];rfl) (λk v=>by
  simp only[rz];grind)]
 rfl
theorem CC{xs:List ah}(h:okL gA xs):lQ xs=ς xs:=by
 rw[lQ,iN oaa h.1,rD (f:=λx=>afW (fy x.bh) λr=>ς (⟨x.cH,r⟩:ah)) (L:=ry xs) b7 xs h.1 (λx hx=>by rw[yq (h.2 x hx).1];rfl) (λk v=>by
  simp only[ry];grind)]
 rfl
theorem TQ(h:fE r):om r=ς r:=by rw[om,CC h.1,afY,HU h.2];rfl
theorem P9{d:aA}(h:ew d):mH d=ς d:=by rw[mH,TQ h];rfl
theorem adn{p:bR}(h:eX p):mg p=ς p:=by rw[mg,YW h.1];rfl
theorem ES(h:km w):mI w=ς w:=by rw[mI,CC h];rfl
theorem y5(h:d7 s):ia s=ς s:=by rw[ia,adn h.1,afY,HU h.2.1,afY,ES h.2.2];rfl
theorem Ef(h:iO a):fD a=ς a:=by rw[fD,acV h.1];rfl
theorem Rh{x:bF}(h:wi x):tR x=ς x:=by rw[tR,yq h.1];rfl
theorem ZX{x:aF}(h:qk x):yG x=ς x:=by rw[yG,Rh h];rfl
theorem JW(h:lU f):sQ f=ς f:=by rw[sQ,ZX h];rfl
theorem map_ci(h:gP m):Dn m=ς m:=by
 rw[Dn,iN oaa h.1,rD (f:=λx=>afW (ul x.cY) λr=>ς (⟨x.fF,r⟩:fo)) (L:=Aj m) RX m.bp h.1 (λx hx=>by rw[YW (h.2 x hx).1];rfl) (λk v=>by
  simp only[Aj];grind)]
 rfl
theorem Zx(h:js n):jP n=ς n:=by
 obtain⟨h1,h2,h3,h4,h5⟩:=h
 rw[jP,map_ci h1,afY,f6,iN oaa h2.1,rD (L:=iC n.aj) _ _ h2.1 (λx hx=>P9 (h2.2 x hx)) (λk v=>rfl),cond_true,afY,afY,
  fK,iN oaa h3.1,rD (L:=gT n.an) _ _ h3.1 (λx hx=>y5 (h3.2 x hx)) (λk v=>rfl),cond_true,afY,afY,
  fJ,iN oaa h4.1,rD (L:=gS n.aT) _ _ h4.1 (λx hx=>Ef (h4.2 x hx)) (λk v=>rfl),cond_true,afY,afY,
  f7,iN oaa h5.1,rD (L:=iF n.aH) _ _ h5.1 (λx hx=>JW (h5.2 x hx)) (λk v=>rfl),cond_true,afY,afY]
theorem Fh(n a b:Int):bW n a b=ς (inR n a b):=by unfold bW inR;grind
theorem O2(n a b:Int):dt n a b=ς (inR n a b):=by unfold dt inR;grind
theorem KM(x m:Int):(afX x m)%m=x%m:=by
 have h:=Int.mul_tdiv_add_tmod x m
 have h2:x%m=(m*x.tdiv m+x.tmod m)%m:=by rw[h]
 rw[h2,Int.mul_add_emod_self_left]
theorem Po{m:Int}(x:Int)(hm:0<m): -m<afX x m/\afX x m<m:=⟨Int.lt_tmod_of_pos x hm,Int.tmod_lt_of_pos x hm⟩
theorem acZ{r m:Int}(h1: -m<r)(h2:r<0):r%m=r+m:=by
 rw[<-agE r m,agF oaa oaa]
theorem SM(x:Int){m:Int}(h1:1<=m)(h2:m<=1000000000000):UZ x m=ς (x%m):=by
 obtain⟨a,b⟩:=Po x (show 0<m by omega)
 have hr:inR m 1 1000000000000=true:=bE.2 ⟨h1,h2⟩
 have hz:(!eqB m 0)=true:=by simp[eqB];omega
 simp only[UZ,Fh,hr,hz,au]
 rw[<-KM x m]
 by_cases h:afX x m<0
 .rw[show ltB (afX x m) 0=ζ from lt0_t h,acZ a h]
  simp only[au]
  rw[bN oaa]
 rw[show ltB (afX x m) 0=η from lt0_f oaa,agF oaa b]
 rfl
theorem Bv(x:Int){m:Int}(h1:1<=m)(h2:m<=1000000000000):Jv x m=ς (x%m):=by
 obtain⟨a,b⟩:=Po x (show 0<m by omega)
 have hr:inR m 1 1000000000000=true:=bE.2 ⟨h1,h2⟩
 have hz:(!eqB m 0)=true:=by simp[eqB];omega
 simp only[Jv,O2,hr,hz,au]
 rw[bN oaa,af4 oaa,agE,KM]
abbrev hM:Int:=2147483647
def uR(v x:Int):Int:=(v*1000003+x%hM+13)%hM
theorem sL(v x:Int):0<=uR v x/\uR v x<hM:=⟨agw _ (by decide),agu _ (by decide)⟩
theorem ZY{v x:Int}(h0:0<=v)(h1:v<hM):afX (WR (WR (WR (v*1000003)+x%hM)+13)) hM=uR v x:=by
 have a:=agw x (show hM≠0 by decide)
 have b:=agu x (show 0<hM by decide)
 unfold hM at*
 rw[bN (n:=v*1000003) oaa,bN (n:=v*1000003+x%2147483647) oaa,bN (n:=v*1000003+x%2147483647+13) oaa,af4 oaa]
 rfl
theorem yI{v x:Int}(h0:0<=v)(h1:v<hM):ph v x=ς (uR v x):=by
 rw[ph,SM x oaa oaa]
 simp only[afY]
 rw[ZY h0 h1]
def Hg(v:Int)(xs:List Int):Int:=xs.foldl uR v
theorem NI{v:Int}(h0:0<=v)(h1:v<hM):∀(xs:List Int),0<=Hg v xs/\Hg v xs<hM
 |[]=>⟨h0,h1⟩
 |x::xs=>NI (sL v x).1 (sL v x).2 xs
theorem NC:∀(xs:List Int) (v:Int),0<=v->v<hM->kW (λ(s x:Int)=>ς (cj.next (ρ:=Int) (afX (WR (WR (WR (s*1000003)+x%hM)+13)) hM))) ς xs v=ς (Hg v xs)
 |[],v,_,_=>rfl
 |x::xs,v,h0,h1=>by
  rw[kW,ZY h0 h1]
  exact NC xs _ (sL v x).1 (sL v x).2
theorem aak{xs:List Int}(hl:xs.length<=1048576):TS xs=ς (Hg 11 xs):=by
 have:=eR (step:=AI xs) xs (λk (s:Int)=>(s,(k:Int))) (λs x=>ς (cj.next (afX (WR (WR (WR (s*1000003)+x%hM)+13)) hM))) ς oaa
  (λk x s hx hk=>by
   simp only[AI,cy hk,bB,hx,Bv x (m:=2147483647) oaa oaa,WRs (k:=k),au];rfl) (λs=>by simp[AI]) 11
 rw[TS,show iter (AI xs) FU (11,0)=_ from this,NC xs 11 (by decide) (by decide)]
 rfl
theorem J3:∀(xs:List Int) (v:Int),0<=v->v<hM->kW (λ(s x:Int)=>afW (ph s x) λr=>ς (cj.next (ρ:=Int) r)) ς xs v=ς (Hg v xs)
 |[],v,_,_=>rfl
 |x::xs,v,h0,h1=>by
  rw[kW,yI h0 h1]
  exact J3 xs _ (sL v x).1 (sL v x).2
def dW(k:Int)(xs:List Int):Int:=uR (Hg (uR 11 k) xs) k
theorem lF(k:Int)(xs:List Int):0<=dW k xs/\dW k xs<hM:=sL _ _
theorem eC{xs:List Int}(hl:xs.length<=1048576)(k:Int):fw k xs=ς (dW k xs):=by
 have:=eR (step:=n9 xs) xs (λk (s:Int)=>(s,(k:Int))) (λs x=>afW (ph s x) λr=>ς (cj.next r)) ς oaa
  (λk x s hx hk=>by
   simp only[n9,cy hk,bB,hx,WRs (k:=k),au]
   simp_all) (λs=>by simp[n9]) (uR 11 k)
 rw[fw,yI (by decide) (by decide)]
 simp only[afY]
 have h2:=sL 11 k
 rw[show iter (n9 xs) FU (uR 11 k,0)=_ from this,J3 xs _ h2.1 h2.2]
 have h3:=NI h2.1 h2.2 xs
 simp only[afY]
 rw[yI h3.1 h3.2]
 rfl
theorem eD{xs:List Int}(hl:xs.length<=100000)(k:Int):fA k xs=ς (dW k xs):=by
 have a1:da 8 ([k]++xs).length=true:=cE oaa (by simp;omega)
 have a2:da 8 (([k]++xs)++[k]).length=true:=cE oaa (by simp;omega)
 rw[fA,a1,a2]
 simp only[cond_true]
 rw[aak (by simp;omega)]
 simp[Hg,dW]
def dk(k x:Int):Int:=if dW k [9,x]=0 then 1 else dW k [9,x]
theorem xe(k x:Int):rm k x=ς (dk k x):=by
 rw[rm,eC (by simp)]
 simp only[afY,dk]
 by_cases h:dW k [9,x]=0
 .rw[h];simp
 rw[show eqB (dW k [9,x]) 0=η from eqB_f.2 h];simp[h]
theorem xj(k x:Int):rL k x=ς (dk k x):=by
 have:=(lF k [9,x]).1
 rw[rL,eD (by simp)]
 simp only[afY,dk,Ic]
 by_cases h:dW k [9,x]=0
 .rw[h,show ltB 1 0=η from ltB_f.2 oaa];simp
 by_cases h1:dW k [9,x]=1
 .rw[h1];simp
 rw[show ltB 1 (dW k [9,x])=ζ from ltB_t.2 oaa];simp[h]
def N7(k:Int)(xs:List Int):Int:=xs.foldl dk k
theorem EA:∀(xs:List Int) (v:Int),kW (λ(s x:Int)=>ς (cj.next (ρ:=Int) (dk s x))) ς xs v=ς (N7 v xs)
 |[],v=>rfl
 |x::xs,v=>by rw[kW];exact EA xs _
theorem Ae{p:eG}(hl:p.Steps.length<=1048576)(k:Int):sN k p=ς (N7 k p.Steps):=by
 have:=eR (step:=lD p.Steps) p.Steps (λj (s:Int)=>(s,(j:Int))) (λs x=>ς (cj.next (dk s x))) ς oaa
  (λj x s hx hj=>by simp[lD,cy hj,hx,WRs (k:=j),xe]) (λs=>by simp[lD]) k
 rw[sN,yH,show iter (lD p.Steps) FU (k,0)=_ from this,EA]
 rfl
theorem AJ{p:eG}(hl:p.Steps.length<=1048576)(k:Int):s5 k p=ς (N7 k p.Steps):=by
 have:=eR (step:=mR p) p.Steps (λj (s:Int)=>(s,(j:Int))) (λs x=>ς (cj.next (dk s x))) ς oaa
  (λj x s hx hj=>by simp[mR,cy hj,hx,WRs (k:=j),xj]) (λs=>by simp[mR]) k
 rw[s5,show iter (mR p) FU (k,0)=_ from this,EA]
 rfl
def OI(k e:Int):Int:=N7 k [1,3,e]
theorem yD(k e:Int):uk k e=ς (OI k e):=by
 rw[uk,oc]
 simp only[afY]
 rw[Ae (by simp)];rfl
theorem yX(k e:Int):uw k e=ς (OI k e):=by
 rw[uw,xl]
 simp only[afY]
 rw[AJ (by simp)];rfl
def okB(xs:List Int):Prop:=∀x∈xs,xJ x
theorem Xm{x:Int}(h:xJ x):WR x=x:=bN (by simp only[xJ] at h;omega)
theorem Em:∀(xs acc:List Int),okB xs->acc.length+xs.length<=100000->kW (λ(s:List Int) (x:Int)=>bif da 8 (s++[WR x]).length then ς (cj.next (ρ:=List Int) (s++[WR x])) else ξ) ς xs acc=ς (acc++xs)
 |[],acc,_,_=>by simp[kW]
 |x::xs,acc,h,hl=>by
  simp only[aee] at hl
  rw[kW,show da 8 (acc++[WR x]).length=ζ from gJ (by simp;omega) (by simp;omega),Xm (h x (.head _))]
  simp only[cond_true]
  rw[Em xs (acc++[x]) (λy hy=>h y (.tail _ hy)) (by simp;omega)]
  simp
theorem J2{xs:List Int}(hb:okB xs)(hl:xs.length<=50000):tG xs=ς ((xs.length:Int)::xs):=by
 have:=eR (step:=lB xs) xs (λj (s:List Int)=>((j:Int),s)) (λ(s:List Int) (x:Int)=>bif da 8 (s++[WR x]).length then ς (cj.next (ρ:=List Int) (s++[WR x])) else ξ) ς oaa
  (λj x s hx hj=>by
   simp only[lB,cy hj,bB,hx,WRs (k:=j),au]
   simp_all) (λs=>by simp[lB]) [(xs.length:Int)]
 have hm:rF 8 0 (WR ((xs.length:Int)+1))=true:=by
  rw[bN oaa];simp only[rF,decide_eq_true_eq];omega
 rw[tG,hm]
 simp only[cond_true]
 rw[show((ab3 ((0:Int)).toNat 0)++[(xs.length:Int)])=[(xs.length:Int)] from rfl,show da 8 [(xs.length:Int)].length=ζ from gJ (by simp) (by simp)]
 simp only[cond_true]
 rw[show iter (lB xs) FU (0,[(xs.length:Int)])=_ from this,Em xs _ hb (by simp;omega)]
 rfl
theorem Kx{xs:List Int}(hb:okB xs)(hl:xs.length<=50000):tX xs=ς ((xs.length:Int)::xs):=by
 have:=eR (step:=lH xs) xs (λj (s:List Int)=>((j:Int),s)) (λ(s:List Int) (x:Int)=>bif da 8 (s++[WR x]).length then ς (cj.next (ρ:=List Int) (s++[WR x])) else ξ) ς oaa
  (λj x s hx hj=>by
   simp only[lH,cy hj,bB,hx,WRs (k:=j),au]
   simp_all) (λs=>by simp[lH]) [(xs.length:Int)]
 rw[tX,show iter (lH xs) FU (0,[(xs.length:Int)])=_ from this,Em xs _ hb (by simp;omega)]
 rfl
def FT(m:bF):Bool:=inR m.di 0 1&&(inR m.gR 1 100000&&(leB (m.bh.length:Int) 60&&inR m.kr 0 2147483646))
theorem vf(m:bF):lK m=ς (FT m):=by
 simp only[lK,O2,afY,FT]
 grind
theorem Ct(m:bF):oJ m=ς (FT m):=by
 simp only[oJ,Fh,afY,FT]
 by_cases h0:m.di=0
 .rw[h0,show inR 0 0 1=ζ from bE.2 oaa]
  simp only[bj,cond_true]
  grind
 by_cases h1:m.di=1
 .rw[h1,show inR 1 0 1=ζ from bE.2 oaa,show eqB 1 0=η from eqB_f.2 oaa]
  simp only[bj,au]
  grind
 rw[show eqB m.di 0=η from eqB_f.2 h0,show eqB m.di 1=η from eqB_f.2 h1,show inR m.di 0 1=η from by
  cases h:inR m.di 0 1 with
  |false=>rfl
  |true=>have:=bE.1 h;omega]
 rfl
def mac(k:Int)(m:bF):Int:=dW k ([m.di,m.gR]++((m.bh.length:Int)::m.bh))
theorem Jf{m:bF}(hb:okB m.bh)(hl:m.bh.length<=50000)(k:Int):yF k m=ς (eqB m.kr (mac k m)):=by
 rw[yF,pj,J2 hb hl]
 simp only[afY]
 rw[show da 8 ([m.di,m.gR]++((m.bh.length:Int)::m.bh)).length=ζ from gJ (by simp;omega) (by simp;omega),eC (by simp;omega)]
 rfl
theorem B8{m:bF}(hb:okB m.bh)(hl:m.bh.length<=50000)(k:Int):vj k m=ς (eqB m.kr (mac k m)):=by
 rw[vj,EW,Kx hb hl]
 simp only[afY]
 rw[show da 8 ([m.di,m.gR]++((m.bh.length:Int)::m.bh)).length=ζ from gJ (by simp;omega) (by simp;omega),eD (by simp;omega)]
 rfl
theorem IO{m:bF}(h:FT m=ζ):m.bh.length<=60:=by
 simp only[FT,v0] at h
 have:=vK h.2.2.1
 omega
def zp(k:Int)(p:aF):Bool:=FT p.bO&&(eqB p.bO.di 1&&eqB p.bO.kr (mac (OI k p.aK) p.bO))
theorem FK{p:aF}(hb:okB p.bO.bh)(k:Int):tO k p=ς (zp k p):=by
 rw[tO,Ct]
 simp only[afY,zp,yD]
 cases hv:FT p.bO
 .rfl
 rw[Jf hb (afo (IO hv) oaa)]
 grind
theorem zF{p:aF}(hb:okB p.bO.bh)(k:Int):qI k p=ς (zp k p):=by
 rw[qI,vf]
 simp only[afY,zp,yX]
 cases hv:FT p.bO
 .rfl
 rw[B8 hb (afo (IO hv) oaa)]
 grind
def d1(k:Int)(i:Nat)(x:Int):Int:=(x-dW k [(i:Int)]%256)%256
def z0(k:Int)(xs:List Int):List Int:=xs.mapIdx (λi x=>d1 k i x)
theorem GV(k:Int)(xs:List Int):(z0 k xs).length=xs.length:=by simp[z0]
theorem acs(k:Int)(xs:List Int):okB (z0 k xs):=by
 intro x hx
 obtain⟨i,hi⟩:=aej hx
 simp only[z0,aga] at hi
 cases h:xs[i]? with
 |none=>simp_all
 |some y=>
  rw[h] at hi;simp at hi;subst hi
  simp only[xJ,d1]
  omega
theorem IR(n:Int):IntKind.u8.wrap n=n%256:=by rfl
theorem NJ{xs:List Int}(hb:okB xs)(hl:xs.length<=50000)(k:Int):Dh k xs=ς (z0 k xs):=by
 have hc:fy xs=ς xs:=by
  have hm:rF 1 (xs.length:Int) (xs.length:Int)=true:=by simp only[rF,decide_eq_true_eq];omega
  rw[fy,hm]
  simp[cpL]
 have goal:Wp (iter (Ab k xs) FU (0,xs)) (λr=>r=z0 k xs):=by
  refine Wp.iterF (λs=>∃i:Nat,i<=xs.length/\s.1=(i:Int)/\s.2.length=xs.length/\(∀j,j<i->s.2[j]?=(z0 k xs)[j]?)/\(∀j,i<=j->s.2[j]?=xs[j]?)) (λs=>((xs.length:Int)-s.1).toNat) ⟨0,by omega,rfl,rfl,by omega,λ_ _=>rfl⟩ (by simp;omega) ?_
  rintro⟨v2,v3⟩ ⟨i,hi,rfl,h3,h4,h5⟩
  simp only at h3 h4 h5
  simp only[Ab]
  refine Wp.cond (λhlt=>?_) (λhlt=>?_)
  .have hlt:=kO hlt
   have hil:i<xs.length:=by omega
   refine Wp.ix oaa oaa λx hx hxi=>?_
   refine Wp.eq (eC (by simp) _) (Wp.ix oaa oaa λx' _ _=>Wp.some ?_)
   simp only[afZ] at hxi
   have hxi':xs[i]?=ς x:=by rw[<-h5 i (acA _)];exact hxi
   have hr:=lF k [(i:Int)]
   have e1:afX (dW k [(i:Int)]) 256=dW k [(i:Int)]%256:=af4 hr.1
   have e2:IntKind.u8.wrap (x-IntKind.u8.wrap (afX (dW k [(i:Int)]) 256))=d1 k i x:=by
    rw[IR,IR,e1,d1]
    omega
   have e3:WR ((i:Int)+1)=((i+1:Nat):Int):=by rw[bN oaa];rfl
   rw[e2,e3]
   refine⟨⟨i+1,by omega,rfl,by simp_all,λj hj=>?_,λj hj=>?_⟩,?_⟩
   .simp only[afZ]
    rw[afE]
    by_cases hij:i=j
    .subst hij
     rw[if_pos rfl,if_pos oaa]
     simp only[z0,aga,hxi',agc]
    grind
   .grind
   omega
  have hlt:=ou hlt
  refine Wp.some (af8 λj=>?_)
  by_cases hj:j<xs.length
  .grind
  rw[agz oaa,agz (by rw[GV];omega)]
 obtain⟨r,h1,h2⟩:=goal.ex
 rw[Dh,hc]
 simp_all
theorem OM{xs:List Int}(hb:okB xs)(hl:xs.length<=50000)(k:Int):DL k xs=ς (z0 k xs):=by
 have goal:Wp (iter (AG k xs) FU (0,[])) (λr=>r=z0 k xs):=by
  refine Wp.iterF (λs=>∃i:Nat,i<=xs.length/\s.1=(i:Int)/\s.2=(z0 k xs).take i) (λs=>((xs.length:Int)-s.1).toNat) ⟨0,by omega,rfl,rfl⟩ (by simp;omega) ?_
  rintro⟨v2,v3⟩ ⟨i,hi,rfl,rfl⟩
  simp only[AG]
  refine Wp.cond (λhlt=>?_) (λhlt=>?_)
  .have hlt:=kO hlt
   have hil:i<xs.length:=by omega
   refine Wp.ix oaa oaa λx hx hxi=>?_
   simp only[afZ] at hxi
   have hx8:=hb x hx
   have hr:=lF k [(i:Int)]
   have e1:afX (dW k [(i:Int)]) 256=dW k [(i:Int)]%256:=af4 hr.1
   have hb8:0<=dW k [(i:Int)]%256/\dW k [(i:Int)]%256<256:=by omega
   simp only[xJ] at hx8
   refine Wp.eq (eD (by simp) _) (Wp.eq (Bv _ oaa oaa) ?_)
   have hlen:((z0 k xs).take i).length=i:=by rw[aeQ,GV];omega
   rw[e1,Xm (hb x hx),bN oaa,IR]
   have e4:(x-dW k [(i:Int)]%256)%256%256=d1 k i x:=by rw[d1];omega
   rw[e4]
   refine Wp.ok (gJ (by grind) (by grind)) (Wp.some ?_)
   have e3:WR ((i:Int)+1)=((i+1:Nat):Int):=by rw[bN oaa];rfl
   rw[e3]
   have hxd:(z0 k xs)[i]?=ς (d1 k i x):=by simp only[z0,aga,hxi,agc]
   refine⟨⟨i+1,by omega,rfl,by rw[age,hxd];rfl⟩,?_⟩
   omega
  have hlt:=ou hlt
  refine Wp.some ?_
  rw[agd (by rw[GV];omega)]
 obtain⟨r,h1,h2⟩:=goal.ex
 rw[DL,h1,h2];rfl
def e1(k:Int)(i:Nat)(x:Int):Int:=(x+dW k [(i:Int)]%256)%256
def vJ(k:Int)(xs:List Int):List Int:=xs.mapIdx (λi x=>e1 k i x)
@[simp] theorem encL_len (k:Int) (xs:List Int):(vJ k xs).length=xs.length:=by simp[vJ]
theorem Lt(k:Int)(xs:List Int):okB (vJ k xs):=by
 intro x hx
 obtain⟨i,hi⟩:=aej hx
 simp only[vJ,aga] at hi
 cases h:xs[i]? with
 |none=>simp_all
 |some y=>rw[h] at hi;simp at hi;subst hi;simp only[xJ,e1];omega
theorem act{xs:List Int}(h:okB xs)(k:Int):z0 k (vJ k xs)=xs:=by
 apply af8
 intro i
 simp only[z0,vJ,aga,Option.map_map]
 cases hx:xs[i]? with
 |none=>rfl
 |some x=>
  have:=h x (abl hx)
  simp only[xJ] at this
  simp only[agc,Function.comp,d1,e1,Option.some.injEq]
  omega
theorem NK{xs:List Int}(hb:okB xs)(hl:xs.length<=50000)(k:Int):Di k xs=ς (vJ k xs):=by
 have hc:fy xs=ς xs:=yq oaa
 have goal:Wp (iter (Ac k xs) FU (0,xs)) (λr=>r=vJ k xs):=by
  refine Wp.iterF (λs=>∃i:Nat,i<=xs.length/\s.1=(i:Int)/\s.2.length=xs.length/\(∀j,j<i->s.2[j]?=(vJ k xs)[j]?)/\(∀j,i<=j->s.2[j]?=xs[j]?)) (λs=>((xs.length:Int)-s.1).toNat) ⟨0,by omega,rfl,rfl,by omega,λ_ _=>rfl⟩ (by simp;omega) ?_
  rintro⟨v2,v3⟩ ⟨i,hi,rfl,h3,h4,h5⟩
  simp only at h3 h4 h5
  simp only[Ac]
  refine Wp.cond (λhlt=>?_) (λhlt=>?_)
  .have hlt:=kO hlt
   have hil:i<xs.length:=by omega
   refine Wp.ix oaa oaa λx hx hxi=>?_
   refine Wp.eq (eC (by simp) _) (Wp.ix oaa oaa λx' _ _=>Wp.some ?_)
   simp only[afZ] at hxi
   have hxi':xs[i]?=ς x:=by rw[<-h5 i (acA _)];exact hxi
   have hr:=lF k [(i:Int)]
   have t1:afX (dW k [(i:Int)]) 256=dW k [(i:Int)]%256:=af4 hr.1
   have t2:IntKind.u8.wrap (x+IntKind.u8.wrap (afX (dW k [(i:Int)]) 256))=e1 k i x:=by
    rw[IR,IR,t1,e1]
    omega
   have t3:WR ((i:Int)+1)=((i+1:Nat):Int):=by rw[bN oaa];rfl
   rw[t2,t3]
   refine⟨⟨i+1,by omega,rfl,by simp_all,λj hj=>?_,λj hj=>?_⟩,?_⟩
   .simp only[afZ]
    rw[afE]
    by_cases hij:i=j
    .subst hij
     rw[if_pos rfl,if_pos oaa]
     simp only[vJ,aga,hxi',agc]
    grind
   .grind
   omega
  have hlt:=ou hlt
  refine Wp.some (af8 λj=>?_)
  by_cases hj:j<xs.length
  .grind
  simp_all
 obtain⟨r,h1,h2⟩:=goal.ex
 rw[Di,hc]
 simp_all
theorem ON{xs:List Int}(hb:okB xs)(hl:xs.length<=50000)(k:Int):DM k xs=ς (vJ k xs):=by
 have goal:Wp (iter (AH k xs) FU (0,[])) (λr=>r=vJ k xs):=by
  refine Wp.iterF (λs=>∃i:Nat,i<=xs.length/\s.1=(i:Int)/\s.2=(vJ k xs).take i) (λs=>((xs.length:Int)-s.1).toNat) ⟨0,by omega,rfl,rfl⟩ (by simp;omega) ?_
  rintro⟨v2,v3⟩ ⟨i,hi,rfl,rfl⟩
  simp only[AH]
  refine Wp.cond (λhlt=>?_) (λhlt=>?_)
  .have hlt:=kO hlt
   have hil:i<xs.length:=by omega
   refine Wp.ix oaa oaa λx hx hxi=>?_
   simp only[afZ] at hxi
   have hx8:=hb x hx
   have hr:=lF k [(i:Int)]
   have t1:afX (dW k [(i:Int)]) 256=dW k [(i:Int)]%256:=af4 hr.1
   have hb8:0<=dW k [(i:Int)]%256/\dW k [(i:Int)]%256<256:=by omega
   simp only[xJ] at hx8
   refine Wp.eq (eD (by simp) _) ?_
   have hlen:((vJ k xs).take i).length=i:=by rw[aeQ,encL_len];omega
   rw[t1,Xm (hb x hx),bN oaa,af4 oaa,IR]
   have t4:(x+dW k [(i:Int)]%256)%256%256=e1 k i x:=by rw[e1];omega
   rw[t4]
   refine Wp.ok (gJ (by grind) (by grind)) (Wp.some ?_)
   have t3:WR ((i:Int)+1)=((i+1:Nat):Int):=by rw[bN oaa];rfl
   rw[t3]
   have hxd:(vJ k xs)[i]?=ς (e1 k i x):=by simp only[vJ,aga,hxi,agc]
   refine⟨⟨i+1,by omega,rfl,by rw[age,hxd];rfl⟩,?_⟩
   omega
  have hlt:=ou hlt
  refine Wp.some ?_
  rw[agd (by simp_all)]
 obtain⟨r,h1,h2⟩:=goal.ex
 rw[DM,h1,h2];rfl
theorem Zc{b:List Int}(hb:okB b)(hl:b.length<=50000)(k d c:Int):pj k d c b=ς (dW k ([d,c]++((b.length:Int)::b))):=by
 rw[pj,J2 hb hl]
 simp only[afY]
 rw[show da 8 ([d,c]++((b.length:Int)::b)).length=ζ from gJ (by simp;omega) (by simp;omega),eC (by simp;omega)]
 rfl
theorem Zd{m:bF}(hb:okB m.bh)(hl:m.bh.length<=50000)(k:Int):EW k m=ς (mac k m):=by
 rw[EW,Kx hb hl]
 simp only[afY]
 rw[show da 8 ([m.di,m.gR]++((m.bh.length:Int)::m.bh)).length=ζ from gJ (by simp;omega) (by simp;omega),eD (by simp;omega)]
 rfl
def Io(k c:Int)(b:List Int):bF:=⟨1,c,vJ (dk k (2*c+1)) b,mac k ⟨1,c,vJ (dk k (2*c+1)) b,0⟩⟩
def fY(root g e:Int)(x:ah):aF:=⟨g,e,Io (OI root e) x.cH x.bh⟩
theorem Rg(h0:0<=x.cH)(h1:x.cH<=1000000)(hb:okB x.bh)(hl:x.bh.length<=50000)(root g e:Int):vg root g e x=ς (fY root g e x):=by
 simp only[vg,yX,If,afY,bN (n:=2*x.cH) oaa,bN (n:=2*x.cH+1) oaa,xj,ON hb hl,Zd (m:=⟨1,x.cH,vJ _ x.bh,0⟩) (Lt _ _) (by simpa using hl)]
 rfl
theorem aaD(h0:0<=x.cH)(h1:x.cH<=1000000)(hb:okB x.bh)(hl:x.bh.length<=50000)(root g e:Int):uS root g e x=ς (fY root g e x):=by
 simp only[uS,yD,Hn,afY,bN (n:=2*x.cH) oaa,bN (n:=2*x.cH+1) oaa,xe,NK hb hl,Zc (Lt _ _) (show(vJ _ x.bh).length<=50000 by simpa using hl)]
 rfl
theorem hM_le(k:Int)(xs:List Int):inR (dW k xs) 0 2147483646=true:=by have:=lF k xs;rw[bE];grind
theorem adL{c:Int}{b:List Int}(h0:1<=c)(h1:c<=100000)(hl:b.length<=60)(k:Int):FT (Io k c b)=true:=by
 simp only[FT,Io,encL_len,mac];rw[hM_le];simp[inR,leB];omega
theorem seal_v(h0:1<=x.cH)(h1:x.cH<=100000)(hl:x.bh.length<=60)(root g e:Int):zp root (fY root g e x)=true:=by
 simp only[zp,fY,adL h0 h1 hl];simp[Io,mac,eqB]
def mM(root g e:Int)(x:aF):ah×Bool:=
 if x.ae=g/\x.aK=e/\zp root x=ζ then(⟨x.bO.gR,z0 (dk (OI root e) (2*x.bO.gR+1)) x.bO.bh⟩,ζ) else(b7,η)
theorem Kg{p:aF}(hb:okB p.bO.bh)(k g e:Int):rp k g e p=ς (mM k g e p)/\yW k g e p=ς (mM k g e p):=by
 simp only[rp,FK hb,yD,yW,zF hb,yX,afY,mM]
 cases hg:eqB p.ae g
 .simp_all
 cases he:eqB p.aK e
 .simp_all
 cases hv:zp k p
 .simp_all
 have he:=gj he
 rw[if_pos ⟨gj hg,he,rfl⟩]
 simp only[zp,v0] at hv
 obtain⟨h1,h2,h3⟩:=hv
 have hlen:=IO h1
 have hd:=gj h2
 have hm:=gj h3
 have hcnt:1<=p.bO.gR/\p.bO.gR<=100000:=by
  simp only[FT,v0] at h1
  exact bE.1 h1.2.1
 rw[he] at hm
 have ek:eqB p.bO.kr (mac (OI k e) p.bO)=true:=by rw[hm];simp
 simp only[yJ,xe,NJ hb (show p.bO.bh.length<=50000 by omega),CJ,vf,B8 hb (show p.bO.bh.length<=50000 by omega),xj,OM hb (show p.bO.bh.length<=50000 by omega),h1,h2,ek,show leB p.bO.gR 0=η from leB_f.2 oaa,hd,bN (n:=2*p.bO.gR) oaa,bN (n:=2*p.bO.gR+1) oaa,au]
 simp_all
theorem EF(h0:1<=x.cH)(h1:x.cH<=100000)(hb:okB x.bh)(hl:x.bh.length<=60)(root g e:Int):mM root g e (fY root g e x)=(x,ζ):=by
 rw[mM,if_pos ⟨rfl,rfl,seal_v h0 h1 hl _ _ _⟩]
 simp[fY,Io,act hb]
def Ri(root:Int)(m:aG):Int:=dW (N7 root [1,2]) [23,m.bb,m.aS,m.ae,m.aK,m.bP]
def lN(root:Int)(m:aG):aG:={m with kr:=Ri root m}
def mr(root:Int)(m:aG):Bool:=eqB m.kr (Ri root m)
theorem aaJ(root:Int)(m:aG):vi root m=ς (Ri root m):=by simp[vi,qF,AJ,eD,Ri]
theorem aaI(root:Int)(m:aG):uT root m=ς (Ri root m):=by simp[uT,pU,Ae,eC,Ri]
theorem EV(root:Int)(m:aG):kR root m=ς (lN root m):=by simp[kR,aaJ,lN]
theorem Mv(root:Int)(m:aG):pb root m=ς (lN root m):=by simp[pb,aaI,lN]
theorem MJ(root:Int)(m:aG):ji root m=ς (mr root m):=by simp[ji,aaJ,mr]
theorem RJ(root:Int)(m:aG):ki root m=ς (mr root m):=by simp[ki,aaI,mr]
@[simp] theorem vSig_sign (root:Int) (m:aG):mr root (lN root m)=true:=by simp[mr,lN,Ri,eqB]
def eS(m:aG):Bool:=inR m.bb 1 8&&(inR m.aS 0 5&&(inR m.ae 0 999999&&(inR m.aK 0 999999&&inR m.bP 0 1000000000000)))
theorem Tz(m:aG):mQ m=ς (eS m):=by
 simp only[mQ,fQ,afY,eS]
 grind
theorem Ty(m:aG):mE m=ς (eS m):=by
 simp only[mE,gE,afY,eS]
 grind
def msk(k r:Int):Int:=dW k [1,r]%1000000
theorem HM(k r:Int):0<=msk k r/\msk k r<1000000:=by unfold msk;omega
theorem msk_s(k r:Int):oB k r=ς (msk k r):=by simp[oB,eD,Bv,msk]
theorem msk_i(k r:Int):oh k r=ς (msk k r):=by simp[oh,eC,msk,af4 (lF k [1,r]).1]
def unm(k r a:Int):Int:=(a%1000000-msk k r)%1000000
theorem RG(k r a:Int):0<=unm k r a/\unm k r a<=999999:=by unfold unm;omega
theorem unm_s(k r a:Int):lM k r a=ς (unm k r a):=by
 have:=HM k r
 simp only[lM,Bv _ (show(1:Int)<=1000000 by omega) oaa,msk_s,afY,unm];rw[bN oaa]
theorem unm_i(k r a:Int):lC k r a=ς (unm k r a):=by
 have:=HM k r
 simp only[lC,SM _ (show(1:Int)<=1000000 by omega) oaa,msk_i,afY,unm];rw[bN oaa]
def HK(x:Int):Int:=if x=0 then 1 else x
def vec(k r q:Int):ct:=bif inR q 0 999999 then⟨r,(q+msk k r)%1000000,dW k [2,r,q],dW k [3,r],HK (dW k [4,r,q])⟩ else cO
theorem Tj(k:Int)(xs:List Int):1<=HK (dW k xs)/\HK (dW k xs)<=2147483646:=by have:=lF k xs;unfold hM HK at*;omega
theorem Ul(k r q:Int):jw k r q=ς (vec k r q):=by
 simp only[jw,fQ,afY,vec]
 cases hq:inR q 0 999999
 .rfl
 rw[bE] at hq
 have h1:=HM k r
 have h2:=lF k [4,r,q]
 simp only[msk_s,Bv _ (show(1:Int)<=1000000 by omega) oaa,eD (show [2,r,q].length<=100000 by simp),eD (show [3,r].length<=100000 by simp),eD (show [4,r,q].length<=100000 by simp),Ic,au]
 rw[bN oaa]
 by_cases h:dW k [4,r,q]=0
 .rw[show ltB 1 (dW k [4,r,q])=η from ltB_f.2 oaa];simp[HK,h]
 by_cases h':dW k [4,r,q]=1
 .rw[h'];simp[ltB,HK]
 rw[show ltB 1 (dW k [4,r,q])=ζ from ltB_t.2 oaa];simp[HK,h]
theorem vec_i(k r q:Int):mF k r q=ς (vec k r q):=by
 simp only[mF,gE,afY,vec]
 cases hq:inR q 0 999999
 .rfl
 rw[bE] at hq
 have h1:=HM k r
 simp only[msk_i,eC (show [2,r,q].length<=1048576 by simp),eC (show [3,r].length<=1048576 by simp),eC (show [4,r,q].length<=1048576 by simp),au]
 rw[bN oaa,af4 oaa]
 by_cases h:dW k [4,r,q]=0
 .rw[h];simp[HK]
 rw[show eqB (dW k [4,r,q]) 0=η from eqB_f.2 h];simp[HK,h]
theorem MI{k r q:Int}(h0:0<=q)(h1:q<=999999):unm k r ((q+msk k r)%1000000)=q:=by have:=HM k r;unfold unm;omega
def kL(k last:Int)(v:ct):Int:=
 if v.kr≠dW k [2,v.eJ,unm k v.eJ v.gD] then 1 else if unm k v.eJ v.gD<=last then 2 else if last<unm k v.eJ v.gD-1000 then 3 else 0
theorem Uj(k last:Int)(v:ct):oD k last v=ς (kL k last v):=by
 have hu:=RG k v.eJ v.gD
 simp only[oD,unm_s,eD (show [2,v.eJ,unm k v.eJ v.gD].length<=100000 by simp),afY,kL]
 rw[bN oaa]
 by_cases h1:v.kr=dW k [2,v.eJ,unm k v.eJ v.gD]
 .rw[show eqB v.kr (dW k [2,v.eJ,unm k v.eJ v.gD])=ζ from eqB_t.2 h1]
  simp only[ne_eq,h1,not_true_eq_false,if_false,au]
  by_cases h2:unm k v.eJ v.gD<=last
  .rw[show leB (unm k v.eJ v.gD) last=ζ from leB_t.2 h2,if_pos h2];rfl
  rw[show leB (unm k v.eJ v.gD) last=η from leB_f.2 oaa,if_neg h2]
  by_cases h3:last<unm k v.eJ v.gD-1000
  .rw[show ltB last (unm k v.eJ v.gD-1000)=ζ from ltB_t.2 h3,if_pos h3];rfl
  rw[show ltB last (unm k v.eJ v.gD-1000)=η from ltB_f.2 oaa,if_neg h3];rfl
 rw[show eqB v.kr (dW k [2,v.eJ,unm k v.eJ v.gD])=η from eqB_f.2 h1]
 simp[h1]
theorem aeb{last:Int}(hl: -9000000000000<=last/\last<=9000000000000)(k:Int)(v:ct):sb k last v=ς (kL k last v):=by
 have hu:=RG k v.eJ v.gD
 simp only[sb,unm_i,eC (show [2,v.eJ,unm k v.eJ v.gD].length<=1048576 by simp),afY,kL]
 rw[bN oaa]
 by_cases h1:v.kr=dW k [2,v.eJ,unm k v.eJ v.gD]
 .rw[show eqB v.kr (dW k [2,v.eJ,unm k v.eJ v.gD])=ζ from eqB_t.2 h1]
  simp only[ne_eq,h1,not_true_eq_false,if_false,au]
  by_cases h2:unm k v.eJ v.gD<=last
  .rw[show leB (unm k v.eJ v.gD) last=ζ from leB_t.2 h2,if_pos h2];rfl
  rw[show leB (unm k v.eJ v.gD) last=η from leB_f.2 oaa,if_neg h2]
  by_cases h3:last<unm k v.eJ v.gD-1000
  .rw[show ltB (last+1000) (unm k v.eJ v.gD)=ζ from ltB_t.2 oaa,if_pos h3];rfl
  rw[show ltB (last+1000) (unm k v.eJ v.gD)=η from ltB_f.2 oaa,if_neg h3];rfl
 rw[show eqB v.kr (dW k [2,v.eJ,unm k v.eJ v.gD])=η from eqB_f.2 h1]
 simp[h1]
theorem E8{k r q:Int}(h0:0<=q)(h1:q<=999999)(last:Int):kL k last (vec k r q)=if q<=last then 2 else if last<q-1000 then 3 else 0:=by
 have hq:inR q 0 999999=true:=bE.2 ⟨h0,h1⟩
 simp only[vec,hq,cond_true,kL,MI h0 h1,ne_eq,not_true_eq_false,if_false]
def xt(id:dH)(q:Int):Int:=dW 29 [id.eF,id.bP,q]
theorem XJ(id:dH)(q:Int):mO id q=ς (xt id q):=by simp[mO,eD,xt]
theorem chal_i(id:dH)(q:Int):pG id q=ς (xt id q):=by simp[pG,eC,xt]
theorem O9{α:Type}(p:α->Bool):∀(xs:List α) (i:Nat),i<(xs.takeWhile p).length->∃x,xs[i]?=ς x/\p x=ζ
 |[],i,h=>by simp at h
 |x::xs,i,h=>by
  rw[agl] at h
  cases hp:p x<;>rw[hp] at h
  .simp at h
  cases i with
  |zero=>simp_all
  |succ i=>exact O9 p xs i (by simpa using h)
theorem O8{α:Type}(p:α->Bool):∀(xs:List α) (x:α),xs[(xs.takeWhile p).length]?=ς x->p x=η
 |[],x,h=>by simp at h
 |y::xs,x,h=>by
  rw[agl] at h
  cases hp:p y<;>rw[hp] at h
  .simp_all
  exact O8 p xs x (by simpa using h)
theorem IJ(p:α->Bool)(xs:List α):(xs.takeWhile p).length<=xs.length:=(List.takeWhile_prefix p).length_le
theorem IK{α:Type}(p:α->Bool):∀xs:List α,xs.take (xs.takeWhile p).length=xs.takeWhile p
 |[]=>rfl
 |x::xs=>by
  rw[agl]
  cases p x
  .rfl
  simp[IK p xs]
theorem II{α:Type}(p:α->Bool):∀xs:List α,xs.drop (xs.takeWhile p).length=xs.dropWhile p
 |[]=>rfl
 |x::xs=>by
  rw[agl,agD]
  cases p x
  .rfl
  simp[II p xs]
theorem zr{L:Int->Option (cj Int Int)}(xs:List α)(p:α->Bool)(hl:xs.length<=1048576)(h1:∀(k:Nat) (x:α),xs[k]?=ς x->L k=bif p x then ς (.next (WR ((k:Int)+1))) else ς (.done k))(h0:L xs.length=ς (.done xs.length)):iter L FU 0=ς (((xs.takeWhile p).length:Nat):Int):=by
 have hle:=IJ p xs
 have:Wp (iter L FU 0) (λr=>r=(((xs.takeWhile p).length:Nat):Int)):=by
  refine Wp.iterF (λs=>∃i:Nat,s=(i:Int)/\i<=(xs.takeWhile p).length) (λs=>((xs.length:Int)-s).toNat) ⟨0,rfl,by omega⟩ oaa ?_
  rintro _ ⟨i,rfl,hi⟩
  by_cases e:i<(xs.takeWhile p).length
  .obtain⟨x,hx,hp⟩:=O9 p xs i e
   rw[h1 i x hx,hp]
   exact⟨⟨i+1,by rw[bN oaa];rfl,by omega⟩,by simp only[bN (show-9223372036854775808<=(i:Int)+1/\(i:Int)+1<=9223372036854775807 by omega)];omega⟩
  have e:i=(xs.takeWhile p).length:=by omega
  by_cases hn:i<xs.length
  .obtain⟨x,hx⟩:∃x,xs[i]?=ς x:=⟨_,aa9 hn⟩
   rw[h1 i x hx,O8 p xs x (by simp_all)]
   subst e;rfl
  have:i=xs.length:=by omega
  subst this
  rw[h0]
  show(xs.length:Int)=_
  omega
 obtain⟨r,hr,rfl⟩:=this.ex
 exact hr
def before(q:Int)(x:ah):Bool:=ltB x.cH q
def px(x:ah)(xs:List ah):List ah:=xs.takeWhile (before x.cH)++[x]++xs.dropWhile (before x.cH)
def qW:List ah->Int->List bI->a9
 |[],n,dl=>⟨n,[],dl⟩
 |x::xs,n,dl=>if x.cH=n/\dl.length<24 then qW xs (n+1) (dl++[⟨x.bh⟩]) else⟨n,x::xs,dl⟩
def xG(r:a9)(x:ah):Bool:=!qQ r||(ltB 60 (x.bh.length:Int)||(!inR x.cH r.bw (r.bw+7)||(r.aV.any (λy=>eqB y.cH x.cH)||leB 24 (r.bv.length:Int))))
def iX(r:a9)(x:ah):a9:=
 bif xG r x then r else
  let o:=qW (px x r.aV) r.bw r.bv
  bif leB 24 (o.bv.length:Int) then {o with aV:=[]} else o
theorem JQ:∀(xs:List ah) (n:Int) (dl:List bI),dl.length<=24->(qW xs n dl).bv.length<=24
 |[],n,dl,h=>h
 |x::xs,n,dl,h=>by
  rw[qW];split
  .exact JQ xs _ _ (by simp;omega)
  exact h
theorem Er{L:a9->Option (cj a9 a9)}(hL:∀v:a9,v.aV.length<=1000->v.bv.length<=24->0<=v.bw->v.bw<=2000000->L v=match v.aV with
  |[]=>ς (.done v)
  |x::xs=>if x.cH=v.bw/\v.bv.length<24 then ς (.next ⟨v.bw+1,xs,v.bv++[⟨x.bh⟩]⟩) else ς (.done v)):
 ∀(xs:List ah) (n:Int) (dl:List bI) (fu:Nat),xs.length<=1000->dl.length<=24->0<=n->n+xs.length<=2000000->xs.length<fu->iter L fu ⟨n,xs,dl⟩=ς (qW xs n dl)
 |[],n,dl,fu,h1,h2,h3,h4,h5=>by
  cases fu with
  |zero=>omega
  |succ fu=>rw[iter,hL _ h1 h2 h3 (by simp_all)];rfl
 |x::xs,n,dl,fu,h1,h2,h3,h4,h5=>by
  simp only[aee] at h1 h4 h5
  cases fu with
  |zero=>omega
  |succ fu=>
   rw[iter,hL ⟨n,x::xs,dl⟩ oaa h2 h3 (by grind),qW]
   simp only
   by_cases e:x.cH=n/\dl.length<24
   .rw[if_pos e,if_pos e]
    exact Er hL xs (n+1) _ fu oaa (by simp;omega) oaa oaa oaa
   grind
theorem Yl{xs:List ah}(h:xs.length<=1048576)(q:Int):∃r,Ix xs q=ς r/\leB 0 r=xs.any (λy=>eqB y.cH q):=by
 refine⟨_,xz (L:=wH xs q) xs (λy=>eqB y.cH q) oaa (λk x hx hk=>?_) ?_,?_⟩
 .simp[wH,cy hk,hx];cases eqB x.cH q<;>simp[WRs (k:=k)]
 .simp[wH]
 rcases Ex (λy:ah=>eqB y.cH q) xs 0 with⟨e,ha⟩|⟨j,e,x,hx,hp,_⟩
 .rw[show((0:Nat):Int)=0 from rfl] at e
  rw[e,show xs.any (λy=>eqB y.cH q)=η from by simp_all];simp[leB]
 rw[show((0:Nat):Int)=0 from rfl] at e
 rw[e,show xs.any (λy=>eqB y.cH q)=ζ from List.any_eq_true.2 ⟨x,abl hx,hp⟩,leB_t];omega
theorem ZQ(h:r.aV.length<=1048576)(q:Int):Cu r q=ς (r.aV.any (λy=>eqB y.cH q)):=
 M5 (L:=sm r q) r.aV (λy=>eqB y.cH q) oaa (λk x hx hk=>by
  simp[sm,cy hk,hx];cases eqB x.cH q<;>simp[WRs (k:=k)]) (by simp[sm])
theorem uy(h:qQ r=ζ):r.bw=(r.bv.length:Int)+1/\r.bv.length<=24/\r.aV.length<=8:=by
 simp only[qQ,v0] at h
 obtain⟨h1,h2,h3,h4,h5⟩:=h
 have h2:=vK h2
 have h4:=vK h4
 have h1:=gj h1
 rw[bN oaa] at h1
 omega
theorem Ao(x:ah)(xs:List ah):(px x xs).length=xs.length+1:=by
 have:(xs.takeWhile (before x.cH)).length+(xs.dropWhile (before x.cH)).length=xs.length:=by rw[<-aeu,ago]
 simp[px];omega
theorem L2_i:∀v:a9,v.aV.length<=1000->v.bv.length<=24->0<=v.bw->v.bw<=2000000->md v=match v.aV with
 |[]=>ς (.done v)
 |x::xs=>if x.cH=v.bw/\v.bv.length<24 then ς (.next ⟨v.bw+1,xs,v.bv++[⟨x.bh⟩]⟩) else ς (.done v):=by
 rintro⟨n,p,dl⟩ h1 h2 h3 h4
 cases p with
 |nil=>simp[md]
 |cons x xs=>
  simp only[aee] at h1 h2
  have i0:ix (x::xs) 0=ς x:=by simp[ix,leB]
  have hlt:ltB 0 (((x::xs).length:Nat):Int)=true:=ltB_t.2 (by simp_all)
  simp only[md,i0,hlt,au]
  by_cases e:x.cH=n
  .by_cases e2:dl.length<24
   .rw[if_pos ⟨e,e2⟩,eqB_t.2 e,show ltB (dl.length:Int) 24=ζ from ltB_t.2 oaa]
    have a1:da 24 (dl++[(⟨x.bh⟩:bI)]).length=true:=cE oaa (by simp;omega)
    have a2:eQ (x::xs) 1 (((x::xs).length:Nat):Int)=true:=by simp[eQ];omega
    simp only[a1,a2,bN (n:=n+1) (by grind),au]
    rfl
   rw[if_neg (λh=>e2 h.2),eqB_t.2 e,show ltB (dl.length:Int) 24=η from ltB_f.2 oaa];rfl
  rw[if_neg (λh=>e h.1),eqB_f.2 e];rfl
theorem L2_s:∀v:a9,v.aV.length<=1000->v.bv.length<=24->0<=v.bw->v.bw<=2000000->wy v=match v.aV with
 |[]=>ς (.done v)
 |x::xs=>if x.cH=v.bw/\v.bv.length<24 then ς (.next ⟨v.bw+1,xs,v.bv++[⟨x.bh⟩]⟩) else ς (.done v):=L2_i
theorem Eo(b:Bool)(x y:α):(bif b then ς x else ς y)=ς (bif b then x else y):=by grind
theorem Tc(a b c d e:Bool):(bif !a then ς ζ else bif b then ς ζ else bif !c then ς ζ else bif d then ς ζ else ς e)=ς (!a||(b||(!c||(d||e)))):=by grind
theorem take_s(h:fE r) :qB r x=ς (iX r x):=by
 obtain⟨q,hq,hq2⟩:=Yl h.1.1 x.cH
 have hw:qQ r=ζ->inR x.cH r.bw (WR (WR (r.bw+8)-1))=inR x.cH r.bw (r.bw+7):=λhv=>by
  have:=uy hv
  rw[bN (n:=r.bw+8) oaa,bN oaa,show r.bw+8-1=r.bw+7 by omega]
 have hl:(bif !qQ r then ς ζ else(bif ltB 60 (x.bh.length:Int) then ς ζ else(bif !(inR x.cH r.bw (WR (WR (r.bw+8)-1))) then ς ζ else(bif leB 0 q then ς ζ else ς (leB 24 (r.bv.length:Int))))))=ς (xG r x):=by
  rw[hq2,Tc]
  cases hv:qQ r
  .simp[xG,hv]
  rw[hw hv];simp[xG,hv]
 simp only[qB,Z4 h,Z6 h.2.1 h.1.1,fQ,hq,afY,hl]
 rw[iX]
 cases hlt:xG r x
 .simp only[xG,adi,af5] at hlt
  obtain⟨l1,l2,l3,l4,l5⟩:=hlt
  have hv:=uy l1
  have l2:=ou l2
  have l5:=xh l5
  have hw2:=IJ (before x.cH) r.aV
  have hrun:=zr (L:=mq x r) r.aV (before x.cH) oaa (λk y hy=>by
   have hk:=(abb.1 hy).1
   simp[mq,cy hk,hy,before]) (by simp[mq])
  have hxs:([]:List ah)++r.aV.take ((((r.aV.takeWhile (before x.cH)).length:Nat):Int)).toNat++[(⟨x.cH,[]++x.bh⟩:ah)]++r.aV.drop ((((r.aV.takeWhile (before x.cH)).length:Nat):Int)).toNat=px x r.aV:=by
   simp[IK,II,px]
  have a1:eQ r.aV 0 (((r.aV.takeWhile (before x.cH)).length:Nat):Int)=true:=by simp[eQ];omega
  have a2:eQ r.aV (((r.aV.takeWhile (before x.cH)).length:Nat):Int) (r.aV.length:Int)=true:=by simp[eQ];omega
  have a3:da 1 (([]:List Int)++x.bh).length=true:=cE oaa (by simp;omega)
  have a4:da 32 (([]:List ah)++r.aV.take ((((r.aV.takeWhile (before x.cH)).length:Nat):Int)).toNat).length=true:=cE oaa (by simp;omega)
  have a5:da 32 (([]:List ah)++r.aV.take ((((r.aV.takeWhile (before x.cH)).length:Nat):Int)).toNat++[(⟨x.cH,[]++x.bh⟩:ah)]).length=true:=cE oaa (by simp;omega)
  simp only[hrun,a1,a2,a3,a4,a5,au]
  rw[hxs,cE oaa (show(px x r.aV).length<=1048577 by grind),Er L2_s (px x r.aV) r.bw r.bv FU (by grind) oaa oaa (by grind) (by have:=gH;grind)]
  have hd:=JQ (px x r.aV) r.bw r.bv oaa
  simp only[Eo,au]
  rw[show eqB (((qW (px x r.aV) r.bw r.bv).bv.length:Nat):Int) 24=leB 24 (((qW (px x r.aV) r.bw r.bv).bv.length:Nat):Int) from by rw[af0];simp[eqB,leB];omega]
  cases leB 24 (((qW (px x r.aV) r.bw r.bv).bv.length:Nat):Int)<;>rfl
 rfl
theorem SY(xs ys:List α)(z x:α):((cpD ((xs++ys)++[z]) (xs.length+1) (((xs++ys)++[z]).drop xs.length)).set xs.length x)=xs++[x]++ys:=by
 have e1:((xs++ys)++[z]).drop xs.length=ys++[z]:=by rw[agk,ags]
 have e2:((xs++ys)++[z]).drop (xs.length+1)=(ys++[z]).drop 1:=by rw[<-aeK,e1]
 have e3:((xs++ys)++[z]).take (xs.length+1)=xs++(ys++[z]).take 1:=by rw[agk,List.take_append,agd oaa];simp
 rw[cpD,e1,e2,e3,cpL]
 cases ys with
 |nil=>simp
 |cons y ys=>simp_all
theorem take_i(h:fE r) :pP r x=ς (iX r x):=by
 have hw:qQ r=ζ->inR x.cH r.bw (WR (WR (r.bw+8)-1))=inR x.cH r.bw (r.bw+7):=λhv=>by
  have:=uy hv
  rw[bN (n:=r.bw+8) oaa,bN oaa,show r.bw+8-1=r.bw+7 by omega]
 have hl:(bif !qQ r then ς ζ else(bif ltB 60 (x.bh.length:Int) then ς ζ else(bif !(inR x.cH r.bw (WR (WR (r.bw+8)-1))) then ς ζ else(bif r.aV.any (λy=>eqB y.cH x.cH) then ς ζ else ς (leB 24 (r.bv.length:Int))))))=ς (xG r x):=by
  rw[Tc]
  cases hv:qQ r
  .simp[xG,hv]
  rw[hw hv];simp[xG,hv]
 simp only[pP,TQ h,Z5 h.2.1 h.1.1,gE,ZQ h.1.1,afY,hl]
 rw[iX]
 cases hlt:xG r x
 .simp only[xG,adi,af5] at hlt
  obtain⟨l1,l2,l3,l4,l5⟩:=hlt
  have hv:=uy l1
  have l2:=ou l2
  have l5:=xh l5
  have hw2:=IJ (before x.cH) r.aV
  have hrun:=zr (L:=mc x r) r.aV (before x.cH) oaa (λk y hy=>by
   have hk:=(abb.1 hy).1
   simp[mc,cy hk,hy,before]) (by simp[mc])
  generalize hm:(r.aV.takeWhile (before x.cH)).length=m at*
  have hxs:(cpD (r.aV++[b7]) (m+1) ((r.aV++[b7]).drop m)).set m (⟨x.cH,x.bh⟩:ah)=px x r.aV:=by
   have:=SY (r.aV.takeWhile (before x.cH)) (r.aV.dropWhile (before x.cH)) b7 x
   rw[ago,hm] at this
   exact this
  have w1:WR ((m:Int)+1)=((m+1:Nat):Int):=pA oaa
  have a1:eQ (r.aV++[b7]) ((m+1:Nat):Int) (((r.aV++[b7]).length:Nat):Int)=true:=by simp[eQ];omega
  have a2:eQ (r.aV++[b7]) (m:Int) (((r.aV++[b7]).length:Nat):Int)=true:=by simp[eQ];omega
  have a3:da 32 (r.aV++[b7]).length=true:=cE oaa (by simp;omega)
  obtain⟨y,_,hy⟩:=YZ (xs:=cpD (r.aV++[b7]) (m+1) ((r.aV++[b7]).drop m)) (i:=(m:Int)) oaa (by simp;omega)
  simp only[hrun,w1,afZ,a1,a2,a3,yq (show x.bh.length<=1048576 by omega),hy,au]
  rw[hxs,Er L2_i (px x r.aV) r.bw r.bv FU (by rw[Ao];omega) oaa oaa (by rw[Ao];omega) (by have:=gH;rw[Ao];omega)]
  grind
 rfl
def eW(d:aA):aG:=lN d.aZ ⟨5,d.aS,d.ae,d.aK,0,cO,0⟩
def iY(d:aA):aG:={fH with bb:=1,aS:=d.aS}
def ef(d:aA):bi:=
 bif ltB 0 d.dy then⟨{d with dy:=d.dy-1},[]⟩ else bif eqB d.aX 1 then⟨{d with dy:=3},[iY d]⟩ else bif eqB d.aX 2&&!d.bT then⟨{d with dy:=3},[eW d]⟩ else⟨d,[]⟩
def dOn(d:aA):bi:=bif eqB d.aX 0 then⟨{d with aX:=1,dy:=3},[iY d]⟩ else⟨d,[]⟩
def lA(d:aA):bi:=⟨{d with bT:=η,dy:=3},[eW d]⟩
def sJ(d:aA)(c:Int):bi:=
 bif eqB c d.aS||!inR c 0 5 then⟨d,[]⟩ else bif eqB d.aX 2&&ltB d.aK 999999 then lA {d with aS:=c,aK:=d.aK+1} else⟨{d with aS:=c},[]⟩
def zY(d:aA)(m:aG):bi:=
 bif eqB (kL d.dq.eV d.dq.dh m.bZ) 0 then
  ⟨{d with dq:={d.dq with dh:=unm d.dq.eV m.bZ.eJ m.bZ.gD},ae:=m.ae,aZ:=(vec d.dq.eV m.bZ.eJ (unm d.dq.eV m.bZ.eJ m.bZ.gD)).eV},
   [⟨3,d.aS,m.ae,0,dW d.dq.eV [3,m.bZ.eJ],cO,0⟩]⟩
 else⟨d,[]⟩
def iU(d:aA)(m:aG):bi:=
 bif !eS m||(!eqB m.aS d.aS||eqB d.aX 0) then⟨d,[]⟩ else
 bif eqB m.bb 2&&eqB d.aX 1 then zY d m else
 bif eqB m.bb 4&&(eqB d.aX 1&&(o7 d.aZ&&(eqB m.ae d.ae&&mr d.aZ m))) then⟨{d with aX:=2,aK:=m.aK,bT:=ζ},[]⟩ else
 bif eqB m.bb 6&&(eqB d.aX 2&&(eqB m.ae d.ae&&(eqB m.aK d.aK&&mr d.aZ m))) then⟨{d with bT:=ζ},[]⟩ else
 bif eqB m.bb 7&&(eqB d.aX 3&&ltB d.aK 999999) then lA {d with aX:=2,aK:=d.aK+1} else
 bif eqB m.bb 7&&eqB d.aX 2 then lA d else⟨d,[]⟩
def vH(d:aA)(r:a9):aG:=lN d.aZ ⟨8,d.aS,d.ae,d.aK,r.bw,cO,0⟩
def kq(d:aA)(x:aF):bi:=
 let o:=mM d.aZ d.ae d.aK x
 bif eqB d.aX 2&&o.2 then⟨{d with bm:=iX d.bm o.1},[vH d (iX d.bm o.1)]⟩ else⟨d,[]⟩
def uL(d:aA):aA:=bif eqB d.aX 2 then {d with aX:=3} else d
theorem Ma{d:aA}(h:ew d):vm d=ς ⟨d,[]⟩:=by simp[vm,Da h]
theorem QR(d:aA):xZ d=ς (eW d):=by simp[xZ,EV,eW]
theorem ZP(d:aA):sR d=ς (eW d):=by simp[sR,Mv,eW]
theorem res_i{d:aA}(h:ew d){l:List aG}(hl:l.length<=1048576):cV d l=ς ⟨d,l⟩:=by simp[cV,P9 h,aaK hl]
theorem tv{d:aA}(h:ew d):cV d []=ς ⟨d,[]⟩:=res_i h (by simp)
theorem H3{d:aA}(h:ew d)(m:aG):cV d [m]=ς ⟨d,[m]⟩:=res_i h (by simp)
theorem tick_s{d:aA}(h:ew d)(hw:d.dy<=3):wC d=ς (ef d):=by
 simp only[wC,Da h,afY,vl,oF,QR,ef]
 cases hb:ltB 0 d.dy
 .cases eqB d.aX 1<;>cases eqB d.aX 2<;>cases hp:d.bT<;>rfl
 have:=kO hb
 rw[bN oaa];rfl
theorem tick_i{d:aA}(h:ew d)(hw:d.dy<=3):vZ d=ς (ef d):=by
 have h2:∀w,ew {d with dy:=w}:=λ_=>h
 simp only[vZ,tv h,tv (h2 _),H3 (h2 _),oi,ZP,afY,ef]
 cases hb:ltB 0 d.dy
 .cases eqB d.aX 1<;>cases eqB d.aX 2<;>cases hp:d.bT<;>rfl
 have:=kO hb
 rw[bN oaa];rfl
theorem on_s{d:aA}(h:ew d):AK d=ς (dOn d):=by
 simp only[AK,Ma h,Da h,afY,vl,oF,dOn]
 cases eqB d.aX 0<;>rfl
theorem on_i{d:aA}(h:ew d):Dj d=ς (dOn d):=by
 simp only[Dj,tv h,H3 (d:={d with aX:=1,dy:=3}) h,afY,oi,dOn]
 cases eqB d.aX 0<;>rfl
theorem Zz{d:aA}(he:0<=d.aK/\d.aK<=999999):AU d=ς (lA {d with aK:=d.aK+1}):=by
 simp only[AU,QR,afY,oF]
 rw[bN oaa];rfl
theorem Xu{d:aA}(h:ew d):jf d=ς (lA d):=by
 simp only[jf,ZP,afY,H3 (d:={d with bT:=η,dy:=3}) h];rfl
theorem move_s{d:aA}(h:ew d)(he:0<=d.aK/\d.aK<=999999)(c:Int):wr d c=ς (sJ d c):=by
 simp only[wr,Ma h,Da h,afY,fQ,Zz (d:={d with aS:=c}) he,sJ]
 grind
theorem move_i{d:aA}(h:ew d)(he:0<=d.aK/\d.aK<=999999)(c:Int):vW d c=ς (sJ d c):=by
 simp only[vW,tv h,tv (d:={d with aS:=c}) h,Xu (d:={d with aS:=c,aK:=WR (d.aK+1)}) h,afY,gE,sJ,uW]
 rw[bN oaa]
 grind
theorem tok_s(k r last:Int):∃t,uc k r last=ς t:=by
 simp only[uc,fQ,afY,eD (show [5,r,last].length<=100000 by simp),Bv _ (show(1:Int)<=1000 by omega) oaa]
 cases inR last 0 999999<;>exact⟨_,rfl⟩
theorem tok_i(k r last:Int):∃t,tL k r last=ς t:=by
 simp only[tL,gE,afY,eC (show [5,r,last].length<=1048576 by simp)]
 cases inR last 0 999999<;>exact⟨_,rfl⟩
theorem ask_s{d:aA}(h:ew d)(hc:ye d.dq=ζ)(m:aG):BB d m=ς (zY d m):=by
 obtain⟨t,ht⟩:=tok_s d.dq.eV m.bZ.eJ d.dq.dh
 simp only[BB,nR,aa5,hc,Uj,unm_s,Ul,eD (show [3,m.bZ.eJ].length<=100000 by simp),ht,Da h,zY,au]
 cases h0:eqB (kL d.dq.eV d.dq.dh m.bZ) 0
 .grind
 simp[jy]
theorem ask_i{d:aA}(h:ew d)(hc:ye d.dq=ζ)(m:aG):ny d m=ς (zY d m):=by
 obtain⟨t,ht⟩:=tok_i d.dq.eV m.bZ.eJ d.dq.dh
 have hl: -9000000000000<=d.dq.dh/\d.dq.dh<=9000000000000:=by
  simp only[ye,v0,bE] at hc;omega
 simp only[ny,nP,aa4,hc,aeb hl,unm_i,vec_i,eC (show [3,m.bZ.eJ].length<=1048576 by simp),ht,zY,au]
 cases h0:eqB (kL d.dq.eV d.dq.dh m.bZ) 0
 .cases h2:eqB (kL d.dq.eV d.dq.dh m.bZ) 2<;>cases h3:eqB (kL d.dq.eV d.dq.dh m.bZ) 3<;>simp[h0,tv h]
 simp only[h0,au]
 rw[H3 (d:={d with dq:={d.dq with dh:=unm d.dq.eV m.bZ.eJ m.bZ.gD},ae:=m.ae,aZ:=(vec d.dq.eV m.bZ.eJ (unm d.dq.eV m.bZ.eJ m.bZ.gD)).eV}) h]
 rfl
theorem sig_s{d:aA}(h:ew d)(hc:ye d.dq=ζ)(he:0<=d.aK/\d.aK<=999999)(m:aG):qC d m=ς (iU d m):=by
 simp only[qC,Tz,Ma h,Da h,ask_s h hc,N5,MJ,Zz (d:={d with aX:=2}) he,QR,oF,afY,iU]
 cases eS m<;>cases eqB m.aS d.aS<;>cases eqB d.aX 0<;>try rfl
 simp only[af7,au]
 cases eqB m.bb 2<;>cases eqB d.aX 1<;>try rfl
 all_goals cases eqB m.bb 4<;>cases o7 d.aZ<;>cases eqB m.ae d.ae<;>cases mr d.aZ m<;>cases eqB m.bb 6<;>cases eqB d.aX 2<;>cases eqB m.aK d.aK<;>cases eqB m.bb 7<;>cases eqB d.aX 3<;>cases ltB d.aK 999999<;>rfl
theorem Et{a c:Int}(h:eqB a b=ζ)(hn:b≠c):eqB a c=false:=by simp_all
theorem sig_i{d:aA}(h:ew d)(hc:ye d.dq=ζ)(he:0<=d.aK/\d.aK<=999999)(m:aG):pQ d m=ς (iU d m):=by
 have a1:jf d=ς (lA d):=Xu h
 have a2:jf {d with aX:=2,aK:=WR (d.aK+1)}=ς (lA {d with aX:=2,aK:=d.aK+1}):=by rw[bN oaa];exact Xu (d:={d with aX:=2,aK:=d.aK+1}) h
 have a3:cV {d with aX:=2,aK:=m.aK,bT:=ζ} []=ς ⟨{d with aX:=2,aK:=m.aK,bT:=ζ},[]⟩:=tv (d:={d with aX:=2,aK:=m.aK,bT:=ζ}) h
 have a4:∀b,cV {d with bT:=b} []=ς ⟨{d with bT:=b},[]⟩:=λb=>tv (d:={d with bT:=b}) h
 simp only[pQ,Ty,ask_i h hc,N4,RJ,a1,a2,a4,tv h,afY,iU]
 cases eS m<;>cases eqB m.aS d.aS<;>cases eqB d.aX 0<;>try rfl
 simp only[af7,au]
 cases h2:eqB m.bb 2
 .cases h4:eqB m.bb 4
  .cases h6:eqB m.bb 6
   .cases h7:eqB m.bb 7
    .rfl
    cases eqB d.aX 3<;>cases ltB d.aK 999999<;>cases eqB d.aX 2<;>rfl
   rw[Et h6 (show(6:Int)≠7 by omega)]
   cases eqB d.aX 2<;>cases eqB m.ae d.ae<;>cases eqB m.aK d.aK<;>cases mr d.aZ m<;>rfl
  rw[Et h4 (show(4:Int)≠6 by omega),Et h4 (show(4:Int)≠7 by omega)]
  cases eqB d.aX 1<;>cases o7 d.aZ<;>cases eqB m.ae d.ae<;>cases mr d.aZ m<;>first|(simp only[a3,tv h,afD,af6,afJ,agp,au];done)|(simp[a3,tv h];done)
 rw[Et h2 (show(2:Int)≠4 by omega),Et h2 (show(2:Int)≠6 by omega),Et h2 (show(2:Int)≠7 by omega)]
 cases eqB d.aX 1<;>rfl
def Tx(x:aF):Prop:=okB x.bO.bh
theorem rad_s{d:aA}(h:ew d){x:aF}(hx:Tx x):sB d x=ς (kq d x):=by
 simp only[sB,(Kg hx _ _ _).2,Ma h,Da h,take_s h,EV,afY,kq]
 cases eqB d.aX 2<;>cases(mM d.aZ d.ae d.aK x).2<;>rfl
theorem O7(h:fE r)(x:ah):fE (iX r x):=by
 rw[iX]
 cases hlt:xG r x
 .simp only[xG,adi,af5] at hlt
  obtain⟨l1,l2,l3,l4,l5⟩:=hlt
  have hv:=uy l1
  have l2:=ou l2
  have hi:okL gA (px x r.aV):=by
   refine⟨by rw[Ao];omega,λy hy=>?_⟩
   simp only[px,ab1,afn] at hy
   rcases hy with(hy|hy)|hy
   .exact h.1.2 y (agA _ hy)
   .subst hy;exact⟨by omega,λ_ _=>trivial⟩
   exact h.1.2 y (agq _ hy)
  have hd:∀(xs:List ah) (n:Int) (dl:List bI),okL gA xs->(∀p∈dl,u5 p)->dl.length<=24->fE (qW xs n dl):=by
   intro xs
   induction xs with
   |nil=>exact λn dl h1 h2 h3=>⟨h1,by show dl.length<=1048576;omega,h2⟩
   |cons y ys ih=>
    intro n dl h1 h2 h3
    rw[qW];split
    .exact ih _ _ ⟨by have:=h1.1;grind,λz hz=>h1.2 z (by simp[hz])⟩ (λp hp=>by
      rcases ab1.1 hp with hp|hp
      .exact h2 p hp
      simp at hp;subst hp;exact h1.2 y (by simp)) (by simp;omega)
    exact⟨h1,by grind,h2⟩
  have:=hd _ r.bw r.bv hi h.2.2 oaa
  simp only[cond_false]
  cases leB 24 (((qW (px x r.aV) r.bw r.bv).bv.length:Nat):Int)
  .exact this
  exact⟨⟨by simp,by simp⟩,this.2⟩
 exact h
theorem rad_i{d:aA}(h:ew d){x:aF}(hx:Tx x):rY d x=ς (kq d x):=by
 simp only[rY,(Kg hx _ _ _).1,tv h,take_i h,Mv,afY,kq]
 cases eqB d.aX 2
 .rfl
 cases(mM d.aZ d.ae d.aK x).2
 .rfl
 simp only[afD,au]
 rw[H3 (d:={d with bm:=iX d.bm (mM d.aZ d.ae d.aK x).1}) (O7 h _)]
 rfl
theorem idle_s{d:aA}(h:ew d):yV d=ς (uL d):=by
 simp only[yV,Da h,afY,uL];cases eqB d.aX 2<;>rfl
theorem idle_i{d:aA}(h:ew d):yB d=ς (uL d):=by
 have a:∀v,mH {d with aX:=v}=ς {d with aX:=v}:=λv=>P9 (d:={d with aX:=v}) h
 simp only[yB,a,afY,uL];cases eqB d.aX 2<;>rfl
theorem SU{α:Type}(p:α->Bool)(x:α)(d:List α)(hx:p x=ζ):∀(t:List α) (i:Nat),(∀y∈t,p y=η)->qd p (i:Int) (t++x::d)=((i+t.length:Nat):Int)
 |[],i,_=>by simp[qd,hx]
 |y::t,i,h=>by
  rw[aes,qd,h y (by simp),cond_false]
  have:=SU p x d hx t (i+1) (λz hz=>h z (by simp[hz]))
  grind
theorem SV{α:Type}(p:α->Bool):∀(t:List α) (i:Int),(∀y∈t,p y=η)->qd p i t= -1
 |[],i,_=>rfl
 |y::t,i,h=>by rw[qd,h y (by simp),cond_false];exact SV p t _ λz hz=>h z (by simp[hz])
def FG:List aU->Int->Int->List aU
 |[],i,n=>[⟨i,n⟩]
 |x::xs,i,n=>if x.aO<i then x::FG xs i n else if x.aO=i then⟨i,x.eo+n⟩::xs else⟨i,n⟩::x::xs
def Le:List aU->Int->Int->List aU
 |[],i,n=>[]
 |x::xs,i,n=>if x.aO=i then(if n<x.eo then⟨i,x.eo-n⟩::xs else xs) else x::Le xs i n
def zk(h:List aU):Int:=(h.map aU.eo).sum
structure sG(a:av):Prop where
 t:0<=a.iA/\a.iA<=100000
 v:0<=a.bL/\a.bL<=a.iA
 s:0<=a.d9/\a.d9<=a.iA
 l:a.aD.length<=8
 r:∀x∈a.aD,0<=x.aO/\1<=x.eo/\x.eo<=100000
 o:a.aD.Pairwise λx y=>x.aO<y.aO
 e:a.bL+a.d9+zk a.aD=a.iA
theorem Kj{α:Type}{key:α->Int}:∀{xs:List α},(∀(k:Nat) (x y:α),xs[k]?=ς x->xs[k+1]?=ς y->key x<key y)->xs.Pairwise λx y=>key x<key y
 |[],_=>.nil
 |[x],_=>by simp
 |x::y::xs,h=>by
  have ih:=Kj (xs:=y::xs) (key:=key) λk a b h1 h2=>h (k+1) a b (by simp_all) (by simp_all)
  have hxy:=h 0 x y rfl rfl
  refine List.Pairwise.cons (λz hz=>?_) ih
  rcases acb.1 hz with e|hz
  .simp_all
  exact Int.lt_trans hxy (agy ih hz)
theorem JA{key:α->Int}{xs:List α}(h:∀(k:Nat) (x:α),xs[k]?=ς x->kQ key xs k x=ζ):xs.Pairwise λx y=>key x<key y:=by
 refine Kj λk x y h1 h2=>?_
 have:=h (k+1) y h2
 simp only[kQ,h1,aet] at this
 simp_all
theorem F8{key:α->Int}{xs:List α}(h:xs.Pairwise λx y=>key x<key y){x:α}(hx:xs[k]?=ς x):kQ key xs k x=true:=by
 cases k with
 |zero=>rfl
 |succ k=>
  have hl:=(abb.1 hx).1
  simp only[kQ,aa9 (show k<xs.length by omega),aet]
  rw[leB_f]
  have:=List.pairwise_iff_getElem.1 h k (k+1) oaa hl oaa
  simp_all
theorem foldS:∀(h:List aU) (s:Int),(∀x∈h,0<=x.eo/\x.eo<=100000)->0<=s->s+100000*h.length<=9000000000000->h.foldl (λs x=>WR (s+x.eo)) s=s+zk h
 |[],s,_,_,_=>by simp[zk]
 |x::h,s,hx,h0,h1=>by
  have hh:=hx x (by simp)
  simp only[aee] at h1
  rw[agm,bN oaa,foldS h _ (λy hy=>hx y (by simp[hy])) oaa oaa]
  simp[zk];omega
theorem Ug(l:a.aD.length<=8)(r:∀x∈a.aD,0<=x.aO/\1<=x.eo/\x.eo<=100000):Wr a=zk a.aD:=by
 rw[Wr,foldS _ _ (λx hx=>by grind) oaa oaa];omega
theorem wX:∀{h:List aU},(∀x∈h,0<=x.aO/\1<=x.eo/\x.eo<=100000)->0<=zk h/\zk h<=100000*h.length/\∀x∈h,x.eo<=zk h
 |[],_=>by simp[zk]
 |x::h,r=>by
  have ih:=wX (h:=h) λy hy=>r y (by simp[hy])
  have hx:=r x (by simp)
  have e:zk (x::h)=x.eo+zk h:=by simp[zk]
  grind
theorem A6:mY a=ζ↔sG a:=by
 constructor
 .intro h
  simp only[mY,v0,bE,eN] at h
  obtain⟨h1,h2,h3,h4,h5,h6⟩:=h
  have h4:=vK h4
  have r:∀x∈a.aD,0<=x.aO/\1<=x.eo/\x.eo<=100000:=λx hx=>by
   obtain⟨k,hk⟩:=aej hx
   have:=h5 k x hk
   simp only[Jt,v0,aet,bE] at this
   simp_all
  have hs:=wX r
  refine⟨h1,h2,h3,by omega,r,JA λk x hk=>?_,?_⟩
  .have:=h5 k x hk
   simp only[Jt,v0] at this
   simp_all
  have h6:=gj h6
  rw[Ug oaa r,bN (n:=a.bL+a.d9) oaa,bN oaa] at h6
  exact h6
 rintro⟨h1,h2,h3,h4,r,h5,h6⟩
 have hs:=wX r
 simp only[mY,v0,bE,eN]
 refine⟨h1,h2,h3,leB_t.2 oaa,λk x hk=>?_,eqB_t.2 ?_⟩
 .have hx:=r x (abl hk)
  simp only[Jt,v0,aet,bE]
  exact⟨ltB_f.2 oaa,by omega,F8 h5 hk⟩
 rw[Ug oaa r,bN (n:=a.bL+a.d9) oaa,bN oaa]
 exact h6
theorem sG.ok(h:sG a):iO a:=⟨by have:=h.l;omega,λ_ _=>trivial⟩
theorem Nt{h:List aU}(o:h.Pairwise λx y=>x.aO<y.aO)(i:Int):
 (∃t m d,h=t++⟨i,m⟩::d/\(∀x∈t,x.aO<i)/\∀x∈d,i<x.aO)\/(∃t d,h=t++d/\(∀x∈t,x.aO<i)/\∀x∈d,i<x.aO):=by
 induction h with
 |nil=>exact .inr ⟨[],[],rfl,by simp,by simp⟩
 |cons x h ih=>
  have hx:=λy hy=>agy o (a':=y) hy
  by_cases h1:x.aO<i
  .grind
  by_cases h2:x.aO=i
  .exact .inl ⟨[],x.eo,h,by rw[<-h2];rfl,by simp,λy hy=>by simp_all⟩
  refine .inr ⟨[],x::h,rfl,by simp,λy hy=>?_⟩
  grind
theorem K5{d:List aU}{m n:Int}(h:∀x∈t,x.aO<i):FG (t++⟨i,m⟩::d) i n=t++⟨i,m+n⟩::d:=by
 induction t with
 |nil=>simp[FG]
 |cons x t ih=>rw[aes,FG,if_pos (h x (by simp)),ih λy hy=>h y (by simp[hy])];rfl
theorem K6{d:List aU}{n:Int}(h:∀x∈t,x.aO<i)(h2:∀x∈d,i<x.aO):FG (t++d) i n=t++⟨i,n⟩::d:=by
 induction t with
 |nil=>cases d with
  |nil=>rfl
  |cons y d=>have:=h2 y (by simp);rw[afl,FG,if_neg oaa,if_neg oaa];rfl
 |cons x t ih=>rw[aes,FG,if_pos (h x (by simp)),ih λy hy=>h y (by simp[hy])];rfl
theorem Lf{d:List aU}{m n:Int}(h:∀x∈t,x.aO<i):Le (t++⟨i,m⟩::d) i n=t++(if n<m then⟨i,m-n⟩::d else d):=by
 induction t with
 |nil=>simp[Le]
 |cons x t ih=>rw[aes,Le,if_neg (by grind),ih λy hy=>h y (by simp[hy])];rfl
theorem pt{d:List aU}{m:Int}(e:a.aD=t++⟨i,m⟩::d)(h:∀x∈t,x.aO<i):jE a i=m:=by
 rw[jE,e,List.find?_append,show t.find? (λx=>eqB x.aO i)=ξ from by rw[List.find?_eq_none];intro x hx;have:=h x hx;simp[eqB];omega]
 simp[eqB]
theorem ut(h:∀x∈a.aD,x.aO≠i):jE a i=0:=by
 rw[jE,show a.aD.find? (λx=>eqB x.aO i)=ξ from by simp_all]
theorem aa1{d:List aU}(h:∀x∈t,x.aO<i)(h2:∀x∈d,i<=x.aO):((t++d).takeWhile λx=>ltB x.aO i)=t:=by
 rw[List.takeWhile_append_of_pos (λx hx=>ltB_t.2 (h x hx))]
 cases d with
 |nil=>simp
 |cons y d=>simp_all
theorem F4{L:Int->Option (cj Int Int)}(ok:sG a)(hL:∀v1,L v1=bif ltB v1 (a.aD.length:Int) then(afW (ix a.aD v1) λx2=>bif eqB x2.aO i then(dn (ς v1)) else(ς (.next (WR (v1+1))))) else(dn (ς (-1)))):
 iter L FU 0=ς (qd (λx=>eqB x.aO i) 0 a.aD):=by
 have:=ok.l
 exact xz (L:=L) a.aD (λx=>eqB x.aO i) oaa (λk x hx hk=>by
  simp only[hL,cy hk,bB,hx,WRs (k:=k),au]
  rfl) (by simp[hL,dn])
theorem Rm(ok:sG a){n:Int}(h0:0<=n/\n<=100000):Gc a.aD i n=ς (FG a.aD i n):=by
 have hl:=ok.l
 have hrun:=zr (L:=y7 a.aD i) a.aD (λx=>ltB x.aO i) oaa (λk x hx=>by
  have hk:=(abb.1 hx).1
  simp[y7,cy hk,hx]) (by simp[y7])
 rw[Gc,hrun]
 rcases Nt ok.o i with⟨t,m,d,e,h1,h2⟩|⟨t,d,e,h1,h2⟩
 .have hm:m<=100000/\1<=m:=by have:=ok.r ⟨i,m⟩ (by rw[e];simp);simp only at this;omega
  have htl:t.length+1<=8:=by have:=congrArg agj e;simp at this;omega
  rw[e,aa1 h1 (λx hx=>by grind),K5 h1]
  have hx:(t++(⟨i,m⟩:aU)::d)[t.length]?=ς ⟨i,m⟩:=by simp
  have a1:da 16 (t++(⟨i,m⟩:aU)::d).length=true:=cE oaa (by grind)
  simp only[cy (show t.length<(t++(⟨i,m⟩:aU)::d).length by simp),bB,hx,afl,a1,bj,afZ,bN (n:=m+n) oaa,au]
  simp
 have htl:t.length<=8/\d.length<=8:=by have:=congrArg agj e;simp at this;omega
 rw[e,aa1 h1 (λx hx=>by grind),K6 h1 h2]
 have hc:(bif ltB (t.length:Int) (((t++d).length:Nat):Int) then(afW (ix (t++d) (t.length:Int)) λx8=>ς (eqB x8.aO i)) else ς η)=ς false:=by
  cases d with
  |nil=>simp
  |cons y d=>
   have:=h2 y (by simp)
   rw[cy (show t.length<(t++y::d).length by simp),bB,show(t++y::d)[t.length]?=ς y by simp,afY,eqB_f.2 (show y.aO≠i by omega)];rfl
 have a1:eQ (t++d) 0 (t.length:Int)=true:=by simp[eQ];omega
 have a2:eQ (t++d) (t.length:Int) (((t++d).length:Nat):Int)=true:=by simp[eQ];omega
 have a3:da 16 t.length=true:=cE oaa oaa
 have a4:da 16 (t++[(⟨i,n⟩:aU)]).length=true:=cE oaa (by simp;omega)
 have a5:da 16 (t++[(⟨i,n⟩:aU)]++d).length=true:=cE oaa (by simp;omega)
 simp_all
theorem LH{d:List aU}{m:Int}(h1:∀x∈t,x.aO<i):qd (λx=>eqB x.aO i) 0 (t++(⟨i,m⟩:aU)::d)=(t.length:Int):=by
 have:=SU (λx:aU=>eqB x.aO i) ⟨i,m⟩ d (by simp) t 0 (λy hy=>eqB_f.2 (by grind))
 simp_all
theorem Qz{d:List aU}(h1:∀x∈t,x.aO<i)(h2:∀x∈d,i<x.aO):qd (λx=>eqB x.aO i) 0 (t++d)= -1:=
 SV _ _ _ λy hy=>eqB_f.2 (by grind)
theorem Rn(ok:sG a){d:List aU}{m n:Int}(e:a.aD=t++⟨i,m⟩::d)(h1:∀x∈t,x.aO<i)(hn:0<=n/\n<=m):Gd a.aD (t.length:Int) n=ς (Le a.aD i n):=by
 have hl:=ok.l
 have hm:m<=100000/\1<=m:=by have:=ok.r ⟨i,m⟩ (by rw[e];simp);simp only at this;omega
 have htl:t.length+1+d.length<=8:=by have:=congrArg agj e;simp at this;omega
 rw[e,Lf h1]
 have hx:(t++(⟨i,m⟩:aU)::d)[t.length]?=ς ⟨i,m⟩:=by simp
 have a1:da 16 (t++(⟨i,m⟩:aU)::d).length=true:=cE oaa (by grind)
 simp only[Gd,afl,a1,bB,hx,afZ,au]
 by_cases hb:n<m
 .rw[ltB_t.2 hb,if_pos hb]
  simp only[cond_true,bN (n:=m-n) oaa]
  simp
 rw[ltB_f.2 oaa,if_neg hb]
 have a2:eQ (t++(⟨i,m⟩:aU)::d) 0 (t.length:Int)=true:=by simp[eQ];omega
 have a3:eQ (t++(⟨i,m⟩:aU)::d) ((t.length+1:Nat):Int) (((t++(⟨i,m⟩:aU)::d).length:Nat):Int)=true:=by simp[eQ];omega
 have e2:(t++(⟨i,m⟩:aU)::d).drop (t.length+1)=d:=by rw[<-aeK,ags];rfl
 have a4:da 16 (t++d).length=true:=cE oaa (by simp;omega)
 simp only[a2,WRs (k:=t.length),a3,afZ,e2,agx,a4,au]
theorem YP{d:List aU}{x:aU}(e:a.aD=t++x::d)(hl:t.length+1+d.length<=8):nz a (t.length:Int)=ς {a with aD:=t++d}:=by
 have a2:eQ (t++x::d) 0 (t.length:Int)=true:=by simp[eQ];omega
 have a3:eQ (t++x::d) ((t.length+1:Nat):Int) (((t++x::d).length:Nat):Int)=true:=by simp[eQ];omega
 have e2:(t++x::d).drop (t.length+1)=d:=by rw[<-aeK,ags];rfl
 have a4:da 16 (t++d).length=true:=cE oaa (by simp;omega)
 have a5:da 16 t.length=true:=cE oaa oaa
 simp only[nz,e,a2,WRs (k:=t.length),a3,cond_true,afZ,e2,agx,afl,a4,a5]
def full(a:av)(i:Int):Bool:=leB 8 (a.aD.length:Int)&&!a.aD.any λx=>eqB x.aO i
def jS(x y:Int):Int:=if y<x then y else x
def ig(a:av)(i n:Int):av×Int:=
 bif ltB i 0||(!inR n 1 100000||(eqB a.bL 0||full a i)) then(a,0) else({a with bL:=a.bL-jS n a.bL,aD:=FG a.aD i (jS n a.bL)},jS n a.bL)
def xv(a:av)(i n:Int):av:=bif ltB 0 n then {a with d9:=a.d9+n,aD:=Le a.aD i n} else a
theorem Oh(x y:Int):DN x y=ς (jS x y):=by
 rw[DN,jS];by_cases h:y<x
 .rw[ltB_t.2 h,if_pos h];rfl
 rw[ltB_f.2 oaa,if_neg h];rfl
theorem Tl(x y:Int):Qr x y=ς (jS x y):=Oh x y
def yO(x y:Int):Int:=if x<y then y else x
theorem Og(x y:Int):Ic x y=ς (yO x y):=by
 rw[Ic,yO];by_cases h:x<y
 .rw[ltB_t.2 h,if_pos h];rfl
 rw[ltB_f.2 oaa,if_neg h];rfl
theorem Zg(x y:Int):YF x y=ς (yO x y):=Og x y
theorem any_A{d:List aU}{m:Int}:((t++(⟨i,m⟩:aU)::d).any λx=>eqB x.aO i)=true:=by simp
theorem Xv{d:List aU}(h1:∀x∈t,x.aO<i)(h2:∀x∈d,i<x.aO):((t++d).any λx=>eqB x.aO i)=false:=by
 rw[List.any_eq_false];intro y hy
 rcases ab1.1 hy with hy|hy
 .have:=h1 y hy;simp[eqB];omega
 have:=h2 y hy;simp[eqB];omega
theorem VQ(ok:sG a)(i n:Int):DO a i n=ς (ig a i n):=by
 have hv:=A6.2 ok
 have hd:=ok.v
 have ht:=ok.t
 have hfind:s9 a i=ς (qd (λx=>eqB x.aO i) 0 a.aD):=F4 ok λv=>rfl
 have hf:(bif leB 8 (a.aD.length:Int) then(afW (s9 a i) λr5=>ς (ltB r5 0)) else ς η)=ς (full a i):=by
  rw[hfind,full]
  cases leB 8 (a.aD.length:Int)
  .rfl
  rcases Nt ok.o i with⟨t,m,d,e,h1,h2⟩|⟨t,d,e,h1,h2⟩
  .rw[e,LH h1,any_A];simp[ltB]
  rw[e,Qz h1 h2,Xv h1 h2];simp[ltB]
 simp only[DO,Gt ok.ok,A8 ok.ok,hv,hf,fQ,Oh,ig,au]
 cases h1:ltB i 0<;>cases h2:inR n 1 100000<;>cases h3:eqB a.bL 0<;>cases h4:full a i<;>try rfl
 rw[bE] at h2
 have h3:=Jc h3
 have hmin:1<=jS n a.bL/\jS n a.bL<=100000/\jS n a.bL<=a.bL:=by unfold jS;split<;>omega
 simp only[Rm ok (show 0<=jS n a.bL/\jS n a.bL<=100000 by omega),bN (n:=a.bL-jS n a.bL) oaa,af7,au]
theorem VP(ok:sG a)(i n:Int):Dk a i n=ς (ig a i n):=by
 have hv:=A6.2 ok
 have hd:=ok.v
 have ht:=ok.t
 have hl:=ok.l
 have hfind:gv a i=ς (qd (λx=>eqB x.aO i) 0 a.aD):=F4 ok λv=>rfl
 simp only[Dk,Ef ok.ok,A7 ok.ok,hv,hfind,gE,Tl,ig,au]
 cases h1:ltB i 0<;>cases h2:inR n 1 100000<;>cases h3:eqB a.bL 0<;>try rfl
 rw[bE] at h2
 have h3:=Jc h3
 have hmin:1<=jS n a.bL/\jS n a.bL<=100000/\jS n a.bL<=a.bL:=by unfold jS;split<;>omega
 simp only[bN (n:=a.bL-jS n a.bL) oaa,aen,au]
 rcases Nt ok.o i with⟨t,m,d,e,k1,k2⟩|⟨t,d,e,k1,k2⟩
 .have hm:m<=100000/\1<=m:=by have:=ok.r ⟨i,m⟩ (by rw[e];simp);simp only at this;omega
  rw[full,e,LH k1,any_A,K5 k1,show leB 0 (t.length:Int)=ζ from leB_t.2 oaa]
  have hx:(t++(⟨i,m⟩:aU)::d)[t.length]?=ς ⟨i,m⟩:=by simp
  simp only[bB,hx,afZ,bN (n:=m+jS n a.bL) oaa,afJ,au]
  simp
 have htl:t.length+d.length<=8:=by have:=congrArg agj e;simp at this;omega
 rw[full,e,Qz k1 k2,Xv k1 k2,K6 k1 k2,show leB 0 (-1)=η from by simp[leB]]
 cases h4:leB 8 (((t++d).length:Nat):Int)
 .have hlt:(t++d).length<8:=by have:=xh h4;omega
  have hrun:=zr (L:=vX i a) a.aD (λx=>ltB x.aO i) oaa (λk x hx=>by
   have hk:=(abb.1 hx).1
   simp[vX,cy hk,hx]) (by simp[vX])
  rw[e,aa1 k1 (λx hx=>by grind)] at hrun
  have hs:=SY t d dQ (⟨i,jS n a.bL⟩:aU)
  have b1:da 16 (t++d++[dQ]).length=true:=cE oaa (by grind)
  have b2:eQ (t++d++[dQ]) ((t.length+1:Nat):Int) (((t++d++[dQ]).length:Nat):Int)=true:=by simp[eQ];omega
  have b3:eQ (t++d++[dQ]) (t.length:Int) (((t++d++[dQ]).length:Nat):Int)=true:=by simp[eQ];omega
  obtain⟨y,_,hy⟩:=YZ (xs:=cpD (t++d++[dQ]) (t.length+1) ((t++d++[dQ]).drop t.length)) (i:=(t.length:Int)) oaa (by simp;omega)
  simp only[hrun,WRs (k:=t.length),afZ,b1,b2,b3,hy,hs,agp,au]
  simp
 rfl
theorem EL(ok:sG a)(i:Int):0<=jE a i/\jE a i<=100000:=by
 rcases Nt ok.o i with⟨t,m,d,e,h1,h2⟩|⟨t,d,e,h1,h2⟩
 .rw[pt e h1];have:=ok.r ⟨i,m⟩ (by rw[e];simp);grind
 rw[ut (λx hx=>by grind)];omega
theorem acr(ok:sG a){n:Int}(hn:0<=n/\n<=jE a i):Mn a i n=ς (xv a i n,ζ):=by
 have hv:=A6.2 ok
 have ht:=ok.t
 have hs:=ok.s
 have hr:=EL ok i
 have hfind:s9 a i=ς (qd (λx=>eqB x.aO i) 0 a.aD):=F4 ok λv=>rfl
 have hin:inR n 0 (jE a i)=true:=bE.2 hn
 simp only[Mn,Gt ok.ok,A8 ok.ok,hv,hfind,OH ok.ok,fQ,hin,xv,au]
 cases h0:ltB 0 n
 .rfl
 have h0:=kO h0
 rcases Nt ok.o i with⟨t,m,d,e,h1,h2⟩|⟨t,d,e,h1,h2⟩
 .rw[pt e h1] at hn hr
  have hc:=Rn ok e h1 hn
  rw[show qd (λx=>eqB x.aO i) 0 a.aD=(t.length:Int) by rw[e];exact LH h1]
  simp only[hc,bN (n:=a.d9+n) oaa,au]
 rw[ut (λx hx=>by grind)] at hn
 omega
theorem acq(ok:sG a){n:Int}(hn:0<=n/\n<=jE a i):LB a i n=ς (xv a i n,ζ):=by
 have hv:=A6.2 ok
 have ht:=ok.t
 have hs:=ok.s
 have hl:=ok.l
 have hr:=EL ok i
 have hfind:gv a i=ς (qd (λx=>eqB x.aO i) 0 a.aD):=F4 ok λv=>rfl
 have hin:inR n 0 (jE a i)=true:=bE.2 hn
 simp only[LB,Ef ok.ok,A7 ok.ok,hv,hfind,OG ok.ok,gE,hin,xv,au]
 rcases Nt ok.o i with⟨t,m,d,e,h1,h2⟩|⟨t,d,e,h1,h2⟩
 .rw[pt e h1] at hn
  have hm:m<=100000/\1<=m:=by have:=ok.r ⟨i,m⟩ (by rw[e];simp);simp only at this;omega
  have htl:t.length+1+d.length<=8:=by have:=congrArg agj e;simp at this;omega
  have hx:(t++(⟨i,m⟩:aU)::d)[t.length]?=ς ⟨i,m⟩:=by simp
  have hset:∀z:aU,(t++(⟨i,m⟩:aU)::d).set t.length z=t++z::d:=λz=>by simp
  have hx2:∀z:aU,(t++z::d)[t.length]?=ς z:=λz=>by simp
  rw[e,LH h1,show ltB (t.length:Int) 0=η from ltB_f.2 oaa,Lf h1]
  simp only[bB,hx,hset,hx2,afZ,bN (n:=m-n) oaa,bN (n:=a.d9+n) oaa,au]
  cases h0:ltB 0 n
  .have h0:=ou h0
   have hn0:n=0:=by omega
   subst hn0
   rw[show m-0=m by omega,eqB_f.2 (show m≠0 by omega),show a.d9+0=a.d9 by omega]
   simp only[<-e,au]
  have h0:=kO h0
  by_cases hb:n<m
  .rw[if_pos hb,eqB_f.2 (show m-n≠0 by omega)];rfl
  rw[if_neg hb,eqB_t.2 (show m-n=0 by omega)]
  simp only[YP (a:={a with d9:=a.d9+n,aD:=t++(⟨i,m-n⟩:aU)::d}) rfl htl,au]
 have h0:n=0:=by
  rw[ut (λx hx=>by grind)] at hn
  omega
 subst h0
 rw[e,Qz h1 h2]
 simp[ltB]
structure WOK(w:bk):Prop where
 n:1<=w.bw/\w.bw<=100000
 l:w.aJ.length<=8
 f:1<=w.bw-w.aJ.length
 u:∀(k:Nat) (x:ah),w.aJ[k]?=ς x->x.cH=w.bw-w.aJ.length+k/\x.bh.length<=60
theorem WOK.ok(h:WOK w):km w:=⟨by have:=h.l;omega,λx hx=>by
 obtain⟨k,hk⟩:=aej hx
 exact⟨by have:=(h.u k x hk).2;omega,λ_ _=>trivial⟩⟩
theorem vQ{n:Nat}:zJ n=ζ↔n<=60:=by simp[zJ,ltB];omega
theorem Gk:lx w=ζ↔WOK w:=by
 constructor
 .intro h
  simp only[lx,v0,bE,eN,unB,vQ] at h
  obtain⟨h1,h2,h3,h4⟩:=h
  have h2:=vK h2
  have h3:=vK h3
  rw[bN oaa] at h3
  refine⟨h1,by omega,h3,λk x hx=>?_⟩
  have hk:=(abb.1 hx).1
  have:=h4 k x hx
  have e:=gj this.1
  rw[bN (n:=w.bw-(w.aJ.length:Int)) oaa,bN oaa] at e
  omega
 rintro⟨h1,h2,h3,h4⟩
 simp only[lx,v0,bE,eN,unB,vQ]
 refine⟨h1,leB_t.2 oaa,leB_t.2 (by rw[bN oaa];omega),λk x hx=>?_⟩
 have hk:=(abb.1 hx).1
 have:=h4 k x hx
 exact⟨eqB_t.2 (by rw[bN (n:=w.bw-(w.aJ.length:Int)) oaa,bN oaa];exact this.1),this.2⟩
def gB(xs:List ah):Int:=(xs.map λx=>(x.bh.length:Int)).sum
theorem wW:∀{xs:List ah},(∀x∈xs,x.bh.length<=60)->0<=gB xs/\gB xs<=60*xs.length
 |[],_=>by simp[gB]
 |x::xs,h=>by
  have ih:=wW (xs:=xs) λy hy=>h y (by simp[hy])
  have:=h x (by simp)
  have e:gB (x::xs)=x.bh.length+gB xs:=by simp[gB]
  grind
theorem Kc{xs:List ah}(h:∀x∈xs,x.bh.length<=60)(hl:xs.length<=1000):Ax xs=gB xs:=by
 have key:∀(xs:List ah) (s:Int),(∀x∈xs,x.bh.length<=60)->0<=s->s+60*xs.length<=9000000000->xs.foldl (λa x=>WR (a+(x.bh.length:Int))) s=s+gB xs:=by
  intro xs
  induction xs with
  |nil=>intro s _ _ _;simp[gB]
  |cons x xs ih=>
   intro s h h0 h1
   have hx:=h x (by simp)
   simp only[aee] at h1
   rw[agm,bN oaa,ih _ (λy hy=>h y (by simp[hy])) oaa oaa]
   simp[gB];omega
 have:=key xs 0 h oaa oaa
 rw[Ax,this];omega
theorem WOK.d(h:WOK w):∀x∈w.aJ,x.bh.length<=60:=λx hx=>by
 obtain⟨k,hk⟩:=aej hx;exact(h.u k x hk).2
structure QOK(q:cW):Prop where
 i:0<=q.aO
 u:0<=q.d6
 g:q.d6<=q.cG
 m:q.cG<=100000
theorem HY:mZ q=ζ↔QOK q:=by
 simp only[mZ,v0,leB_t]
 exact⟨λ⟨a,b,c,d⟩=>⟨a,b,c,d⟩,λ⟨a,b,c,d⟩=>⟨a,b,c,d⟩⟩
theorem Br(h:QOK q):OD q=q.cG-q.d6:=by
 rw[OD,HY.2 h];obtain⟨a,b,c,d⟩:=h
 simp only[cond_true];rw[bN oaa]
structure SP(s:ag):Prop where
 ok:d7 s
 rcd:vN s.bD=ζ
 plan:qR s.gI=ζ
 page:lv s.et=ζ
 win:WOK s.ax
 q:QOK s.bG
 st:0<=s.aX/\s.aX<=1
 k1:s.aX=1->o7 s.aZ=ζ
 k2:0<s.bA->o7 s.aV.eV=ζ
 ps:0<=s.bA/\s.bA<=999999
 gn:0<=s.ae/\s.ae<=999999
 ep:0<=s.aK/\s.aK<=999999
 rk:0<=s.aZ/\s.aZ<=2147483646
 ce:0<=s.aS/\s.aS<=5
 qu:0<=s.cP/\s.cP<=5
 rt:0<=s.cF/\s.cF<=3
 sl:s.aC.length<=24
 sd:∀p∈s.aC,p.bh.length<=60
 nx:s.ax.bw<=s.aC.length+1
 un:∀x∈s.ax.aJ,EY s x=ζ
 pd:gB s.ax.aJ<=s.bG.cG-s.bG.d6
theorem xV(ok:d7 s):kK s=ζ↔SP s:=by
 constructor
 .intro h
  simp only[kK,v0,bE,Gk,HY,acf,D7,vQ,wk,Hw] at h
  obtain⟨h1,h2,h3,h4,h5,h6,⟨h7,h8⟩,h9,h10,h11,h12,h13,h14,h15,h16,h17,h18,h19,h20⟩:=h
  have h16:=vK h16
  have h18:=vK h18
  have h20:=vK h20
  rw[bN oaa] at h18
  rw[Br h5,Kc h4.d (by have:=h4.l;omega)] at h20
  refine⟨ok,h1,h2,h3,h4,h5,h6,λe=>?_,λe=>?_,h9,h10,h11,h12,h13,h14,h15,by omega,h17,h18,h19,h20⟩
  .simp_all
  rw[ltB_t.2 e] at h8;simp_all
 rintro⟨_,h1,h2,h3,h4,h5,h6,h7,h8,h9,h10,h11,h12,h13,h14,h15,h16,h17,h18,h19,h20⟩
 simp only[kK,v0,bE,Gk,HY,acf,D7,vQ,wk,Hw]
 refine⟨h1,h2,h3,h4,h5,h6,⟨?_,?_⟩,h9,h10,h11,h12,h13,h14,h15,leB_t.2 oaa,h17,leB_t.2 (by rw[bN oaa];omega),h19,leB_t.2 (by rw[Br h5,Kc h4.d (by have:=h4.l;omega)];omega)⟩
 .cases e:eqB s.aX 1
  .rfl
  simp_all
 cases e:ltB 0 s.bA
 .rfl
 simp_all
def s7(s:ag)(b:List Int):ag×Bool:=bif leB 24 (s.aC.length:Int)||ltB 60 (b.length:Int) then(s,η) else({s with aC:=s.aC++[⟨b⟩]},ζ)
theorem sub_s(h:d7 s){b:List Int}:oC s b=ς (s7 s b):=by
 simp only[oC,tz h,afY,s7,Iy,afl]
 cases h1:leB 24 (s.aC.length:Int)<;>cases h2:ltB 60 (b.length:Int)<;>try rfl
 have h1:=xh h1
 have h2:=ou h2
 simp only[af7,cE (by_:=1) (n:=b.length) oaa oaa,cE (by_:=24) (n:=(s.aC++[(⟨b⟩:bI)]).length) oaa (by simp;omega),au]
theorem sub_i(h:d7 s){b:List Int}:sa s b=ς (s7 s b):=by
 simp only[sa,y5 h,afY,s7]
 cases h1:leB 24 (s.aC.length:Int)<;>cases h2:ltB 60 (b.length:Int)<;>try rfl
 have h1:=xh h1
 have h2:=ou h2
 simp only[af7,yq (show b.length<=1048576 by omega),cE (by_:=24) (n:=(s.aC++[(⟨b⟩:bI)]).length) oaa (by simp;omega),au]
def zM(s:ag)(m:aG):bJ:=
 let q:=s.bD.cH+1
 let v:=vec s.bD.eV (xt s.bD.ID q) q
 bif eqB s.bD.cH 999999 then⟨s,[]⟩ else⟨{s with bD:={s.bD with cH:=q},aV:=v,bA:=q},[⟨2,m.aS,q,0,0,v,0⟩]⟩
def lr(s:ag)(k:Int):aG:=lN s.aZ ⟨k,s.aS,s.ae,s.aK,0,cO,0⟩
def oY(s:ag)(c:Int):ag:=⟨s.bD,s.gI,1,cO,0,s.bA,s.aV.eV,s.aK+1,c,0,eE,s.aC,s.ax,s.cF,s.bG⟩
def rf(s:ag)(m:aG):bJ:=
 bif leB s.bA 0||(!eqB m.ae s.bA||(!eqB m.bP s.aV.vB||leB 999999 s.aK)) then⟨s,[]⟩ else⟨oY s m.aS,[lr (oY s m.aS) 4]⟩
def gx(s:ag)(m:aG):Bool:=eqB s.aX 1&&(eqB m.ae s.ae&&mr s.aZ m)
def rN(s:ag)(m:aG):ag:={s with aK:=m.aK,aS:=m.aS,cP:=0,et:=eE,cF:=0}
def mS(s:ag)(m:aG):bJ:=
 bif !gx s m||(ltB m.aK s.aK||(eqB m.aK s.aK&&!eqB m.aS s.aS)) then⟨s,[]⟩ else⟨rN s m,[lr (rN s m) 6]⟩
def kN(w:bk)(k:Int):bk:=bif ltB w.bw k then w else⟨w.bw,w.aJ.filter λx=>leB k x.cH⟩
def tC(q:cW)(n:Int):cW:=bif inR n 0 (q.cG-q.d6) then {q with d6:=q.d6+n} else q
def lk(s:ag)(k:Int):ag:={s with cP:=0,ax:=kN s.ax k,bG:=tC s.bG (gB s.ax.aJ-gB (kN s.ax k).aJ)}
def vL(s:ag)(m:aG):bJ:=bif !gx s m||ltB s.ax.bw m.bP then⟨s,[]⟩ else⟨lk s m.bP,[]⟩
def sUp(s:ag)(m:aG):bJ:=
 bif !eS m then⟨s,[]⟩ else bif eqB m.bb 1 then zM s m else bif eqB m.bb 3 then rf s m else bif eqB m.bb 5 then mS s m else bif eqB m.bb 8 then vL s m else⟨s,[]⟩
def lJ(s:ag):ag:={s with aV:=cO,bA:=0,cP:=0,et:=eE,cF:=0}
theorem Dx(h:d7 s):qK s=ς ⟨s,[]⟩:=by simp[qK,tz h]
theorem aae(h:d7 s){l:List aG}(hl:l.length<=1048576):dL s l=ς ⟨s,l⟩:=by simp[dL,y5 h,aaK hl]
theorem Bs(h:d7 s):dL s []=ς ⟨s,[]⟩:=aae h (by simp)
theorem Mj(h:d7 s)(m:aG):dL s [m]=ς ⟨s,[m]⟩:=aae h (by simp)
theorem fail_s(h:d7 s):Bu s=ς (lJ s):=by simp[Bu,tz h,lJ]
theorem fail_i(h:d7 s):Bj s=ς (lJ s):=by simp[Bj,y5 h,lJ]
theorem Mf{r:a8}(h:vN r=ζ):0<=r.cH/\r.cH<=999999:=by
 simp only[vN,v0,bE] at h;omega
theorem att_s(h:SP s)(m:aG):qA s m=ς (zM s m):=by
 have hr:=Mf h.rcd
 simp only[qA,XJ,tw,Z2,h.rcd,Ul,Dx h.ok,tz h.ok,bN (n:=s.bD.cH+1) oaa,zM,au]
 cases he:eqB s.bD.cH 999999
 .simp only[bj,eqB_f.2 (show s.bD.cH+1≠s.bD.cH by omega),af6,afD,au]
 simp_all
theorem att_i(h:SP s)(m:aG):pO s m=ς (zM s m):=by
 have hr:=Mf h.rcd
 simp only[pO,chal_i,tj,rec_i,h.rcd,vec_i,Bs h.ok,bN (n:=s.bD.cH+1) oaa,zM,au]
 cases he:eqB s.bD.cH 999999
 .simp only[bj,eqB_f.2 (show s.bD.cH+1≠s.bD.cH by omega),af6,afD,au]
  rw[Mj (s:={s with bD:={s.bD with cH:=s.bD.cH+1},aV:=vec s.bD.eV (xt s.bD.ID (s.bD.cH+1)) (s.bD.cH+1),bA:=s.bD.cH+1}) h.ok]
  rfl
 simp_all
theorem resp_s(h:SP s)(m:aG):nC s m=ς (rf s m):=by
 have he:=h.ep
 simp only[nC,rO,Dx h.ok,tz h.ok,vp,EV,afY,bN (n:=s.aK+1) oaa,rf]
 cases leB s.bA 0<;>cases eqB m.ae s.bA<;>cases eqB m.bP s.aV.vB<;>cases leB 999999 s.aK<;>rfl
theorem resp_i(h:SP s)(m:aG):nr s m=ς (rf s m):=by
 have he:=h.ep
 have hh:d7 (oY s m.aS):=h.ok
 have a:∀x,dL ⟨s.bD,s.gI,1,cO,0,s.bA,s.aV.eV,s.aK+1,m.aS,0,eE,s.aC,s.ax,s.cF,s.bG⟩ [x]=ς ⟨oY s m.aS,[x]⟩:=λx=>Mj hh x
 simp only[nr,rv,Bs h.ok,ot,Mv,afY,bN (n:=s.aK+1) oaa,a,rf]
 cases leB s.bA 0<;>cases eqB m.ae s.bA<;>cases eqB m.bP s.aV.vB<;>cases leB 999999 s.aK<;>rfl
theorem Tb(s:ag)(m:aG):ya s m=ς (gx s m):=by
 simp only[ya,MJ,afY,gx];grind
theorem adm(h:SP s)(m:aG):lq s m=ς (mS s m):=by
 simp only[lq,Tb,Dx h.ok,tz h.ok,vp,EV,afY,mS]
 cases gx s m<;>cases ltB m.aK s.aK<;>cases eqB m.aK s.aK<;>cases eqB m.aS s.aS<;>rfl
theorem adl(h:SP s)(m:aG):lb s m=ς (mS s m):=by
 have hh:d7 (rN s m):=h.ok
 have a:∀x,dL {s with aK:=m.aK,aS:=m.aS,cP:=0,et:=eE,cF:=0} [x]=ς ⟨rN s m,[x]⟩:=λx=>Mj hh x
 simp only[lb,RJ,Bs h.ok,ot,Mv,afY,a,mS,gx]
 cases eqB s.aX 1<;>cases eqB m.ae s.ae<;>cases mr s.aZ m<;>cases ltB m.aK s.aK<;>cases eqB m.aK s.aK<;>cases eqB m.aS s.aS<;>rfl
theorem ackB_s(h:WOK w)(k:Int):ml w k=ς (kN w k):=by
 have hl:=h.l
 simp only[ml,Iu h.ok,afY,kN]
 cases ltB w.bw k
 .have:=eR (step:=jV w k) w.aJ (λi s=>((i:Int),s)) (uQ 32 (λx=>leB k x.cH) (λx=>x)) ς oaa
   (λi x s hx hi=>by
    have hd:=h.d x (abl hx)
    simp only[jV,cy hi,bB,hx,afl,cE (by_:=1) (n:=x.bh.length) oaa oaa,WRs (k:=i),uQ,au]
    cases leB k x.cH<;>simp
    cases da 32 (s.length+1)<;>rfl) (λs=>by simp[jV]) ([]:List ah)
  rw[vO oaa _ _ _ _ (by simp;omega)] at this
  simp_all
 rfl
theorem Sw(h:WOK w)(p:ah->Bool):okL gA (w.aJ.filter p):=
 ⟨by have:=agt p w.aJ;have:=h.l;omega,λx hx=>h.ok.2 x (agf.1 hx).1⟩
theorem ackB_i(h:WOK w)(k:Int):lZ w k=ς (kN w k):=by
 have hl:=h.l
 simp only[lZ,ES h.ok,afY,kN]
 cases ltB w.bw k
 .have:=eR (step:=im w k) w.aJ (λi s=>((i:Int),s)) (uQ 32 (λx=>leB k x.cH) (λx=>x)) ς oaa
   (λi x s hx hi=>by
    simp only[im,cy hi,bB,hx,WRs (k:=i),uQ,au]
    cases leB k x.cH<;>simp
    grind) (λs=>by simp[im]) ([]:List ah)
  rw[vO oaa _ _ _ _ (by simp;omega)] at this
  simp only[show iter (im w k) FU (0,[])=_ from this,afl,List.map_id',CC (Sw h _),au]
 rfl
theorem UG(h:QOK q)(n:Int):∃b,sx q n=ς (tC q n,b):=by
 obtain⟨a,b,c,d⟩:=h
 simp only[sx,DE,HY.2 ⟨a,b,c,d⟩,fQ,bN (n:=q.cG-q.d6) oaa,tC,au]
 cases hn:inR n 0 (q.cG-q.d6)
 .simp_all
 rw[bE] at hn
 simp only[bN (n:=q.d6+n) oaa,au];simp_all
theorem UF(h:QOK q)(n:Int):∃b,rW q n=ς (tC q n,b):=by
 obtain⟨a,b,c,d⟩:=h
 simp only[rW,F9,HY.2 ⟨a,b,c,d⟩,gE,bN (n:=q.cG-q.d6) oaa,tC,au]
 cases hn:inR n 0 (q.cG-q.d6)
 .simp_all
 rw[bE] at hn
 simp only[bN (n:=q.d6+n) oaa,au];simp_all
theorem KH(p:ah->Bool):∀xs:List ah,gB xs=gB (xs.filter p)+gB (xs.filter λx=>!p x)
 |[]=>rfl
 |x::xs=>by
  have ih:=KH p xs
  have e:∀ys,gB (x::ys)=x.bh.length+gB ys:=λys=>by simp[gB]
  grind
theorem MB(n:Int):∀(xs:List ah) (s:Int),(∀x∈xs,x.bh.length<=60)->0<=s->s+60*xs.length<=9000000000->
 xs.foldl (λa x=>bif ltB x.cH n then WR (a+(x.bh.length:Int)) else a) s=s+gB (xs.filter λx=>ltB x.cH n)
 |[],s,_,_,_=>by simp[gB]
 |x::xs,s,h,h0,h1=>by
  have hx:=h x (by simp)
  simp only[aee] at h1
  rw[agm,agv]
  cases ltB x.cH n
  .simp only[cond_false]
   exact MB n xs s (λy hy=>h y (by simp[hy])) h0 oaa
  simp only[cond_true]
  rw[bN oaa,MB n xs _ (λy hy=>h y (by simp[hy])) oaa oaa]
  simp[gB];omega
theorem K4(h:WOK w){k:Int}(hk:ltB w.bw k=η):gB w.aJ-gB (kN w k).aJ=gB (w.aJ.filter λx=>ltB x.cH k):=by
 rw[kN,hk,KH (λx=>leB k x.cH) w.aJ]
 simp only[cond_false]
 have:(λx:ah=>ltB x.cH k)=λx=>!leB k x.cH:=by funext x;rw[uW]
 grind
theorem ack_s(h:SP s)(m:aG):oP s m=ς (vL s m):=by
 obtain⟨b,hb⟩:=UG h.q (gB s.ax.aJ-gB (kN s.ax m.bP).aJ)
 have hu:=h.win.d
 have hl:=h.win.l
 have hu2:∀x∈(kN s.ax m.bP).aJ,x.bh.length<=60:=λx hx=>by
  rw[kN] at hx;grind
 have hl2:(kN s.ax m.bP).aJ.length<=8:=by
  rw[kN];cases ltB s.ax.bw m.bP
  .grind
  exact hl
 have s1:=wW hu
 have s2:=wW hu2
 have e1:WR (Ax s.ax.aJ-Ax (kN s.ax m.bP).aJ)=gB s.ax.aJ-gB (kN s.ax m.bP).aJ:=by
  rw[Kc hu oaa,Kc hu2 oaa,bN oaa]
 simp only[oP,Tb,Dx h.ok,tz h.ok,ackB_s h.win,nb_s (show s.ax.aJ.length<=1048576 by omega),nb_s (show(kN s.ax m.bP).aJ.length<=1048576 by omega),afY,e1,hb,vL]
 cases gx s m<;>cases ltB s.ax.bw m.bP<;>rfl
theorem ab4(h:WOK w)(k:Int):km (kN w k):=by
 rw[kN];cases ltB w.bw k
 .exact Sw h _
 exact h.ok
theorem ack_i(h:SP s)(m:aG):oK s m=ς (vL s m):=by
 have hu:=h.win.d
 have hl:=h.win.l
 have hrun:iter (kZ s m) FU (0,0)=ς (gB (s.ax.aJ.filter λx=>ltB x.cH m.bP)):=by
  rw[xA s.ax.aJ (λa x=>bif ltB x.cH m.bP then WR (a+(x.bh.length:Int)) else a) oaa (λk x a hx hk=>by
   simp only[kZ,cy hk,bB,hx,WRs (k:=k),au]
   grind) (λa=>by simp[kZ]),MB m.bP s.ax.aJ 0 hu oaa oaa]
  simp
 obtain⟨b,hb⟩:=UF h.q (gB (s.ax.aJ.filter λx=>ltB x.cH m.bP))
 simp only[oK,RJ,Bs h.ok,hrun,hb,ackB_i h.win,afY,vL,gx]
 cases eqB s.aX 1<;>cases eqB m.ae s.ae<;>cases mr s.aZ m<;>try rfl
 cases hk:ltB s.ax.bw m.bP
 .have ho:d7 (lk s m.bP):=⟨h.ok.1,h.ok.2.1,ab4 h.win _⟩
  have:=Bs ho
  rw[lk,K4 h.win hk] at this
  simp only[afD,afL,lk,K4 h.win hk,this,au]
 rfl
theorem up_s(h:SP s)(m:aG):qD s m=ς (sUp s m):=by
 simp only[qD,Tz,Dx h.ok,att_s h,resp_s h,adm h,ack_s h,afY,sUp]
 grind
theorem up_i(h:SP s)(m:aG):pR s m=ς (sUp s m):=by
 simp only[pR,Ty,Bs h.ok,att_i h,resp_i h,adl h,ack_i h,afY,sUp]
 grind
theorem vx(t d:List aU):zk (t++d)=zk t+zk d:=by simp[zk,List.sum_append]
@[simp] theorem sumR_cons (x:aU) (d:List aU):zk (x::d)=x.eo+zk d:=by simp[zk]
theorem ZW{d:List aU}{m m':Int}(h:(t++⟨i,m⟩::d).Pairwise λx y=>x.aO<y.aO):(t++⟨i,m'⟩::d).Pairwise λx y=>x.aO<y.aO:=by
 rw[agh,af9] at h ⊢
 simp_all
theorem pw_ins{d:List aU}{m:Int}(h:(t++d).Pairwise λx y=>x.aO<y.aO)(h1:∀x∈t,x.aO<i)(h2:∀x∈d,i<x.aO):(t++(⟨i,m⟩:aU)::d).Pairwise λx y=>x.aO<y.aO:=by
 rw[agh] at h ⊢
 simp_all
theorem ac9{d:List aU}(h1:∀x∈t,x.aO<i)(h2:∀x∈d,i<x.aO):∀x∈t++d,x.aO≠i:=λx hx=>by
 grind
theorem yT(ok:sG a)(i n:Int):
 sG (ig a i n).1/\jE (ig a i n).1 i=jE a i+(ig a i n).2/\0<=(ig a i n).2/\(ig a i n).2<=a.bL/\(ig a i n).1.bL=a.bL-(ig a i n).2/\(ig a i n).1.d9=a.d9/\(ig a i n).1.iA=a.iA:=by
 have hv:=ok.v
 have ht:=ok.t
 have hs:=ok.s
 have hl:=ok.l
 have he:=ok.e
 rw[ig]
 cases h1:ltB i 0<;>cases h2:inR n 1 100000<;>cases h3:eqB a.bL 0<;>cases h4:full a i<;>simp only[afL,Bool.or_true,agn,aen,au]<;>try exact⟨ok,by omega,by omega,by omega,by omega,by simp,by simp⟩
 rw[bE] at h2
 have h1:=ou h1
 have h3:=Jc h3
 have hmin:1<=jS n a.bL/\jS n a.bL<=100000/\jS n a.bL<=a.bL:=by unfold jS;split<;>omega
 generalize jS n a.bL=g at*
 rcases Nt ok.o i with⟨t,m,d,e,k1,k2⟩|⟨t,d,e,k1,k2⟩
 .have hm:=ok.r ⟨i,m⟩ (by rw[e];simp)
  have hsum:=(wX ok.r).2.2 ⟨i,m⟩ (by rw[e];simp)
  simp only at hm hsum
  rw[e,vx,sumR_cons] at he
  simp only at he
  have hs1:=wX (h:=t) λx hx=>ok.r x (by simp_all)
  have hs2:=wX (h:=d) λx hx=>ok.r x (by simp_all)
  have ho:=ok.o
  rw[e] at ho
  rw[pt e k1]
  simp only[e,K5 k1]
  have hll:(t++(⟨i,m+g⟩:aU)::d).length=a.aD.length:=by rw[e];simp
  refine⟨⟨ht,by grind,hs,by simp_all,λx hx=>?_,ZW ho,by simp only[vx,sumR_cons];omega⟩,pt (t:=t) (d:=d) rfl k1,by omega,by omega,θ,θ,θ⟩
  rcases ab1.1 hx with hx|hx
  .exact ok.r x (by simp_all)
  rcases acb.1 hx with e'|hx
  .grind
  exact ok.r x (by simp_all)
 rw[ut (a:=a) (λx hx=>by grind)]
 have hb:a.aD.length<8:=by
  rw[full,e,Xv k1 k2] at h4
  simp only[Bool.not_false,afD] at h4
  have:=xh h4
  rw[e];omega
 rw[e,vx] at he
 have ho:=ok.o
 rw[e] at ho
 simp only[e,K6 k1 k2]
 refine⟨⟨ht,by grind,hs,by grind,λx hx=>?_,pw_ins ho k1 k2,by simp only[vx,sumR_cons];omega⟩,Eq.trans (pt (t:=t) (d:=d) rfl k1) oaa,by omega,by omega,θ,θ,θ⟩
 rcases ab1.1 hx with hx|hx
 .exact ok.r x (by simp_all)
 rcases acb.1 hx with e'|hx
 .simp_all
 exact ok.r x (by simp_all)
theorem X0(ok:sG a){n:Int}(hn:0<=n/\n<=jE a i):
 sG (xv a i n)/\jE (xv a i n) i=jE a i-n/\(xv a i n).d9=a.d9+n/\(xv a i n).bL=a.bL/\(xv a i n).iA=a.iA:=by
 have hv:=ok.v
 have ht:=ok.t
 have hs:=ok.s
 have hl:=ok.l
 have he:=ok.e
 rw[xv]
 cases h0:ltB 0 n
 .have h0:=ou h0
  grind
 have h0:=kO h0
 simp only[cond_true]
 rcases Nt ok.o i with⟨t,m,d,e,k1,k2⟩|⟨t,d,e,k1,k2⟩
 .rw[pt e k1] at hn ⊢
  have hm:=ok.r ⟨i,m⟩ (by rw[e];simp)
  simp only at hm
  rw[e,vx,sumR_cons] at he
  have hs1:=wX (h:=t) λx hx=>ok.r x (by simp_all)
  have hs2:=wX (h:=d) λx hx=>ok.r x (by simp_all)
  have ho:=ok.o
  rw[e] at ho
  have hll:t.length+1+d.length=a.aD.length:=by rw[e];simp;omega
  simp only at he
  simp only[e,Lf k1]
  by_cases hb:n<m
  .simp only[if_pos hb]
   refine⟨⟨ht,by omega,by grind,by simp;omega,λx hx=>?_,ZW ho,by simp only[vx,sumR_cons];omega⟩,pt (t:=t) (d:=d) rfl k1,θ,θ,θ⟩
   rcases ab1.1 hx with hx|hx
   .exact ok.r x (by simp_all)
   rcases acb.1 hx with e'|hx
   .grind
   exact ok.r x (by simp_all)
  simp only[if_neg hb]
  have ho2:(t++d).Pairwise λx y=>x.aO<y.aO:=ho.sublist (by simp)
  refine⟨⟨ht,by omega,by grind,by simp;omega,λx hx=>ok.r x (by grind),ho2,by simp only[vx];omega⟩,?_,θ,θ,θ⟩
  rw[ut (a:={a with d9:=a.d9+n,aD:=t++d}) (ac9 k1 k2)];omega
 rw[ut (λx hx=>by grind)] at hn
 omega
structure MOK(a:av)(q:cW):Prop where
 acc:sG a
 quo:QOK q
 res:jE a q.aO=q.cG
theorem um:zo a q=ζ↔MOK a q:=by
 simp only[zo,v0,A6,HY,eqB_t]
 exact⟨λ⟨x,y,z⟩=>⟨x,y,z⟩,λ⟨x,y,z⟩=>⟨x,y,z⟩⟩
def jC(a:av)(q:cW)(n:Int):av×cW:=
 let r:=ig a q.aO n
 (r.1,{q with cG:=q.cG+r.2})
theorem CE(h:MOK a q)(n:Int):MOK (jC a q n).1 (jC a q n).2/\q.cG<=(jC a q n).2.cG:=by
 obtain⟨h1,h2,h3,h4,h5,h6,h7⟩:=yT h.acc q.aO n
 have:=EL h1 q.aO
 have hr:=h.res
 obtain⟨a1,a2,a3,a4⟩:=h.quo
 exact⟨⟨h1,⟨a1,a2,by simp only[jC];omega,by simp only[jC];omega⟩,by simp only[jC];omega⟩,by simp only[jC];omega⟩
theorem VM(h:MOK a q)(n:Int):sC a q n=ς (jC a q n):=by
 have h0:=(CE h n).1.quo
 have hq:=h.quo
 simp only[jC] at h0
 have hg:=h0.m
 have hg2:=h0.g
 simp only at hg hg2
 simp only[sC,VQ h.acc,LV h.acc.ok,um.2 h,DE,bN (n:=q.cG+(ig a q.aO n).2) (by have:=hq.u;omega),HY.2 h0,jC,au]
theorem VL(h:MOK a q)(n:Int):rZ a q n=ς (jC a q n):=by
 have h0:=(CE h n).1.quo
 have hq:=h.quo
 simp only[jC] at h0
 have hg:=h0.m
 have hg2:=h0.g
 simp only at hg hg2
 simp only[rZ,VP h.acc,LU h.acc.ok,um.2 h,bN (n:=q.cG+(ig a q.aO n).2) (by have:=hq.u;omega),ltB_f.2 hg,jC,au]
def mN(a:av)(q:cW):av×cW:=(xv a q.aO q.d6,⟨q.aO,q.cG-q.d6,0⟩)
theorem VK(h:MOK a q):MOK (mN a q).1 (mN a q).2/\(mN a q).1.d9=a.d9+q.d6/\(mN a q).1.iA=a.iA/\(mN a q).1.bL=a.bL:=by
 obtain⟨a1,a2,a3,a4⟩:=h.quo
 have hr:=h.res
 obtain⟨h1,h2,h3,h4,h5⟩:=X0 h.acc (i:=q.aO) (n:=q.d6) oaa
 exact⟨⟨h1,⟨a1,by simp[mN],by simp only[mN];omega,by simp only[mN];omega⟩,by simp only[mN];omega⟩,h3,h5,h4⟩
theorem aad(h:MOK a q):ub a q=ς (mN a q):=by
 obtain⟨a1,a2,a3,a4⟩:=h.quo
 have hr:=h.res
 simp only[ub,LV h.acc.ok,um.2 h,acr h.acc (i:=q.aO) (n:=q.d6) oaa,bN (n:=q.cG-q.d6) oaa,mN,au]
theorem aac(h:MOK a q):pS a q=ς (mN a q):=by
 obtain⟨a1,a2,a3,a4⟩:=h.quo
 have hr:=h.res
 simp only[pS,LU h.acc.ok,um.2 h,acq h.acc (i:=q.aO) (n:=q.d6) oaa,bN (n:=q.cG-q.d6) oaa,mN,au]
def gF(s:ag)(n:Int):Int:=yO 0 (gB s.ax.aJ+n-(s.bG.cG-s.bG.d6))
theorem Zw(hw:WOK s.ax)(hq:QOK s.bG){n:Int}(hn:0<=n/\n<=1000):qz s n=ς (gF s n):=by
 have hs:=wW hw.d
 have hl:=hw.l
 obtain⟨a1,a2,a3,a4⟩:=hq
 simp only[qz,qy,nb_s (show s.ax.aJ.length<=1048576 by omega),Kc hw.d (show s.ax.aJ.length<=1000 by omega),aab,Br ⟨a1,a2,a3,a4⟩,Og,afY,gF,bN (n:=gB s.ax.aJ+n) oaa,bN (n:=gB s.ax.aJ+n-(s.bG.cG-s.bG.d6)) oaa]
theorem Zv(hw:WOK s.ax)(hq:QOK s.bG){n:Int}(hn:0<=n/\n<=1000):pN s n=ς (gF s n):=by
 have hs:=wW hw.d
 have hl:=hw.l
 obtain⟨a1,a2,a3,a4⟩:=hq
 simp only[pN,jO,nb_i (show s.ax.aJ.length<=1048576 by omega),Kc hw.d (show s.ax.aJ.length<=1000 by omega),aaa,Br ⟨a1,a2,a3,a4⟩,Zg,afY,gF,bN (n:=gB s.ax.aJ+n) oaa,bN (n:=gB s.ax.aJ+n-(s.bG.cG-s.bG.d6)) oaa]
def cf(s:ag)(a:av)(n:Int):ag×av:=
 bif leB (gF s n) 0 then(s,a) else
  let r:=jC a s.bG (yO (gF s n) s.gI.d4)
  ({s with bG:=r.2},r.1)
theorem Ye(h:SP s)(hm:MOK a s.bG){n:Int}(hn:0<=n/\n<=1000):t9 s a n=ς (cf s a n):=by
 simp only[t9,tz h.ok,Zw h.win h.q hn,Gt hm.acc.ok,Og,VM hm,afY,cf]
 grind
theorem Yd(h:SP s)(hm:MOK a s.bG){n:Int}(hn:0<=n/\n<=1000):tH s a n=ς (cf s a n):=by
 simp only[tH,y5 h.ok,Zv h.win h.q hn,Ef hm.acc.ok,Zg,VL hm,afY,cf]
 grind
def sent(w:bk)(b:List Int):bk:=⟨w.bw+1,w.aJ++[⟨w.bw,b⟩]⟩
theorem Gb(h:WOK w){b:List Int}(hn:w.bw<100000)(hl:w.aJ.length<8)(hb:b.length<=60):WOK (sent w b):=by
 have h1:=h.n
 have h3:=h.f
 refine⟨by simp only[sent];omega,by simp[sent];omega,by simp[sent];omega,λk x hx=>?_⟩
 simp only[sent] at hx ⊢
 rw[aeu,List.length_singleton]
 by_cases hk:k<w.aJ.length
 .rw[aer hk] at hx
  have:=h.u k x hx
  omega
 grind
theorem send_s(h:WOK w){b:List Int}(hn:w.bw<100000)(hl:w.aJ.length<8)(hb:b.length<=60):s6 w b=ς (sent w b,⟨w.bw,b⟩,ζ):=by
 have h1:=h.n
 have hs:=Gb h hn hl hb
 have e:(⟨WR (w.bw+1),w.aJ++[(⟨w.bw,b⟩:ah)]⟩:bk)=sent w b:=by rw[bN oaa];rfl
 simp only[s6,Iu h.ok,afl,cE (by_:=1) (n:=b.length) oaa oaa,cE (by_:=32) (n:=(w.aJ++[(⟨w.bw,b⟩:ah)]).length) oaa (by simp;omega),e,OV hs.ok,Gk.2 hs,au]
theorem send_i(h:WOK w){b:List Int}(hn:w.bw<100000)(hl:w.aJ.length<8)(hb:b.length<=60):sP w b=ς (sent w b,⟨w.bw,b⟩,ζ):=by
 have h1:=h.n
 have hs:=Gb h hn hl hb
 have e:(⟨WR (w.bw+1),w.aJ++[(⟨w.bw,b⟩:ah)]⟩:bk)=sent w b:=by rw[bN oaa];rfl
 simp only[sP,ES h.ok,yq (show b.length<=1048576 by omega),cE (by_:=32) (n:=(w.aJ++[(⟨w.bw,b⟩:ah)]).length) oaa (by simp;omega),e,OU hs.ok,Gk.2 hs,au]
structure SG(s:ag)(a:av):Prop where
 sp:SP s
 b1:∀p∈s.aC,okB p.bh
 b2:∀x∈s.ax.aJ,okB x.bh
 mo:MOK a s.bG
def nM(s:ag):Option bI:=bif leB s.ax.bw (s.aC.length:Int)&&ltB (s.ax.aJ.length:Int) 8 then s.aC[(s.ax.bw-1).toNat]? else ξ
def fm:Nat->ag->av->List aF->ag×av×List aF
 |0,s,a,r=>(s,a,r)
 |k+1,s,a,r=>match nM s with
  |none=>(s,a,r)
  |some x=>
   let e:=cf s a (x.bh.length:Int)
   bif ltB 0 (gF e.1 (x.bh.length:Int)) then(e.1,e.2,r)
   else fm k {e.1 with ax:=sent e.1.ax x.bh} e.2 (r++[fY e.1.aZ e.1.ae e.1.aK ⟨e.1.ax.bw,x.bh⟩])
theorem jq(h:SP s){x:bI}(e:nM s=ς x):x∈s.aC/\ix s.aC (WR (s.ax.bw-1))=ς x/\s.aC[(s.ax.bw-1).toNat]?=ς x/\s.ax.bw<=s.aC.length/\s.ax.aJ.length<8/\x.bh.length<=60:=by
 have hn:=h.win.n
 rw[nM] at e
 cases h1:leB s.ax.bw (s.aC.length:Int)<;>cases h2:ltB (s.ax.aJ.length:Int) 8<;>rw[h1,h2] at e<;>try cases e
 have h1:=vK h1
 have h2:=kO h2
 have e:s.aC[(s.ax.bw-1).toNat]?=ς x:=e
 have hm:=abl e
 refine⟨hm,?_,e,h1,by omega,h.sd x hm⟩
 rw[bN oaa,ix,leB_t.2 (show 0<=s.ax.bw-1 by omega)]
 exact e
theorem CB(h:SP s)(e:nM s=ξ):(leB s.ax.bw (s.aC.length:Int)&&ltB (s.ax.aJ.length:Int) 8)=false:=by
 have hn:=h.win.n
 cases h1:leB s.ax.bw (s.aC.length:Int)&&ltB (s.ax.aJ.length:Int) 8
 .rfl
 rw[nM,h1] at e
 rw[v0] at h1
 have h1:=vK h1.1
 have e:s.aC[(s.ax.bw-1).toNat]?=none:=e
 rw[List.getElem?_eq_none_iff] at e
 omega
theorem rh(h:SG s a){n:Int}(hn:0<=n/\n<=60):SG (cf s a n).1 (cf s a n).2:=by
 rw[cf]
 cases leB (gF s n) 0
 .obtain⟨h1,h2⟩:=CE h.mo (yO (gF s n) s.gI.d4)
  have hp:=h.sp.pd
  have hu:(jC a s.bG (yO (gF s n) s.gI.d4)).2.d6=s.bG.d6:=rfl
  exact⟨{h.sp with q:=h1.quo,pd:=by grind},h.b1,h.b2,h1⟩
 exact h
theorem y4(h:SG s a){x:bI}(e:nM s=ς x)(hq:ltB 0 (gF s (x.bh.length:Int))=η):SG {s with ax:=sent s.ax x.bh} a:=by
 obtain⟨hm,_,hx,hn,hl,hb⟩:=jq h.sp e
 have hs:=h.sp.sl
 have hq:=ou hq
 have hnn:=h.sp.win.n
 have hpd:gB (s.ax.aJ++[⟨s.ax.bw,x.bh⟩])<=s.bG.cG-s.bG.d6:=by
  have e1:gB (s.ax.aJ++[⟨s.ax.bw,x.bh⟩])=gB s.ax.aJ+x.bh.length:=by simp[gB]
  rw[gF,yO] at hq
  rw[e1]
  split at hq<;>omega
 refine⟨{h.sp with ok:=⟨h.sp.ok.1,h.sp.ok.2.1,(Gb h.sp.win oaa hl hb).ok⟩,win:=Gb h.sp.win oaa hl hb,nx:=by simp only[sent];omega,un:=λy hy=>?_,pd:=hpd},h.b1,λy hy=>?_,h.mo⟩
 .simp only[sent,ab1,afn] at hy
  rcases hy with hy|rfl
  .exact h.sp.un y hy
  simp only[EY,hx,OR];simp_all
 simp only[sent,ab1,afn] at hy
 rcases hy with hy|rfl
 .exact h.b2 y hy
 exact h.b1 x hm
theorem je(s:ag)(a:av)(n:Int):∃q,(cf s a n).1={s with bG:=q}:=by
 rw[cf];cases leB (gF s n) 0
 .simp_all
 grind
theorem Is:∀(k fu:Nat) (s:ag) (a:av) (r:List aF),SG s a->k<=2->k<fu->r.length+k<=1000->
 iter vY fu ((2:Int)-(k:Nat),r,s,a)=ς ((fm k s a r).2.2,(fm k s a r).1,(fm k s a r).2.1)
 |0,fu,s,a,r,h,h1,h2,h3=>by
  cases fu with
  |zero=>omega
  |succ fu=>rw[iter];simp[vY,fm]
 |k+1,fu,s,a,r,h,h1,h2,h3=>by
  cases fu with
  |zero=>omega
  |succ fu=>
   have hlt:ltB ((2:Int)-((k+1:Nat):Int)) 2=true:=ltB_t.2 oaa
   have hc:(bif ltB (s.aC.length:Int) s.ax.bw then ς ζ else ς (leB 8 (s.ax.aJ.length:Int)))=ς (!(leB s.ax.bw (s.aC.length:Int)&&ltB (s.ax.aJ.length:Int) 8)):=by
    rw[uW (s.aC.length:Int),uW (s.ax.aJ.length:Int)]
    cases leB s.ax.bw (s.aC.length:Int)<;>cases leB 8 (s.ax.aJ.length:Int)<;>rfl
   rw[iter]
   simp only[vY,hlt,hc,fm,au]
   cases e:nM s with
   |none=>rw[CB h.sp e];rfl
   |some x=>
    obtain⟨hm,hx,_,hn,hl,hb⟩:=jq h.sp e
    have hcc:(leB s.ax.bw (s.aC.length:Int)&&ltB (s.ax.aJ.length:Int) 8)=true:=by rw[leB_t.2 hn,ltB_t.2 oaa];rfl
    have he:=rh h (n:=(x.bh.length:Int)) oaa
    have hsl:=h.sp.sl
    have hnn:=h.sp.win.n
    simp only[hcc,hx,Yd h.sp h.mo (n:=(x.bh.length:Int)) oaa,Zv he.sp.win he.sp.q (n:=(x.bh.length:Int)) oaa,au]
    cases hq:ltB 0 (gF (cf s a (x.bh.length:Int)).1 (x.bh.length:Int))
    .obtain⟨q,hk⟩:=je s a (x.bh.length:Int)
     have e2:nM (cf s a (x.bh.length:Int)).1=ς x:=by rw[hk];exact e
     have hg:=y4 he e2 hq
     have hw:(cf s a (x.bh.length:Int)).1.ax=s.ax:=by rw[hk]
     have hww:=he.sp.win
     simp only[send_i hww (b:=x.bh) (by grind) (by simp_all) hb,aaD (x:=⟨(cf s a (x.bh.length:Int)).1.ax.bw,x.bh⟩) (by grind) (by grind) (h.b1 x hm) (by grind),cE (by_:=64) (n:=(r++[fY (cf s a (x.bh.length:Int)).1.aZ (cf s a (x.bh.length:Int)).1.ae (cf s a (x.bh.length:Int)).1.aK ⟨(cf s a (x.bh.length:Int)).1.ax.bw,x.bh⟩]).length) oaa (by simp;omega),bN (n:=(2:Int)-((k+1:Nat):Int)+1) oaa,au]
     rw[show(2:Int)-((k+1:Nat):Int)+1=2-(k:Nat) by omega]
     exact Is k fu _ _ _ hg oaa oaa (by simp;omega)
    rfl
theorem It(s0:ag):∀(k fu:Nat) (s:ag) (a:av) (g:List aG) (r:List aF),SG s a->s.aC=s0.aC->s.aZ=s0.aZ->s.ae=s0.ae->s.aK=s0.aK->k<=2->k<fu->r.length+k<=1000->
 iter (wz s0) fu ((2:Int)-(k:Nat),⟨s,a,g,r⟩)=ς ⟨(fm k s a r).1,(fm k s a r).2.1,g,(fm k s a r).2.2⟩
 |0,fu,s,a,g,r,h,c1,c2,c3,c4,h1,h2,h3=>by
  cases fu with
  |zero=>omega
  |succ fu=>rw[iter];simp[wz,fm]
 |k+1,fu,s,a,g,r,h,c1,c2,c3,c4,h1,h2,h3=>by
  cases fu with
  |zero=>omega
  |succ fu=>
   have hlt:ltB ((2:Int)-((k+1:Nat):Int)) 2=true:=ltB_t.2 oaa
   have hc:(bif leB s.ax.bw (s0.aC.length:Int) then ς (ltB (s.ax.aJ.length:Int) 8) else ς η)=ς (leB s.ax.bw (s.aC.length:Int)&&ltB (s.ax.aJ.length:Int) 8):=by
    rw[<-c1]
    cases leB s.ax.bw (s.aC.length:Int)<;>rfl
   rw[iter]
   simp only[wz,hlt,hc,fm,au]
   cases e:nM s with
   |none=>rw[CB h.sp e];rfl
   |some x=>
    obtain⟨hm,hx,_,hn,hl,hb⟩:=jq h.sp e
    have hcc:(leB s.ax.bw (s.aC.length:Int)&&ltB (s.ax.aJ.length:Int) 8)=true:=by rw[leB_t.2 hn,ltB_t.2 oaa];rfl
    have he:=rh h (n:=(x.bh.length:Int)) oaa
    have hsl:=h.sp.sl
    have hnn:=h.sp.win.n
    rw[c1] at hx
    simp only[hcc,hx,Ye h.sp h.mo (n:=(x.bh.length:Int)) oaa,Zw he.sp.win he.sp.q (n:=(x.bh.length:Int)) oaa,au]
    cases hq:ltB 0 (gF (cf s a (x.bh.length:Int)).1 (x.bh.length:Int))
    .obtain⟨q,hk⟩:=je s a (x.bh.length:Int)
     have e2:nM (cf s a (x.bh.length:Int)).1=ς x:=by rw[hk];exact e
     have hg:=y4 he e2 hq
     have hw:(cf s a (x.bh.length:Int)).1.ax=s.ax:=by rw[hk]
     have hww:=he.sp.win
     have d1:(cf s a (x.bh.length:Int)).1.aZ=s0.aZ:=by rw[hk];exact c2
     have d2:(cf s a (x.bh.length:Int)).1.ae=s0.ae:=by rw[hk];exact c3
     have d3:(cf s a (x.bh.length:Int)).1.aK=s0.aK:=by rw[hk];exact c4
     simp only[send_s hww (b:=x.bh) (by grind) (by simp_all) hb,AY,Rg (x:=⟨(cf s a (x.bh.length:Int)).1.ax.bw,x.bh⟩) (by grind) (by grind) (h.b1 x hm) (by grind),<-d1,<-d2,<-d3,cE (by_:=64) (n:=(r++[fY (cf s a (x.bh.length:Int)).1.aZ (cf s a (x.bh.length:Int)).1.ae (cf s a (x.bh.length:Int)).1.aK ⟨(cf s a (x.bh.length:Int)).1.ax.bw,x.bh⟩]).length) oaa (by simp;omega),bN (n:=(2:Int)-((k+1:Nat):Int)+1) oaa,au]
     rw[show(2:Int)-((k+1:Nat):Int)+1=2-(k:Nat) by omega]
     exact It s0 k fu _ _ _ _ hg (by simp_all) d1 d2 d3 oaa oaa (by simp;omega)
    rfl
theorem Wb(h:SG s a)(hs:s.aX=1):Dl s a=ς ⟨(fm 2 s a []).1,(fm 2 s a []).2.1,[],(fm 2 s a []).2.2⟩:=by
 have:=Is 2 FU s a [] h oaa (by have:=gH;omega) (by simp)
 rw[show(2:Int)-((2:Nat):Int)=0 by omega] at this
 simp only[Dl,y5 h.sp.ok,Ef h.mo.acc.ok,ET h.sp.ok,(xV h.sp.ok).2 h.sp,eqB_t.2 hs,this,au]
theorem Wc(h:SG s a)(hs:s.aX=1):AL s a=ς ⟨(fm 2 s a []).1,(fm 2 s a []).2.1,[],(fm 2 s a []).2.2⟩:=by
 have:=It s 2 FU s a [] [] h rfl rfl rfl rfl oaa (by have:=gH;omega) (by simp)
 rw[show(2:Int)-((2:Nat):Int)=0 by omega] at this
 have hz:({cz with aM:=s,cT:=a}:bM)=⟨s,a,[],[]⟩:=rfl
 simp only[AL,vq,AW,tz h.sp.ok,Gt h.mo.acc.ok,EU h.sp.ok,(xV h.sp.ok).2 h.sp,eqB_t.2 hs,hz,this,au]
theorem Ip:∀(k:Nat) (s:ag) (a:av) (r:List aF),SG s a->SG (fm k s a r).1 (fm k s a r).2.1
 |0,s,a,r,h=>h
 |k+1,s,a,r,h=>by
  rw[fm]
  cases e:nM s with
  |none=>exact h
  |some x=>
   obtain⟨hm,hx,_,hn,hl,hb⟩:=jq h.sp e
   have he:=rh h (n:=(x.bh.length:Int)) oaa
   simp only
   cases hq:ltB 0 (gF (cf s a (x.bh.length:Int)).1 (x.bh.length:Int))
   .obtain⟨q,hk⟩:=je s a (x.bh.length:Int)
    exact Ip k _ _ _ (y4 he (by rw[hk];exact e) hq)
   exact he
theorem G8(xs:List α):(xs.filter λ_=>ζ)=xs:=List.filter_eq_self.2 (by simp)
def zv(s:ag):List aF:=bif eqB s.aX 1 then(s.ax.aJ.take 2).map λx=>fY s.aZ s.ae s.aK x else []
theorem MG(h:WOK s.ax)(hx:x∈s.ax.aJ):1<=x.cH/\x.cH<s.ax.bw/\x.cH<=100000/\x.bh.length<=60:=by
 obtain⟨k,hk⟩:=aej hx
 have hl:=(abb.1 hk).1
 have:=h.u k x hk
 have h1:=h.f
 have h2:=h.n
 omega
theorem ab6(h:SG s a):sO s=ς (zv s):=by
 simp only[sO,zv]
 cases eqB s.aX 1
 .rfl
 have hm:jS 2 (s.ax.aJ.length:Int)=(((min 2 s.ax.aJ.length:Nat)):Int):=by unfold jS;split<;>omega
 have hs:eQ s.ax.aJ 0 (((min 2 s.ax.aJ.length:Nat)):Int)=true:=by simp[eQ];omega
 have ht:s.ax.aJ.take (min 2 s.ax.aJ.length)=s.ax.aJ.take 2:=by
  rcases Nat.le_total 2 s.ax.aJ.length with h|h
  .simp_all
  grind
 have hrun:=eR (step:=mG s (((min 2 s.ax.aJ.length:Nat)):Int)) (s.ax.aJ.take 2) (λi r=>((i:Int),r)) (uQ 64 (λ_=>ζ) (λx=>fY s.aZ s.ae s.aK x)) ς (by simp;omega)
  (λi x r hx hi=>by
   have hxm:x∈s.ax.aJ:=aeo (abl hx)
   have hu:=MG h.sp.win hxm
   simp only[mG,afZ,ht,cy hi,bB,hx,aaD (x:=x) oaa oaa (h.b2 x hxm) oaa,pA (show i<9223372036854775807 by grind),uQ,au]
   simp_all) (λr=>by simp[mG,ht]) ([]:List aF)
 rw[vO oaa _ _ _ _ (by simp;omega)] at hrun
 have hrun:iter (mG s (((min 2 s.ax.aJ.length:Nat)):Int)) FU (0,[])=_:=hrun
 simp only[Tl,hm,hs,hrun,afl,G8,au]
theorem ab7(h:SG s a):pu s=ς (zv s):=by
 have key:∀(n:Nat) (fu k:Nat) (r:List aF),n=(s.ax.aJ.take 2).length-k->k<=(s.ax.aJ.take 2).length->n<fu->r.length+n<=100->eqB s.aX 1=ζ->
  iter (kJ s) fu ((k:Int),r)=ς (r++((s.ax.aJ.take 2).drop k).map λx=>fY s.aZ s.ae s.aK x):=by
  intro n
  have hle:(s.ax.aJ.take 2).length=min 2 s.ax.aJ.length:=by simp
  induction n with
  |zero=>
   intro fu k r hn hk hf hr hs
   cases fu with
   |zero=>omega
   |succ fu=>
    have hk':k=(s.ax.aJ.take 2).length:=by omega
    have hc:(bif ltB (k:Int) (s.ax.aJ.length:Int) then(bif ltB (k:Int) 2 then ς (eqB s.aX 1) else ς η) else ς η)=ς false:=by
     by_cases h2:k<s.ax.aJ.length
     .rw[cy h2,ltB_f.2 (show(2:Int)<=k by omega)];rfl
     rw[ltB_f.2 (show(s.ax.aJ.length:Int)<=k by omega)];rfl
    rw[iter]
    simp only[kJ,hc,au]
    simp_all
  |succ n ih=>
   intro fu k r hn hk hf hr hs
   cases fu with
   |zero=>omega
   |succ fu=>
    have hlt:k<(s.ax.aJ.take 2).length:=by omega
    have hc:(bif ltB (k:Int) (s.ax.aJ.length:Int) then(bif ltB (k:Int) 2 then ς (eqB s.aX 1) else ς η) else ς η)=ς true:=by
     rw[cy (show k<s.ax.aJ.length by omega),ltB_t.2 (show(k:Int)<2 by omega),hs];rfl
    obtain⟨x,hx⟩:∃x,s.ax.aJ[k]?=ς x:=⟨_,aa9 (show k<s.ax.aJ.length by omega)⟩
    have hxm:=abl hx
    have hu:=MG h.sp.win hxm
    have hd:(s.ax.aJ.take 2).drop k=x::(s.ax.aJ.take 2).drop (k+1):=by
     rw[ae0 hlt];congr 1
     have:=(abb.1 hx).2
     simpa using this
    rw[iter]
    simp only[kJ,hc,bB,hx,AY,Rg (x:=x) oaa oaa (h.b2 x hxm) oaa,cE (by_:=64) (n:=(r++[fY s.aZ s.ae s.aK x]).length) oaa (by simp;omega),WRs (k:=k),au]
    rw[ih fu (k+1) _ oaa oaa oaa (by simp;omega) hs,hd]
    simp
 rw[pu,zv]
 cases hs:eqB s.aX 1
 .have h0:iter (kJ s) FU (0,[])=ς []:=by
   have:FU=(FU-1)+1:=by have:=gH;omega
   rw[this,iter]
   have hc:(bif ltB 0 (s.ax.aJ.length:Int) then(bif ltB 0 2 then ς (eqB s.aX 1) else ς η) else ς η)=ς false:=by
    rw[hs];cases ltB 0 (s.ax.aJ.length:Int)<;>cases ltB 0 2<;>rfl
   simp only[kJ,hc,au]
  rw[h0];rfl
 have:=key _ FU 0 [] rfl oaa (by have:=gH;simp;omega) (by simp;omega) hs
 simp_all
def nf(m:be)(a:Int):List Int:=(m.bp.zipIdx.filter λy=>eqB y.1.fF a).map λy=>(y.2:Int)
def M2(m:be):List Int:=(abm m.bp.length).map λ(k:Nat)=>(k:Int)
def AC(m:be)(a t:Int):List Int:=bif eqB t 1&&ltB 0 (((nf m a).length:Nat):Int) then nf m a else bif inR t 1 4 then M2 m else []
theorem Up{xs:List α}{y:α×Nat}(h:xs.zipIdx[k]?=ς y):xs[k]?=ς y.1/\y.2=k:=by
 grind
theorem Xz(h:m.bp.length<=1000)(a:Int):tY m a=ς (nf m a):=by
 have hrun:=eR (step:=lI m a) m.bp.zipIdx (λi r=>((i:Int),r)) (uQ 8 (λy=>eqB y.1.fF a) (λy=>(y.2:Int))) ς (by simp;omega)
  (λi y r hy hi=>by
   obtain⟨hx,e⟩:=Up hy
   have hi:i<m.bp.length:=by simpa using hi
   simp only[lI,cy hi,bB,hx,WRs (k:=i),uQ,e,au]
   cases eqB y.1.fF a
   .rfl
   cases da 8 (r++[(i:Int)]).length<;>rfl) (λr=>by simp[lI]) ([]:List Int)
 rw[vO oaa _ _ _ _ (by simp;omega)] at hrun
 rw[tY,show iter (lI m a) FU (0,[])=_ from hrun]
 rfl
theorem area_i(h:m.bp.length<=1000)(a:Int):yz m a=ς (nf m a):=Xz h a
theorem NN(n:Nat):∀(v:List Int),v.length=n->(∀k:Nat,k<n->v[k]?=ς (k:Int))->v=(abm n).map λ(k:Nat)=>(k:Int):=by
 intro v hv h
 apply af8
 grind
theorem all_i{L:Int×List Int->Option (cj (Int×List Int) (List Int))}(n:Nat)(hn:n<=1000)(hL:∀(k:Nat) (v:List Int),L ((k:Int),v)=bif ltB (k:Int) (n:Int) then(afW (ix v (k:Int)) λ_=>ς (.next (WR ((k:Int)+1),v.set ((k:Int)).toNat (k:Int)))) else ς (.done v)):
 iter L FU (0,ab3 n 0)=ς ((abm n).map λ(k:Nat)=>(k:Int)):=by
 have:Wp (iter L FU (0,ab3 n 0)) (λr=>r=(abm n).map λ(k:Nat)=>(k:Int)):=by
  refine Wp.iterF (λs=>∃i:Nat,i<=n/\s.1=(i:Int)/\s.2.length=n/\∀j:Nat,j<i->s.2[j]?=ς (j:Int)) (λs=>((n:Int)-s.1).toNat) ⟨0,by omega,rfl,by simp,by omega⟩ (by simp;omega) ?_
  rintro⟨v2,v3⟩ ⟨i,hi,rfl,h3,h4⟩
  simp only at h3 h4
  rw[hL]
  refine Wp.cond (λhlt=>?_) (λhlt=>?_)
  .have hlt:=kO hlt
   refine Wp.ix oaa oaa λx hx hxi=>Wp.some ?_
   rw[bN oaa]
   refine⟨⟨i+1,by omega,by simp,by simp_all,λj hj=>?_⟩,by omega⟩
   grind
  have hlt:=ou hlt
  exact Wp.some (NN n v3 h3 λk hk=>h4 k oaa)
 obtain⟨r,hr,rfl⟩:=this.ex
 exact hr
theorem adj(h:m.bp.length<=1000)(a t:Int):tK m a t=ς (AC m a t):=by
 have hmk:rF 8 (m.bp.length:Int) (m.bp.length:Int)=true:=iN oaa oaa
 have hr1:=all_i (L:=tl m) m.bp.length h (λk v=>by simp only[tl,agB,afZ])
 have hr2:=all_i (L:=tp m) m.bp.length h (λk v=>by simp only[tp,agB,afZ])
 simp only[tK,gE,area_i h,hmk,afZ,hr1,hr2,AC,M2,au]
 cases h1:eqB t 1
 .grind
 have h1:=gj h1
 subst h1
 rw[show inR 1 1 4=ζ from by simp[inR,leB]]
 grind
theorem adk(h:m.bp.length<=1000)(a t:Int):ua m a t=ς (AC m a t):=by
 simp only[ua,Xz h,afY,AC,M2]
 cases hb:inR t 1 4
 .have h0:iter (jH m t) FU (0,[])=ς []:=by
   have:FU=(FU-1)+1:=by have:=gH;omega
   rw[this,iter]
   simp only[jH,fQ,hb,afY]
   cases ltB 0 (m.bp.length:Int)<;>rfl
  grind
 have hrun:=eR (step:=jH m t) m.bp.zipIdx (λi r=>((i:Int),r)) (uQ 8 (λ_=>ζ) (λy=>(y.2:Int))) ς (by simp;omega)
  (λi y r hy hi=>by
   obtain⟨hx,e⟩:=Up hy
   have hi:i<m.bp.length:=by simpa using hi
   simp only[jH,cy hi,fQ,hb,WRs (k:=i),uQ,e,au]
   simp_all) (λr=>by simp[jH]) ([]:List Int)
 rw[vO oaa _ _ _ _ (by simp;omega)] at hrun
 have hall:(m.bp.zipIdx.filter λ_=>ζ).map (λy:fo×Nat=>(y.2:Int))=(abm m.bp.length).map λ(k:Nat)=>(k:Int):=by
  rw[G8]
  refine NN _ _ (by simp) λk hk=>?_
  simp[List.getElem?_zipIdx,aa9 hk]
 grind
def mX(p:cm)(m:be):cm×List Int:=
 bif ltB 0 p.dy then({p with dy:=p.dy-1},[]) else
  let t:=bif ltB p.dJ 4 then p.dJ+1 else 1
  (⟨p.fF,t,3⟩,AC m p.fF t)
structure POK(p:cm):Prop where
 a:0<=p.dJ/\p.dJ<=4
 w:0<=p.dy/\p.dy<=3
theorem ad7(hp:POK p)(h:m.bp.length<=1000):wD p m=ς (mX p m):=by
 have h1:=hp.a
 have h2:=hp.w
 simp only[wD,adk h,afY,mX,bN (n:=p.dy-1) oaa,bN (n:=p.dJ+1) oaa,Eo]
theorem ad6(hp:POK p)(h:m.bp.length<=1000):wa p m=ς (mX p m):=by
 have h1:=hp.a
 have h2:=hp.w
 simp only[wa,adj h,afY,mX,bN (n:=p.dy-1) oaa,bN (n:=p.dJ+1) oaa,Eo]
def gL(m:be)(c:Int):Int:=bif er m c then(match m.bp[c.toNat]? with|some x=>x.fF|none=>0) else 0
def jT(c:Int):aG:={fH with bb:=7,aS:=c}
def B6(s:ag)(a:av)(m:be):bM:=
 let r:=mX {s.et with fF:=gL m s.aS} m
 ⟨{s with et:=r.1},a,r.2.map jT,[]⟩
theorem Ki{L:Int×List aG->Option (cj (Int×List aG) (List aG))}(xs:List Int)(hl:xs.length<=10000)(hL:∀(v:Int) (r:List aG),L (v,r)=bif ltB v (xs.length:Int) then(afW (ix xs v) λx10=>bif da 88 (r++[{fH with bb:=7,aS:=x10}]).length then(ς (.next (WR (v+1),(r++[{fH with bb:=7,aS:=x10}])))) else ξ) else(ς (.done r))):
 iter L FU (0,[])=ς (xs.map jT):=by
 have hrun:=eR (step:=L) xs (λi r=>((i:Int),r)) (uQ 88 (λ_=>ζ) jT) ς oaa
  (λi x r hx hi=>by
   simp only[hL,cy hi,bB,hx,WRs (k:=i),uQ,jT,au]
   simp_all) (λr=>by simp[hL]) ([]:List aG)
 rw[vO oaa _ _ _ _ (by simp;omega)] at hrun
 refine Eq.trans (show iter L FU (0,[])=_ from hrun) (by rw[G8,afl])
theorem E5(h:m.bp.length<=1000):(mX p m).2.length<=1000:=by
 have hc:(nf m p.fF).length<=1000:=by
  simp only[nf,List.length_map]
  have:=agt (λy:fo×Nat=>eqB y.1.fF p.fF) m.bp.zipIdx
  simp at this;omega
 rw[mX];cases ltB 0 p.dy
 .simp only[cond_false,AC]
  cases eqB (bif ltB p.dJ 4 then p.dJ+1 else 1) 1&&ltB 0 (((nf m p.fF).length:Nat):Int)
  .cases inR (bif ltB p.dJ 4 then p.dJ+1 else 1) 1 4<;>simp[M2];omega
  exact hc
 simp
theorem page_s(h:SP s)(ha:sG a)(hp:POK s.et)(hm:1<=m.bp.length/\m.bp.length<=1000):AX s a m=ς (B6 s a m):=by
 have hz:({cz with aM:=s,cT:=a}:bM)=⟨s,a,[],[]⟩:=rfl
 have hin:(bif er m s.aS then(afW (ix m.bp s.aS) λx4=>ς x4.fF) else ς 0)=ς (gL m s.aS):=by
  rw[gL]
  cases hc:er m s.aS
  .rfl
  obtain⟨d,_,h1,h2⟩:=C6 hc
  simp_all
 have hpp:POK {s.et with fF:=gL m s.aS}:=⟨hp.a,hp.w⟩
 have hr:=Ki (L:=FA (mX {s.et with fF:=gL m s.aS} m)) _ (by have:=E5 (p:={s.et with fF:=gL m s.aS}) hm.2;omega) (λv r=>rfl)
 simp only[AX,vq,tz h.ok,Gt ha.ok,fQ,afY,bN (n:=(m.bp.length:Int)-1) oaa,hz]
 rw[show inR s.aS 0 ((m.bp.length:Int)-1)=er m s.aS from rfl,hin]
 simp only[afY,ad7 hpp hm.2,hr,B6]
theorem page_i(hp:POK s.et)(hm:1<=m.bp.length/\m.bp.length<=1000):wd s a m=ς (B6 s a m):=by
 have hin:(bif er m s.aS then(afW (F5 m s.aS) λr3=>ς r3) else ς 0)=ς (gL m s.aS):=by
  rw[gL]
  cases hc:er m s.aS
  .rfl
  obtain⟨d,_,h1,h2⟩:=C6 hc
  simp only[F5,yt (show m.bp.length<=1048576 by omega),hc,h1,h2,au]
 have hpp:POK {s.et with fF:=gL m s.aS}:=⟨hp.a,hp.w⟩
 have hr:=Ki (L:=Ar (mX {s.et with fF:=gL m s.aS} m)) _ (by have:=E5 (p:={s.et with fF:=gL m s.aS}) hm.2;omega) (λv r=>rfl)
 simp only[wd,yt (show m.bp.length<=1048576 by omega),hin,afY,ad6 hpp hm.2,hr,B6]
def eK(s:ag)(a:av):av×cW:=bif leB s.gI.d4 s.bG.d6 then mN a s.bG else(a,s.bG)
def xr(s:ag):Bool:=ltB 0 (s.ax.aJ.length:Int)
def eH(s:ag):Int:=bif xr s then jS 5 (s.cP+1) else 0
def iG(s:ag):List aF×Int:=bif xr s&&ltB 0 s.cF then([],s.cF-1) else bif xr s then(zv s,3) else([],s.cF)
def vh(s:ag)(a:av)(m:be):bM:=
 let g:=eK s a
 let t:=fm 2 {s with cP:=eH s,cF:=(iG s).2,bG:=g.2} g.1 []
 ⟨t.1,t.2.1,[],(iG s).1++t.2.2⟩
def bX(s:ag)(a:av)(m:be):bM:=
 bif !eqB s.aX 1 then⟨s,a,[],[]⟩ else bif ltB 4 (eH s) then B6 {s with cP:=eH s,bG:=(eK s a).2} (eK s a).1 m else vh s a m
theorem Aa(h:SG s a):MOK (eK s a).1 (eK s a).2/\(eK s a).2.cG-(eK s a).2.d6=s.bG.cG-s.bG.d6/\(eK s a).2.aO=s.bG.aO/\(eK s a).1.d9+(eK s a).2.d6=a.d9+s.bG.d6/\(eK s a).1.iA=a.iA/\(eK s a).1.bL=a.bL:=by
 rw[eK]
 cases leB s.gI.d4 s.bG.d6
 .exact⟨h.mo,rfl,rfl,rfl,rfl,rfl⟩
 obtain⟨h1,h2,h3,h4⟩:=VK h.mo
 simp only[cond_true]
 exact⟨h1,by simp[mN],rfl,by rw[h2];simp[mN],h3,h4⟩
theorem va(h:SP s):0<=eH s/\eH s<=5:=by
 have:=h.qu
 rw[eH];cases xr s
 .simp
 simp only[cond_true,jS];omega
theorem vc(h:SP s):0<=(iG s).2/\(iG s).2<=3:=by
 have:=h.rt
 rw[iG];cases xr s
 .exact this
 cases hb:ltB 0 s.cF
 .simp
 have:=kO hb
 simp;omega
theorem SG.upd(h:SG s a){q r:Int}(hq:0<=q/\q<=5)(hr:0<=r/\r<=3):SG {s with cP:=q,cF:=r,bG:=(eK s a).2} (eK s a).1:=by
 obtain⟨h1,h2,_⟩:=Aa h
 have hp:=h.sp.pd
 exact⟨{h.sp with q:=h1.quo,qu:=hq,rt:=hr,pd:=by simp_all},h.b1,h.b2,h1⟩
theorem Uw(s:ag):(zv s).length<=2:=by
 rw[zv];grind
theorem Bt(s:ag):(iG s).1.length<=2:=by
 have:=Uw s
 rw[iG];grind
theorem xT:∀(k:Nat) (s:ag) (a:av) (r:List aF),(fm k s a r).2.2.length<=r.length+k
 |0,s,a,r=>by simp[fm]
 |k+1,s,a,r=>by
  rw[fm]
  cases nM s with
  |none=>simp
  |some x=>
   simp only
   cases ltB 0 (gF (cf s a (x.bh.length:Int)).1 (x.bh.length:Int))
   .have:=xT k {(cf s a (x.bh.length:Int)).1 with ax:=sent (cf s a (x.bh.length:Int)).1.ax x.bh} (cf s a (x.bh.length:Int)).2 (r++[fY (cf s a (x.bh.length:Int)).1.aZ (cf s a (x.bh.length:Int)).1.ae (cf s a (x.bh.length:Int)).1.aK ⟨(cf s a (x.bh.length:Int)).1.ax.bw,x.bh⟩])
    grind
   simp_all
theorem ad9(h:SG s a)(hm:1<=m.bp.length/\m.bp.length<=1000)(hp:POK s.et):ue s a m=ς (bX s a m):=by
 have hz:({cz with aM:=s,cT:=a}:bM)=⟨s,a,[],[]⟩:=rfl
 have hqu:=h.sp.qu
 have hrt:=h.sp.rt
 simp only[ue,AW,vq,tz h.sp.ok,Gt h.mo.acc.ok,EU h.sp.ok,(xV h.sp.ok).2 h.sp,afY,hz,bX]
 cases hs:eqB s.aX 1
 .rfl
 have hst:=gj hs
 have hq:=va h.sp
 have hr:=vc h.sp
 have hqq:∀(k:Int->Option bM),(afW (bif ltB 0 (s.ax.aJ.length:Int) then(afW (DN 5 (WR (s.cP+1))) λr9=>ς r9) else ς 0) k)=k (eH s):=λk=>by
  rw[eH,xr,bN (n:=s.cP+1) oaa,Oh]
  grind
 have hrr:∀(u:cW) (k:List aF×Int->Option bM),SG {s with cP:=eH s,cF:=3,bG:=u} (eK s a).1->
  (afW (bif ltB 0 (s.ax.aJ.length:Int) then ς (ltB 0 s.cF) else ς η) λ(v11:Bool)=>afW (bif v11 then(ς (([]:List aF),WR (s.cF-1))) else(afW (bif ltB 0 (s.ax.aJ.length:Int) then(afW (pu {s with cP:=eH s,cF:=3,bG:=u}) λr16=>ς (r16,3)) else(ς (([]:List aF),s.cF))) λx=>ς (x.1,x.2))) k)=k ((iG s).1,(iG s).2):=λu k hu=>by
  rw[iG,xr,bN (n:=s.cF-1) oaa,ab7 hu]
  cases ltB 0 (s.ax.aJ.length:Int)<;>cases ltB 0 s.cF<;>rfl
 have hl:da 64 ((iG s).1++(fm 2 {s with cP:=eH s,cF:=(iG s).2,bG:=(eK s a).2} (eK s a).1 []).2.2).length=true:=by
  have h1:=Bt s
  have h2:=xT 2 {s with cP:=eH s,cF:=(iG s).2,bG:=(eK s a).2} (eK s a).1 []
  simp only[af2] at h2
  exact cE oaa (by simp;omega)
 have hu:=h.upd hq (show(0:Int)<=3/\(3:Int)<=3 by omega)
 have hv:=h.upd hq hr
 have hw:=h.upd hq h.sp.rt
 have hpp:POK ({s with cP:=eH s,bG:=(eK s a).2}:ag).et:=hp
 have e1:=page_s (s:={s with cP:=eH s,bG:=(eK s a).2}) hw.sp hw.mo.acc hpp hm
 have e2:=Wc hv hst
 rw[eK] at hu e1 e2 hl
 simp only[au]
 rw[vh,eK]
 cases hg:leB s.gI.d4 s.bG.d6
 .rw[hg] at hu e1 e2 hl
  simp only[cond_false] at hu e1 e2 hl ⊢
  have hu':=hrr s.bG
  rw[eK,hg] at hu'
  rw[hqq]
  cases ltB 4 (eH s)
  .simp_all
  simp_all
 rw[hg] at hu e1 e2 hl
 simp only[cond_true] at hu e1 e2 hl ⊢
 have hu':=hrr (mN a s.bG).2
 rw[eK,hg] at hu'
 simp only[aad h.mo,afY]
 rw[hqq]
 cases ltB 4 (eH s)
 .simp_all
 simp_all
theorem Vi(x y:Int):jS x y=jS y x:=by unfold jS;omega
theorem ad8(h:SG s a)(hm:1<=m.bp.length/\m.bp.length<=1000)(hp:POK s.et):tN s a m=ς (bX s a m):=by
 have hz:({cz with aM:=s,cT:=a}:bM)=⟨s,a,[],[]⟩:=rfl
 have hqu:=h.sp.qu
 have hrt:=h.sp.rt
 simp only[tN,y5 h.sp.ok,Ef h.mo.acc.ok,ET h.sp.ok,(xV h.sp.ok).2 h.sp,hz,bX,au]
 cases hs:eqB s.aX 1
 .rfl
 have hst:=gj hs
 have hq:=va h.sp
 have hr:=vc h.sp
 have hu:=h.upd hq (show(0:Int)<=3/\(3:Int)<=3 by omega)
 have hv:=h.upd hq hr
 have hgr:(bif leB s.gI.d4 s.bG.d6 then(afW (pS a s.bG) λr14=>ς ({s with bG:=r14.2},r14.1)) else ς (s,a))=ς ({s with bG:=(eK s a).2},(eK s a).1):=by
  rw[eK,aac h.mo];cases leB s.gI.d4 s.bG.d6<;>rfl
 have hqq:(bif ltB 0 (s.ax.aJ.length:Int) then(afW (Qr (WR (s.cP+1)) 5) λr9=>ς r9) else ς 0)=ς (eH s):=by
  rw[eH,xr,bN (n:=s.cP+1) oaa,Tl,Vi]
  cases ltB 0 (s.ax.aJ.length:Int)<;>rfl
 have hl:da 64 ((iG s).1++(fm 2 {s with cP:=eH s,cF:=(iG s).2,bG:=(eK s a).2} (eK s a).1 []).2.2).length=true:=by
  have h1:=Bt s
  have h2:=xT 2 {s with cP:=eH s,cF:=(iG s).2,bG:=(eK s a).2} (eK s a).1 []
  simp only[af2] at h2
  exact cE oaa (by simp;omega)
 have hpp:POK ({s with cP:=eH s,bG:=(eK s a).2}:ag).et:=hp
 have e1:=page_i (s:={s with cP:=eH s,bG:=(eK s a).2}) (a:=(eK s a).1) hpp hm
 have e2:=Wb hv hst
 simp only[hgr,hqq,au]
 cases ltB 4 (eH s)
 .simp only[cond_false,vh]
  have hrr2:∀(k:List aF×Int->Option bM),(afW (bif ltB 0 (s.ax.aJ.length:Int) then ς (ltB 0 s.cF) else ς η) λ(v11:Bool)=>afW (bif v11 then(ς (([]:List aF),WR (s.cF-1))) else(afW (bif ltB 0 (s.ax.aJ.length:Int) then(afW (sO {s with cP:=eH s,cF:=3,bG:=(eK s a).2}) λr16=>ς (r16,3)) else(ς (([]:List aF),s.cF))) λx=>ς (x.1,x.2))) k)=k (iG s):=λk=>by
   rw[iG,xr,bN (n:=s.cF-1) oaa,ab6 hu]
   cases ltB 0 (s.ax.aJ.length:Int)<;>cases ltB 0 s.cF<;>rfl
  simp_all
 simp only[e1,au]
 rfl
structure RP(r:a9):Prop where
 ok:fE r
 v:qQ r=ζ
 b1:∀x∈r.aV,okB x.bh
 b2:∀p∈r.bv,okB p.bh
structure DP(d:aA):Prop where
 card:ye d.dq=ζ
 st:0<=d.aX/\d.aX<=3
 ce:0<=d.aS/\d.aS<=5
 gn:0<=d.ae/\d.ae<=999999
 ep:0<=d.aK/\d.aK<=999999
 rk:0<=d.aZ/\d.aZ<=2147483646
 k:2<=d.aX->o7 d.aZ=ζ
 wt:0<=d.dy/\d.dy<=3
 rc:RP d.bm
theorem DP.ok{d:aA}(h:DP d):ew d:=h.rc.ok
theorem DP.v{d:aA}(h:DP d):nJ d=true:=by
 have:=h.st
 simp only[nJ,v0,bE]
 refine⟨h.card,h.st,h.ce,h.gn,h.ep,h.rk,?_,h.wt,h.rc.v⟩
 cases e:inR d.aX 2 3
 .rfl
 rw[bE] at e;rw[h.k e.1];rfl
theorem DP.of{d:aA}(h:nJ d=ζ)(ok:ew d)(b1:∀x∈d.bm.aV,okB x.bh)(b2:∀p∈d.bm.bv,okB p.bh):DP d:=by
 simp only[nJ,v0,bE] at h
 obtain⟨h1,h2,h3,h4,h5,h6,h7,h8,h9⟩:=h
 refine⟨h1,h2,h3,h4,h5,h6,λe=>?_,h8,⟨ok,h9,b1,b2⟩⟩
 rw[bE.2 ⟨e,h2.2⟩] at h7;simp_all
theorem zZ{d:aA}(h:DP d):DP (ef d).aY:=by
 have hw:=h.wt
 rw[ef]
 cases hb:ltB 0 d.dy
 .cases eqB d.aX 1
  .cases eqB d.aX 2&&!d.bT
   .exact h
   exact {h with wt:=⟨by simp,by simp⟩}
  exact {h with wt:=⟨by simp,by simp⟩}
 have:=kO hb
 exact {h with wt:=⟨by grind,by grind⟩}
theorem dOn_ok{d:aA}(h:DP d):DP (dOn d).aY:=by
 rw[dOn]
 cases eqB d.aX 0
 .exact h
 exact {h with st:=⟨by simp,by simp⟩,wt:=⟨by simp,by simp⟩,k:=λe=>by simp at e}
theorem Ll{d:aA}(h:DP d):DP (lA d).aY:={h with wt:=⟨by simp[lA],by simp[lA]⟩}
theorem Np{d:aA}(h:DP d)(c:Int):DP (sJ d c).aY:=by
 have he:=h.ep
 rw[sJ]
 cases h1:eqB c d.aS||!inR c 0 5
 .simp only[adi,af5] at h1
  have hc:=bE.1 h1.2
  cases h2:eqB d.aX 2&&ltB d.aK 999999
  .exact {h with ce:=hc}
  rw[v0] at h2
  have:=kO h2.2
  exact Ll {h with ce:=hc,ep:=⟨by grind,by grind⟩}
 exact h
theorem XW{d:aA}(h:DP d):DP (uL d):=by
 rw[uL]
 cases e:eqB d.aX 2
 .exact h
 have e:=gj e
 exact {h with st:=⟨by simp,by simp⟩,k:=λ_=>h.k (by omega)}
theorem Uk{k r q:Int}(h0:0<=q)(h1:q<=999999):1<=(vec k r q).eV/\(vec k r q).eV<=2147483646:=by
 rw[vec,bE.2 ⟨h0,h1⟩];exact Tj _ _
theorem Bq{m:aG}(h:eS m=ζ):(1<=m.bb/\m.bb<=8)/\(0<=m.aS/\m.aS<=5)/\(0<=m.ae/\m.ae<=999999)/\(0<=m.aK/\m.aK<=999999)/\0<=m.bP/\m.bP<=1000000000000:=by
 simp only[eS,v0,bE] at h;exact h
theorem acl{d:aA}(h:DP d){m:aG}(hm:eS m=ζ)(h1:d.aX=1):DP (zY d m).aY:=by
 obtain⟨_,_,hg,_⟩:=Bq hm
 have hu:=RG d.dq.eV m.bZ.eJ m.bZ.gD
 have hk:=Uk (k:=d.dq.eV) (r:=m.bZ.eJ) hu.1 hu.2
 rw[zY]
 cases eqB (kL d.dq.eV d.dq.dh m.bZ) 0
 .exact h
 refine {h with card:=?_,gn:=hg,rk:=⟨by grind,by simp_all⟩,k:=λe=>by simp_all}
 have hc:=h.card
 simp only[ye,v0] at hc ⊢
 exact⟨hc.1,hc.2.1,bE.2 hu⟩
theorem acp{d:aA}(h:DP d)(m:aG):DP (iU d m).aY:=by
 have he:=h.ep
 rw[iU]
 cases h1:!eS m||(!eqB m.aS d.aS||eqB d.aX 0)
 .have hm:eS m=true:=by revert h1;cases eS m<;>simp
  obtain⟨_,_,hg,hep,_⟩:=Bq hm
  simp only[cond_false]
  cases h2:eqB m.bb 2&&eqB d.aX 1
  .simp only[cond_false]
   cases h4:eqB m.bb 4&&(eqB d.aX 1&&(o7 d.aZ&&(eqB m.ae d.ae&&mr d.aZ m)))
   .simp only[cond_false]
    cases h6:eqB m.bb 6&&(eqB d.aX 2&&(eqB m.ae d.ae&&(eqB m.aK d.aK&&mr d.aZ m)))
    .simp only[cond_false]
     cases h7:eqB m.bb 7&&(eqB d.aX 3&&ltB d.aK 999999)
     .simp only[cond_false]
      cases h8:eqB m.bb 7&&eqB d.aX 2
      .exact h
      exact Ll h
     simp only[v0] at h7
     have h3:=gj h7.2.1
     have:=kO h7.2.2
     exact Ll {h with st:=⟨by simp,by simp⟩,ep:=⟨by grind,by grind⟩,k:=λ_=>h.k (by omega)}
    exact {h with}
   simp only[v0] at h4
   exact {h with st:=⟨by simp,by simp⟩,ep:=hep,k:=λ_=>h4.2.2.1}
  rw[v0] at h2
  exact acl h hm (gj h2.2)
 exact h
theorem Cm:∀(xs:List ah) (n:Int) (dl:List bI),∃t d,xs=t++d/\qW xs n dl=⟨n+t.length,d,dl++t.map λx=>⟨x.bh⟩⟩/\(∀(k:Nat) (x:ah),t[k]?=ς x->x.cH=n+k)/\((∃y ys,d=y::ys/\(y.cH≠n+t.length\/24<=dl.length+t.length))\/d=[])/\(t≠[]->dl.length+t.length<=24)
 |[],n,dl=>⟨[],[],rfl,by simp[qW],by simp,.inr rfl,by simp⟩
 |x::xs,n,dl=>by
  rw[qW]
  by_cases h:x.cH=n/\dl.length<24
  .rw[if_pos h]
   obtain⟨t,d,e1,e2,e3,e4,e5⟩:=Cm xs (n+1) (dl++[⟨x.bh⟩])
   refine⟨x::t,d,by rw[e1];rfl,?_,λk y hy=>?_,?_,λ_=>?_⟩
   .rw[e2];simp;omega
   .cases k with
    |zero=>simp_all
    |succ k=>grind
   .grind
   simp only[aee]
   by_cases ht:t=[]
   .grind
   grind
  rw[if_neg h]
  refine⟨[],x::xs,rfl,by simp,by simp,.inl ⟨x,xs,rfl,?_⟩,by simp⟩
  grind
structure RcV(r:a9):Prop where
 n:r.bw=(r.bv.length:Int)+1
 l:r.bv.length<=24
 d:∀p∈r.bv,p.bh.length<=60
 pl:r.aV.length<=8
 pr:∀x∈r.aV,r.bw+1<=x.cH/\x.cH<=r.bw+7/\x.bh.length<=60
 po:r.aV.Pairwise λx y=>x.cH<y.cH
theorem nQ:qQ r=ζ↔RcV r:=by
 constructor
 .intro h
  have hl:=uy h
  simp only[qQ,v0,D7,acf,vQ,eN] at h
  obtain⟨h1,h2,h3,h4,h5⟩:=h
  have hp:∀(k:Nat) (x:ah),r.aV[k]?=ς x->(r.bw+1<=x.cH/\x.cH<=r.bw+7)/\kQ ah.cH r.aV k x=ζ/\x.bh.length<=60:=λk x hx=>by
   have:=h5 k x hx
   simp only[DC,v0,bE,vQ] at this
   rw[bN (n:=r.bw+1) oaa,bN (n:=r.bw+8) oaa,bN (n:=r.bw+8-1) oaa] at this
   grind
  refine⟨hl.1,hl.2.1,h3,hl.2.2,λx hx=>?_,JA λk x hx=>(hp k x hx).2.1⟩
  obtain⟨k,hk⟩:=aej hx
  grind
 rintro⟨h1,h2,h3,h4,h5,h6⟩
 simp only[qQ,v0,D7,acf,vQ,eN]
 refine⟨eqB_t.2 (by rw[bN oaa];exact h1),leB_t.2 oaa,h3,leB_t.2 oaa,λk x hx=>?_⟩
 have:=h5 x (abl hx)
 simp only[DC,v0,bE,vQ]
 rw[bN (n:=r.bw+1) oaa,bN (n:=r.bw+8) oaa,bN (n:=r.bw+8-1) oaa]
 exact⟨by omega,F8 h6 hx,this.2.2⟩
theorem R9{α:Type}{key:α->Int}:∀{xs:List α} {a b:Int},(xs.Pairwise λx y=>key x<key y)->(∀x∈xs,a<=key x/\key x<=b)->(xs.length:Int)<=max 0 (b-a+1)
 |[],a,b,_,_=>by simp;omega
 |x::xs,a,b,h,hr=>by
  have hx:=hr x (by simp)
  have ih:=R9 (xs:=xs) (a:=key x+1) (b:=b) (af9.1 h).2 λy hy=>⟨by have:=(af9.1 h).1 y hy;omega,(hr y (by simp[hy])).2⟩
  grind
theorem dw_ge{x:ah}:∀{xs:List ah},(xs.Pairwise λa b=>a.cH<b.cH)->∀y∈xs.dropWhile (before x.cH),x.cH<=y.cH
 |[],_,y,hy=>by simp at hy
 |z::xs,h,y,hy=>by
  rw[agD] at hy
  cases hb:before x.cH z<;>rw[hb] at hy
  .have hz:=ou hb
   rcases acb.1 hy with e|hy
   .simp_all
   have:=(af9.1 h).1 y hy;omega
  exact dw_ge (af9.1 h).2 y hy
theorem aa0{α:Type}(p:α->Bool):∀(xs:List α) (y:α),y∈xs.takeWhile p->p y=ζ
 |[],y,h=>by simp at h
 |x::xs,y,h=>by
  rw[agl] at h
  cases hp:p x<;>rw[hp] at h
  .simp at h
  rcases acb.1 h with e|h
  .simp_all
  exact aa0 p xs y h
theorem tw_lt{q:Int}{xs:List ah}:∀y∈xs.takeWhile (before q),y.cH<q:=λy hy=>kO (show ltB y.cH q=ζ from aa0 (before q) xs y hy)
theorem YU{xs:List ah}(h:xs.Pairwise λa b=>a.cH<b.cH)(hn:∀y∈xs,y.cH≠x.cH):(px x xs).Pairwise λa b=>a.cH<b.cH:=by
 have e:=ago (p:=before x.cH) (l:=xs)
 rw[<-e,agh] at h
 obtain⟨h1,h2,h3⟩:=h
 rw[px,agk,agh]
 refine⟨h1,af9.2 ⟨λy hy=>?_,h2⟩,λa ha b hb=>?_⟩
 .have hm:y∈xs:=agq _ hy
  have:=hn y hm
  have hge:x.cH<=y.cH:=by
   have hs:xs.Pairwise λa b=>a.cH<b.cH:=by rw[<-e,agh];exact⟨h1,h2,h3⟩
   exact dw_ge hs y hy
  omega
 rcases ab1.1 hb with hb|hb
 .simp at hb;subst hb;exact tw_lt a ha
 simp_all
theorem xD{y:ah}{xs:List ah}:y∈px x xs↔y=x\/y∈xs:=by
 rw[px]
 constructor
 .intro h
  simp only[ab1,afn] at h
  rcases h with(h|h)|h
  .exact .inr (agA _ h)
  .exact .inl h
  exact .inr (agq _ h)
 rintro(h|h)
 .simp[h]
 rw[<-ago (p:=before x.cH) (l:=xs)] at h
 grind
theorem zl(h:RcV r)(hl:xG r x=η):
 ∃t d,px x r.aV=t++d/\(∀(k:Nat) (y:ah),t[k]?=ς y->y.cH=r.bw+k)/\(iX r x).bw=r.bw+t.length/\(iX r x).bv=r.bv++t.map (λy=>⟨y.bh⟩)/\RcV (iX r x)/\
  ((iX r x).aV=d\/(iX r x).aV=[])/\r.bv.length+t.length<=24/\(x.cH=r.bw->t≠[]):=by
 obtain⟨t,d,e1,e2,e3,e4,e5⟩:=Cm (px x r.aV) r.bw r.bv
 have hl2:=hl
 simp only[xG,adi,af5] at hl
 obtain⟨l1,l2,l3,l4,l5⟩:=hl
 have l2:=ou l2
 rw[bE] at l3
 have l5:=xh l5
 have hn:∀y∈r.aV,y.cH≠x.cH:=λy hy=>by
  simp_all
 have hasc:=YU h.po hn
 have hrng:∀y∈px x r.aV,r.bw<=y.cH/\y.cH<=r.bw+7/\y.bh.length<=60:=λy hy=>by
  rcases xD.1 hy with rfl|hy
  .omega
  have:=h.pr y hy;omega
 have hlen:=R9 (key:=ah.cH) hasc (a:=r.bw) (b:=r.bw+7) λy hy=>⟨(hrng y hy).1,(hrng y hy).2.1⟩
 have htl:r.bv.length+t.length<=24:=by
  by_cases ht:t=[]
  .grind
  exact e5 ht
 have hd:∀y∈d,r.bw+t.length<=y.cH:=λy hy=>by
  by_cases ht:t=[]
  .simp_all
  obtain⟨k,hk⟩:∃k,t.length=k+1:=⟨t.length-1,by have:=List.length_pos_iff.2 ht;omega⟩
  grind
 have hdl:(r.bv++t.map λy=>(⟨y.bh⟩:bI)).length=r.bv.length+t.length:=by simp
 have hdata:∀p∈r.bv++t.map λy=>(⟨y.bh⟩:bI),p.bh.length<=60:=λp hp=>by
  rcases ab1.1 hp with hp|hp
  .exact h.d p hp
  obtain⟨y,hy,rfl⟩:=afk.1 hp
  simp_all
 have hnx:=h.n
 have hsome:x.cH=r.bw->t≠[]:=λe ht=>by
  subst ht
  simp only[afl] at e1
  rcases e4 with⟨y,ys,e,h4⟩|e
  .simp only[af2] at h4
   have hy:y.cH<=x.cH:=by
    have hx:x∈d:=by rw[<-e1];exact xD.2 (.inl rfl)
    rw[e] at hx
    rcases acb.1 hx with e'|hx
    .simp_all
    rw[e1,e] at hasc
    have:=(af9.1 hasc).1 x hx
    omega
   grind
  have:(px x r.aV).length=0:=by rw[e1,e];rfl
  rw[Ao] at this;omega
 refine⟨t,d,e1,e3,?_⟩
 rw[iX,hl2]
 simp only[cond_false,e2,hdl]
 cases h24:leB 24 ((r.bv.length+t.length:Nat):Int)
 .have h24:=xh h24
  simp only[cond_false]
  refine⟨θ,θ,⟨by grind,by simp_all,hdata,?_,λy hy=>?_,?_⟩,.inl trivial,htl,hsome⟩
  .grind
  .have h1:=hrng y (by simp_all)
   have h2:=hd y hy
   refine⟨?_,by grind,h1.2.2⟩
   simp only
   rcases e4 with⟨z,zs,e,h4⟩|e
   .have hz:=hd z (by rw[e];simp)
    have hzn:z.cH≠r.bw+t.length:=by rcases h4 with h4|h4;exact h4;omega
    rw[e] at hy
    rcases acb.1 hy with e'|hy'
    .grind
    rw[e1,e,agh] at hasc
    have:=(af9.1 hasc.2.1).1 y hy'
    omega
   simp_all
  grind
 have h24:=vK h24
 simp only[cond_true]
 exact⟨θ,θ,⟨by grind,by simp_all,hdata,by simp,by simp,.nil⟩,.inr trivial,htl,hsome⟩
theorem aaT(h:RP r)(hx:okB x.bh):RP (iX r x):=by
 cases hl:xG r x
 .have hv:=nQ.1 h.v
  obtain⟨t,d,e1,e3,e4,e5,e6,e7,e8,e9⟩:=zl hv hl
  have hb:∀y∈t++d,okB y.bh:=λy hy=>by
   rw[<-e1] at hy
   rcases xD.1 hy with rfl|hy
   .exact hx
   exact h.b1 y hy
  refine⟨O7 h.ok x,nQ.2 e6,λy hy=>?_,λp hp=>?_⟩
  .grind
  rw[e5] at hp
  rcases ab1.1 hp with hp|hp
  .exact h.b2 p hp
  grind
 rw[iX,hl];exact h
theorem ZK(root g e:Int)(x:aF):okB (mM root g e x).1.bh:=by
 rw[mM];split
 .exact acs _ _
 intro y hy;simp[b7] at hy
theorem acn{d:aA}(h:DP d)(x:aF):DP (kq d x).aY:=by
 simp only[kq]
 cases eqB d.aX 2&&(mM d.aZ d.ae d.aK x).2
 .exact h
 exact {h with rc:=aaT h.rc (ZK _ _ _ _)}
theorem abp:lv eE=true:=by decide+kernel
theorem JV{k:Int}:∀{xs:List ah} {f:Int},(∀(i:Nat) (x:ah),xs[i]?=ς x->x.cH=f+i)->(xs.filter λx=>leB k x.cH)=xs.drop (k-f).toNat
 |[],f,_=>by simp
 |x::xs,f,h=>by
  have hx:x.cH=f:=by have:=h 0 x rfl;simpa using this
  have ih:=JV (k:=k) (xs:=xs) (f:=f+1) λi y hy=>by have:=h (i+1) y (by simp_all);omega
  rw[agv,hx]
  by_cases hk:k<=f
  .rw[leB_t.2 hk,if_pos rfl,ih,show(k-f).toNat=0 by omega,show(k-(f+1)).toNat=0 by omega];rfl
  rw[leB_f.2 oaa,if_neg (by simp),ih,show(k-f).toNat=(k-(f+1)).toNat+1 by omega];rfl
theorem Eg(h:WOK w){k:Int}(hk:ltB w.bw k=η):kN w k=⟨w.bw,w.aJ.drop (k-(w.bw-w.aJ.length)).toNat⟩:=by
 rw[kN,hk,JV (f:=w.bw-w.aJ.length) λi x hx=>(h.u i x hx).1];rfl
theorem MY(h:WOK w)(k:Int):WOK (kN w k):=by
 cases hk:ltB w.bw k
 .have hl:=h.l
  have hf:=h.f
  have hn:=h.n
  rw[Eg h hk]
  generalize (k-(w.bw-w.aJ.length)).toNat=m
  refine⟨hn,by simp;omega,by simp;omega,λi x hx=>?_⟩
  simp only at hx ⊢
  rw[List.getElem?_drop] at hx
  have hi:=(abb.1 hx).1
  have:=h.u _ x hx
  grind
 rw[kN,hk];exact h
theorem CW(w:bk)(k:Int):∀x∈(kN w k).aJ,x∈w.aJ:=λx hx=>by
 rw[kN] at hx;grind
theorem Xp(h:WOK w)(k:Int):0<=gB (kN w k).aJ/\gB (kN w k).aJ<=gB w.aJ:=by
 have h1:=wW λx hx=>h.d x (CW w k x hx)
 refine⟨h1.1,?_⟩
 cases hk:ltB w.bw k
 .have:=K4 h hk
  have h2:=wW (xs:=w.aJ.filter λx=>ltB x.cH k) λx hx=>h.d x (agf.1 hx).1
  omega
 rw[kN,hk];simp_all
theorem PY{n:Int}(h:0<=n/\n<=q.cG-q.d6):tC q n={q with d6:=q.d6+n}:=by rw[tC,bE.2 h];rfl
theorem Kv(h:SG s a)(k:Int):SG (lk s k) a/\(lk s k).bG={s.bG with d6:=s.bG.d6+(gB s.ax.aJ-gB (kN s.ax k).aJ)}:=by
 have hs:=Xp h.sp.win k
 have hp:=h.sp.pd
 have hq:=h.sp.q
 have e:(lk s k).bG={s.bG with d6:=s.bG.d6+(gB s.ax.aJ-gB (kN s.ax k).aJ)}:=PY ⟨by omega,by omega⟩
 have hu:=hq.u
 have hg:=hq.g
 have hq':QOK (lk s k).bG:=by rw[e];exact⟨hq.i,by grind,by grind,hq.m⟩
 refine⟨⟨{h.sp with ok:=⟨h.sp.ok.1,h.sp.ok.2.1,(MY h.sp.win k).ok⟩,win:=MY h.sp.win k,q:=hq',qu:=⟨by simp[lk],by simp[lk]⟩,nx:=?_,un:=λx hx=>h.sp.un x (CW _ _ x hx),pd:=?_},h.b1,λx hx=>h.b2 x (CW _ _ x hx),⟨h.mo.acc,hq',?_⟩⟩,e⟩
 .have:(lk s k).ax.bw=s.ax.bw:=by simp only[lk,kN];cases ltB s.ax.bw k<;>rfl
  rw[this];exact h.sp.nx
 .rw[e];simp only[lk];omega
 rw[e];exact h.mo.res
theorem adz(h:SG s a)(m:aG):SG (zM s m).aM a:=by
 have hr:=Mf h.sp.rcd
 simp only[zM]
 cases he:eqB s.bD.cH 999999
 .have he:=Jc he
  have hk:=Uk (k:=s.bD.eV) (r:=xt s.bD.ID (s.bD.cH+1)) (q:=s.bD.cH+1) oaa oaa
  refine⟨{h.sp with rcd:=?_,k2:=λ_=>?_,ps:=⟨by grind,by grind⟩},h.b1,h.b2,h.mo⟩
  .have hc:=h.sp.rcd
   simp only[vN,v0] at hc
   simp only[cond_false,vN,v0]
   exact⟨hc.1,hc.2.1,bE.2 oaa⟩
  exact bE.2 hk
 exact h
theorem ady(h:SG s a){c:Int}(hc:0<=c/\c<=5)(hp:0<s.bA)(he:s.aK<999999):SG (oY s c) a:=by
 have hk:=h.sp.k2 hp
 have hkr:=bE.1 hk
 have hep:=h.sp.ep
 exact⟨{h.sp with page:=abp,st:=⟨by simp[oY],by simp[oY]⟩,k1:=λ_=>hk,k2:=λe=>by simp[oY] at e,ps:=⟨by simp[oY],by simp[oY]⟩,gn:=h.sp.ps,ep:=⟨by simp only[oY];omega,by simp only[oY];omega⟩,rk:=⟨by simp only[oY];omega,by simp only[oY];omega⟩,ce:=hc,qu:=⟨by simp[oY],by simp[oY]⟩},h.b1,h.b2,h.mo⟩
theorem aas(h:SG s a){m:aG}(hm:eS m=ζ):SG (rf s m).aM a:=by
 obtain⟨_,hc,_⟩:=Bq hm
 rw[rf]
 cases hb:leB s.bA 0||(!eqB m.ae s.bA||(!eqB m.bP s.aV.vB||leB 999999 s.aK))
 .simp only[adi] at hb
  exact ady h hc (xh hb.1) (xh hb.2.2.2)
 exact h
theorem aaq(h:SG s a){m:aG}(hm:eS m=ζ):SG (mS s m).aM a:=by
 obtain⟨_,hc,_,he,_⟩:=Bq hm
 rw[mS]
 cases !gx s m||(ltB m.aK s.aK||(eqB m.aK s.aK&&!eqB m.aS s.aS))
 .exact⟨{h.sp with page:=abp,ep:=he,ce:=hc,qu:=⟨by simp[rN],by simp[rN]⟩,rt:=⟨by simp[rN],by simp[rN]⟩},h.b1,h.b2,h.mo⟩
 exact h
theorem adx(h:SG s a)(m:aG):SG (vL s m).aM a:=by
 rw[vL]
 cases !gx s m||ltB s.ax.bw m.bP
 .exact(Kv h m.bP).1
 exact h
theorem sUp_SG(h:SG s a)(m:aG):SG (sUp s m).aM a:=by
 rw[sUp]
 cases hm:eS m
 .exact h
 cases eqB m.bb 1
 .cases eqB m.bb 3
  .cases eqB m.bb 5
   .cases eqB m.bb 8
    .exact h
    exact adx h m
   exact aaq h hm
  exact aas h hm
 exact adz h m
theorem aaj(h:SG s a):SG (lJ s) a:=
 ⟨{h.sp with page:=abp,k2:=λe=>by simp[lJ] at e,ps:=⟨by simp[lJ],by simp[lJ]⟩,qu:=⟨by simp[lJ],by simp[lJ]⟩,rt:=⟨by simp[lJ],by simp[lJ]⟩},h.b1,h.b2,h.mo⟩
theorem adH(h:SG s a){b:List Int}(hb:okB b):SG (s7 s b).1 a:=by
 rw[s7]
 cases h1:leB 24 (s.aC.length:Int)||ltB 60 (b.length:Int)
 .simp only[adi] at h1
  have h2:=xh h1.1
  have h3:=ou h1.2
  have hnx:=h.sp.nx
  refine⟨{h.sp with ok:=⟨h.sp.ok.1,⟨by simp;omega,λp hp=>?_⟩,h.sp.ok.2.2⟩,sl:=by simp;omega,sd:=λp hp=>?_,nx:=by simp;omega,un:=λx hx=>?_},λp hp=>?_,h.b2,h.mo⟩
  .rcases ab1.1 hp with hp|hp
   .exact h.sp.ok.2.1.2 p hp
   simp at hp;subst hp;exact⟨by grind,λ_ _=>trivial⟩
  .rcases ab1.1 hp with hp|hp
   .exact h.sp.sd p hp
   grind
  .have hu:=h.sp.un x hx
   have hs:=MG h.sp.win hx
   simp only[EY,cond_false] at hu ⊢
   rw[aer oaa]
   exact hu
  rcases ab1.1 hp with hp|hp
  .exact h.b1 p hp
  simp_all
 exact h
theorem aaW(ha:0<=p.fF/\p.fF<=2)(hp:POK p)(m:be):lv (mX p m).1=true:=by
 have h1:=hp.a
 have h2:=hp.w
 rw[mX]
 simp only[lv,v0,bE]
 cases hb:ltB 0 p.dy
 .simp only[cond_false]
  refine⟨ha,?_,by omega⟩
  cases hc:ltB p.dJ 4
  .simp
  have:=kO hc
  grind
 have:=kO hb
 grind
theorem ox(h:lv p=ζ):POK p:=by
 simp only[lv,v0,bE] at h;exact⟨h.2.1,h.2.2⟩
theorem Uz(h:qU m=ζ)(c:Int):0<=gL m c/\gL m c<=2:=by
 rw[gL]
 cases hc:er m c
 .simp
 obtain⟨d,_,_,h2⟩:=C6 hc
 simp only[qU,v0,eN] at h
 have:=h.2 _ d h2
 simp only[D6,v0,bE] at this
 simp_all
theorem AN(h:SG s a)(hm:qU m=ζ):SG (bX s a m).aM (bX s a m).cT:=by
 rw[bX]
 cases eqB s.aX 1
 .exact h
 simp only[au]
 have hq:=va h.sp
 cases ltB 4 (eH s)
 .exact Ip 2 _ _ _ (h.upd hq (vc h.sp))
 have h1:=h.upd hq h.sp.rt
 have hp:=ox h.sp.page
 exact⟨{h1.sp with page:=aaW (p:={s.et with fF:=gL m s.aS}) (Uz hm _) ⟨hp.a,hp.w⟩ m},h1.b1,h1.b2,h1.mo⟩
structure FP(nd nc:Nat)(f:bg):Prop where
 d:0<=f.aY/\f.aY<nd
 c:0<=f.aS/\f.aS<nc
 b:okB f.bV.bO.bh
 ok:lU f
structure MP(nc:Nat)(i:Nat)(d:aA)(s:ag)(a:av):Prop where
 dp:DP d
 dc:d.aS<nc
 sg:SG s a
 sc:s.aS<nc
 si:s.bG.aO=i
 ids:Hs d s=ζ
structure NP(B:Int)(n:ab):Prop where
 map:qU n.cp=ζ
 mok:gP n.cp
 core:kT n.fg=ζ
 up:n.fg.fZ≠0
 ld:n.aj.length<=4
 ls:n.an.length=n.aj.length
 la:n.aT.length=n.aj.length
 m:∀(i:Nat) d s a,n.aj[i]?=ς d->n.an[i]?=ς s->n.aT[i]?=ς a->MP n.cp.bp.length i d s a
 fl:n.aH.length<=200
 fs:∀f∈n.aH,FP n.aj.length n.cp.bp.length f
 dn:inR n.bH 0 (WR ((nO .i64 1 (n.cp.bp.length:Int))-1))=ζ
 nw:0<=n.iS/\n.iS<=100000
 lo:0<=n.Lost/\n.Lost<=B
theorem fX(h:qU m=ζ):1<=m.bp.length/\m.bp.length<=6:=by
 simp only[qU,v0,bE] at h;omega
theorem NP.at_(h:NP B n){i:Nat}(hi:i<n.aj.length):∃d s a,n.aj[i]?=ς d/\n.an[i]?=ς s/\n.aT[i]?=ς a/\MP n.cp.bp.length i d s a:=by
 have h1:=h.ls
 have h2:=h.la
 obtain⟨d,hd⟩:∃d,n.aj[i]?=ς d:=⟨_,aa9 hi⟩
 obtain⟨s,hs⟩:∃s,n.an[i]?=ς s:=⟨_,aa9 (show i<n.an.length by omega)⟩
 obtain⟨a,ha⟩:∃a,n.aT[i]?=ς a:=⟨_,aa9 (show i<n.aT.length by omega)⟩
 exact⟨d,s,a,hd,hs,ha,h.m i d s a hd hs ha⟩
theorem NP.mono{B':Int}(h:NP B n)(hb:B<=B'):NP B' n:={h with lo:=⟨h.lo.1,by have:=h.lo.2;omega⟩}
def eh(n:ab)(f:bg):ab:=bif leB 200 (n.aH.length:Int) then {n with Lost:=WR (n.Lost+1)} else {n with aH:=n.aH++[f]}
theorem Dz(hf:lU f):jx n f=ς (eh n f):=by
 simp only[jx,NB hf,afY,eh]
 cases hb:leB 200 (n.aH.length:Int)
 .have:=xh hb
  rw[cE oaa (by simp;omega)];rfl
 rfl
theorem Dy(hf:lU f):we n f=ς (eh n f):=by
 simp only[we,JW hf,afY,eh]
 cases hb:leB 200 (n.aH.length:Int)
 .have:=xh hb
  rw[cE oaa (by simp;omega)];rfl
 rfl
theorem CA(h:NP B n)(hf:FP n.aj.length n.cp.bp.length f)(hB:B<4611686018427387904):NP (B+1) (eh n f):=by
 have hl:=h.lo
 rw[eh]
 cases hb:leB 200 (n.aH.length:Int)
 .have hb:=xh hb
  refine {h.mono (show B<=B+1 by omega) with fl:=by simp;omega,fs:=λg hg=>?_}
  rcases ab1.1 hg with hg|hg
  .exact h.fs g hg
  simp_all
 exact {h.mono (show B<=B+1 by omega) with lo:=by simp only[cond_true];rw[bN oaa];omega}
theorem ie(n:ab)(f:bg):(eh n f).aj=n.aj/\(eh n f).an=n.an/\(eh n f).aT=n.aT/\(eh n f).cp=n.cp/\(eh n f).bH=n.bH/\(eh n f).fg=n.fg/\(eh n f).iS=n.iS:=by
 rw[eh];grind
def sends(n:ab)(l:List bg):ab:=l.foldl eh n
theorem dv:∀(l:List bg) (n:ab),(sends n l).aj=n.aj/\(sends n l).an=n.an/\(sends n l).aT=n.aT/\(sends n l).cp=n.cp/\(sends n l).bH=n.bH/\(sends n l).fg=n.fg/\(sends n l).iS=n.iS
 |[],n=>⟨rfl,rfl,rfl,rfl,rfl,rfl,rfl⟩
 |f::l,n=>by
  have h1:=ie n f
  have h2:=dv l (eh n f)
  have e:sends n (f::l)=sends (eh n f) l:=rfl
  simp_all
theorem AP:∀(l:List bg) {B:Int} {n:ab},NP B n->(∀f∈l,FP n.aj.length n.cp.bp.length f)->B+l.length<4611686018427387904->NP (B+l.length) (sends n l)
 |[],B,n,h,_,_=>by simpa [sends] using h
 |f::l,B,n,h,hf,hB=>by
  simp only[aee] at hB ⊢
  have h1:=CA h (hf f (by simp)) oaa
  have hk:=ie n f
  have:=AP l h1 (λg hg=>by simp_all) oaa
  rw[show B+((l.length+1:Nat):Int)=B+1+(l.length:Int) by omega]
  exact this
theorem xB(g:ab->bg->Option ab){α:Type}(mk:α->bg)(hg:∀n x,g n (mk x)=ς (eh n (mk x))):∀(l:List α) (n:ab),kW (λ(n:ab) x=>afW (g n (mk x)) λr=>ς (cj.next (ρ:=ab) r)) ς l n=ς (sends n (l.map mk))
 |[],n=>rfl
 |x::l,n=>by rw[kW,hg];exact xB g mk hg l _
def cM(i:Int)(up:Bool)(m:aG):bg:=⟨i,up,η,m.aS,m,gm⟩
def lj(i c:Int)(x:aF):bg:=⟨i,η,ζ,c,fH,x⟩
theorem MQ:qk gm:=⟨by decide,λ_ _=>trivial⟩
theorem DT(i:Int)(up:Bool)(m:aG):lU (cM i up m):=MQ
theorem Rk(n:ab)(i:Int)(up:Bool){l:List aG}(hl:l.length<=1048576):mV n i up l=ς (sends n (l.map (cM i up))):=by
 have:=eR (step:=mW i up l) l (λk n=>((k:Int),n)) (λn x=>afW (jx n (cM i up x)) λr=>ς (.next r)) ς oaa
  (λk x n hx hk=>by
   simp only[mW,cy hk,bB,hx,WRs (k:=k),cM,au]
   simp_all) (λn=>by simp[mW]) n
 rw[xB jx (cM i up) (λn x=>Dz (DT i up x))] at this
 rw[mV,show iter (mW i up l) FU (0,n)=_ from this];rfl
theorem X4(n:ab)(i:Int){l:List aG}(hl:l.length<=1048576):lS n i l=ς (sends n (l.map (cM i η))):=by
 have:=eR (step:=kE i l) l (λk n=>((k:Int),n)) (λn x=>afW (we n (cM i η x)) λr=>ς (.next r)) ς oaa
  (λk x n hx hk=>by
   simp only[kE,cy hk,bB,hx,WRs (k:=k),au]
   rw[show({fT with aY:=i,aS:=x.aS,aP:=x}:bg)=cM i η x from rfl]
   simp_all) (λn=>by simp[kE]) n
 rw[xB we (cM i η) (λn x=>Dy (DT i η x))] at this
 rw[lS,show iter (kE i l) FU (0,n)=_ from this];rfl
def dY(n:ab)(i:Nat)(r:bi):ab:=sends {n with aj:=n.aj.set i r.aY} (r.bY.map (cM i ζ))
theorem AE{i:Nat}(hi:i<n.aj.length){r:bi}(hr:r.bY.length<=1048576):kn n (i:Int) r=ς (dY n i r):=by
 simp only[kn,bB,aa9 hi,afY,afZ,Rk _ _ _ hr,dY]
theorem AD{i:Nat}(hi:i<n.aj.length){r:bi}(hr:r.bY.length<=1048576):ic n (i:Int) r=ς (dY n i r):=by
 have:=eR (step:=oL (i:Int) r) r.bY (λk n=>((k:Int),n)) (λn x=>afW (we n (cM i ζ x)) λr=>ς (.next r)) ς oaa
  (λk x n hx hk=>by
   simp only[oL,cy hk,bB,hx,WRs (k:=k),cM,au]
   simp_all) (λn=>by simp[oL]) {n with aj:=n.aj.set i r.aY}
 rw[xB we (cM (i:Int) ζ) (λn x=>Dy (DT _ ζ x))] at this
 simp only[ic,bB,aa9 hi,afY,afZ,dY]
 simp_all
theorem Mu{nd nc:Nat}{i:Nat}(hi:i<nd){up:Bool}{m:aG}(hm:0<=m.aS/\m.aS<nc):FP nd nc (cM i up m):=
 ⟨by simp only[cM];omega,hm,λx hx=>by simp[cM,gm,nL] at hx,DT _ _ _⟩
theorem jM{xs:List α}{i j:Nat}{x y:α}(h:(xs.set i x)[j]?=ς y):(i=j/\x=y)\/(i≠j/\xs[j]?=ς y):=by
 grind
theorem NP.setM(h:NP B n){i:Nat}{d:aA}(hm:MP n.cp.bp.length i d s a):
 NP B {n with aj:=n.aj.set i d,an:=n.an.set i s,aT:=n.aT.set i a}:=by
 have h1:=h.ls
 have h2:=h.la
 refine {h with ld:=by simpa using h.ld,ls:=by simp_all,la:=by simp_all,m:=λj d' s' a' hd hs ha=>?_,fs:=λf hf=>by rw[List.length_set];exact h.fs f hf}
 rcases jM hd with⟨e1,e2⟩|⟨e1,e2⟩<;>rcases jM hs with⟨e3,e4⟩|⟨e3,e4⟩<;>rcases jM ha with⟨e5,e6⟩|⟨e5,e6⟩<;>first|omega|skip
 .simp_all
 exact h.m j d' s' a' e2 e4 e6
theorem fR{xs:List α}{i:Nat}{x:α}(h:xs[i]?=ς x):xs.set i x=xs:=by
 apply af8
 grind
theorem NP.setD(h:NP B n){i:Nat}{d:aA}(hs:n.an[i]?=ς s)(ha:n.aT[i]?=ς a)(hm:MP n.cp.bp.length i d s a):NP B {n with aj:=n.aj.set i d}:=by
 have:=h.setM hm
 rwa [fR hs,fR ha] at this
theorem NP.setS(h:NP B n){i:Nat}{d:aA}(hd:n.aj[i]?=ς d)(ha:n.aT[i]?=ς a)(hm:MP n.cp.bp.length i d s a):NP B {n with an:=n.an.set i s}:=by
 have:=h.setM hm
 rwa [fR hd,fR ha] at this
structure DK(c:Int)(d:aA)(r:bi):Prop where
 id:r.aY.dq.ID=d.dq.ID
 key:r.aY.dq.eV=d.dq.eV
 cell:r.aY.aS=c
 sg:∀m∈r.bY,m.aS=c
 len:r.bY.length<=1
theorem DK.none(d:aA):DK d.aS d ⟨d,[]⟩:=⟨rfl,rfl,rfl,by simp,by simp⟩
theorem acj(d:aA):DK d.aS d (lA d):=⟨rfl,rfl,rfl,by simp[lA,eW,lN],by simp[lA]⟩
theorem Nn{d d':aA}(h:d'.dq=d.dq):DK d'.aS d (lA d'):=⟨by rw[<-h];rfl,by rw[<-h];rfl,rfl,by simp[lA,eW,lN],by simp[lA]⟩
theorem nX(d:aA):DK d.aS d (ef d):=by
 rw[ef]
 cases ltB 0 d.dy<;>cases eqB d.aX 1<;>cases eqB d.aX 2&&!d.bT<;>exact⟨rfl,rfl,rfl,by simp[iY,eW,lN],by simp⟩
theorem Lm(d:aA):DK d.aS d (dOn d):=by
 rw[dOn];cases eqB d.aX 0<;>exact⟨rfl,rfl,rfl,by simp[iY],by simp⟩
theorem Bc(d:aA)(m:aG):DK d.aS d (iU d m):=by
 rw[iU]
 cases !eS m||(!eqB m.aS d.aS||eqB d.aX 0)
 .simp only[cond_false]
  cases eqB m.bb 2&&eqB d.aX 1
  .simp only[cond_false]
   cases eqB m.bb 4&&(eqB d.aX 1&&(o7 d.aZ&&(eqB m.ae d.ae&&mr d.aZ m)))
   .simp only[cond_false]
    cases eqB m.bb 6&&(eqB d.aX 2&&(eqB m.ae d.ae&&(eqB m.aK d.aK&&mr d.aZ m)))
    .simp only[cond_false]
     cases eqB m.bb 7&&(eqB d.aX 3&&ltB d.aK 999999)
     .simp only[cond_false]
      cases eqB m.bb 7&&eqB d.aX 2
      .exact .none d
      exact acj d
     exact Nn (d:=d) (d':={d with aX:=2,aK:=d.aK+1}) rfl
    exact⟨rfl,rfl,rfl,by simp,by simp⟩
   exact⟨rfl,rfl,rfl,by simp,by simp⟩
  simp only[cond_true,zY]
  cases eqB (kL d.dq.eV d.dq.dh m.bZ) 0<;>exact⟨rfl,rfl,rfl,by simp,by simp⟩
 exact .none d
theorem Bb(d:aA)(x:aF):DK d.aS d (kq d x):=by
 simp only[kq]
 cases eqB d.aX 2&&(mM d.aZ d.ae d.aK x).2
 .exact .none d
 exact⟨rfl,rfl,rfl,by simp[vH,lN],by simp⟩
theorem GS(d:aA)(c:Int):DK d.aS d (sJ d c)\/(0<=c/\c<=5)/\DK c d (sJ d c):=by
 rw[sJ]
 cases h:eqB c d.aS||!inR c 0 5
 .simp only[adi,af5] at h
  right;refine⟨bE.1 h.2,?_⟩
  simp only[cond_false]
  cases eqB d.aX 2&&ltB d.aK 999999
  .exact⟨rfl,rfl,rfl,by simp,by simp⟩
  exact Nn (d:=d) (d':={d with aS:=c,aK:=d.aK+1}) rfl
 exact .inl (.none d)
structure SK(c:Int)(s:ag)(r:bJ):Prop where
 id:r.aM.bD.ID=s.bD.ID
 key:r.aM.bD.eV=s.bD.eV
 si:r.aM.bG.aO=s.bG.aO
 cell:r.aM.aS=s.aS\/r.aM.aS=c
 sg:∀m∈r.bY,m.aS=c
 len:r.bY.length<=1
 sub:r.aM.aC=s.aC
theorem SK.none(c:Int)(s:ag):SK c s ⟨s,[]⟩:=⟨rfl,rfl,rfl,.inl rfl,by simp,by simp,rfl⟩
theorem In(s:ag)(m:aG):SK m.aS s (sUp s m):=by
 rw[sUp]
 cases eS m
 .exact .none _ s
 simp only[au]
 cases eqB m.bb 1
 .simp only[cond_false]
  cases eqB m.bb 3
  .simp only[cond_false]
   cases eqB m.bb 5
   .simp only[cond_false]
    cases eqB m.bb 8
    .exact .none _ s
    simp only[cond_true,vL]
    cases !gx s m||ltB s.ax.bw m.bP
    .refine⟨rfl,rfl,?_,.inl rfl,by simp,by simp,rfl⟩
     simp only[cond_false,lk,tC]
     grind
    exact .none _ s
   simp only[cond_true,mS]
   cases !gx s m||(ltB m.aK s.aK||(eqB m.aK s.aK&&!eqB m.aS s.aS))
   .exact⟨rfl,rfl,rfl,.inr rfl,by simp[lr,lN,rN],by simp,rfl⟩
   exact .none _ s
  simp only[cond_true,rf]
  cases leB s.bA 0||(!eqB m.ae s.bA||(!eqB m.bP s.aV.vB||leB 999999 s.aK))
  .exact⟨rfl,rfl,rfl,.inr rfl,by simp[lr,lN,oY],by simp,rfl⟩
  exact .none _ s
 simp only[cond_true,zM]
 cases eqB s.bD.cH 999999
 .exact⟨rfl,rfl,rfl,.inl rfl,by simp,by simp,rfl⟩
 exact .none _ s
theorem MP.dev{nc i:Nat}{d:aA}(h:MP nc i d s a){c:Int}{r:bi}(hk:DK c d r)(hd:DP r.aY)(hc:c<nc):MP nc i r.aY s a:=by
 refine⟨hd,by rw[hk.cell];exact hc,h.sg,h.sc,h.si,?_⟩
 have:=h.ids
 simp only[Hs,hk.id,hk.key] at this ⊢;exact this
theorem MP.ses{nc i:Nat}{d:aA}(h:MP nc i d s a){c:Int}{r:bJ}(hk:SK c s r)(hs:SG r.aM a)(hc:c<nc):MP nc i d r.aM a:=by
 refine⟨h.dp,h.dc,hs,?_,by rw[hk.si];exact h.si,?_⟩
 .rcases hk.cell with e|e<;>rw[e]
  .exact h.sc
  exact hc
 have:=h.ids
 simp only[Hs,hk.id,hk.key] at this ⊢;exact this
theorem lV(h:NP B n){i:Nat}{d:aA}(hd:n.aj[i]?=ς d){c:Int}{r:bi}(hk:DK c d r)(hr:DP r.aY)(hc:c<n.cp.bp.length)(hB:B+1<4611686018427387904):NP (B+1) (dY n i r):=by
 have hi:=(abb.1 hd).1
 obtain⟨d',s,a,h1,h2,h3,hm⟩:=h.at_ hi
 rw[hd] at h1;cases h1
 have hn:=h.setD h2 h3 (hm.dev hk hr hc)
 have hl:=hk.len
 have:=AP (r.bY.map (cM i ζ)) hn (λf hf=>by
  obtain⟨m,hm',rfl⟩:=afk.1 hf
  rw[show({n with aj:=n.aj.set i r.aY}:ab).aj.length=n.aj.length by simp]
  refine Mu hi ?_
  rw[hk.sg m hm',<-hk.cell];exact⟨hr.ce.1,by rw[hk.cell];exact hc⟩) (by simp;omega)
 exact this.mono (by simp;omega)
def tu(n:ab)(i:Nat)(r:bJ):ab:=sends {n with an:=n.an.set i r.aM} (r.bY.map (cM i η))
theorem VG(h:NP B n){i:Nat}(hs:n.an[i]?=ς s){c:Int}{r:bJ}(hk:SK c s r)(hr:∀a,SG s a->SG r.aM a)(hc:0<=c/\c<n.cp.bp.length)(hB:B+1<4611686018427387904):NP (B+1) (tu n i r):=by
 have hi:=(abb.1 hs).1
 have hls:=h.ls
 obtain⟨d,s',a,h1,h2,h3,hm⟩:=h.at_ (show i<n.aj.length by omega)
 rw[hs] at h2;cases h2
 have hn:=h.setS h1 h3 (hm.ses hk (hr a hm.sg) hc.2)
 have hl:=hk.len
 have:=AP (r.bY.map (cM i η)) hn (λf hf=>by
  obtain⟨m,hm',rfl⟩:=afk.1 hf
  refine Mu (show i<n.aj.length by omega) ?_
  rw[hk.sg m hm'];exact hc) (by simp;omega)
 exact this.mono (by simp;omega)
def ez(n:ab)(k:Nat):ab:={n with aH:=n.aH.take k++n.aH.drop (k+1)}
theorem F1(h:NP B n)(k:Nat):NP B (ez n k):=by
 have:=h.fl
 refine {h with fl:=by simp[ez];omega,fs:=λf hf=>?_}
 have:f∈n.aH:=by
  simp only[ez,ab1] at hf
  rcases hf with hf|hf
  .grind
  grind
 exact h.fs f this
theorem Ue(hl:n.aH.length<=200)(hf:n.aH[k]?=ς f):A1 n (k:Int)=ς (f,ez n k):=by
 have hk:=(abb.1 hf).1
 have a1:eQ n.aH 0 (k:Int)=true:=by simp[eQ];omega
 have a2:eQ n.aH ((k+1:Nat):Int) (n.aH.length:Int)=true:=by simp[eQ];omega
 have a3:da 176 (n.aH.take k).length=true:=cE oaa (by simp;omega)
 have a4:da 176 (n.aH.take k++n.aH.drop (k+1)).length=true:=cE oaa (by simp;omega)
 simp only[A1,bB,hf,a1,WRs (k:=k),a2,afl,afZ,a3,a4,ez,au]
theorem Ud(hl:n.aH.length<=200)(hf:n.aH[k]?=ς f):sS n (k:Int)=ς (f,ez n k):=by
 have hk:=(abb.1 hf).1
 have a0:rF 176 0 (n.aH.length:Int)=true:=by simp only[rF,decide_eq_true_eq];omega
 have a1:eQ n.aH 0 (k:Int)=true:=by simp[eQ];omega
 have a2:eQ n.aH ((k+1:Nat):Int) (n.aH.length:Int)=true:=by simp[eQ];omega
 have a3:da 176 (n.aH.take k).length=true:=cE oaa (by simp;omega)
 have a4:da 176 (n.aH.take k++n.aH.drop (k+1)).length=true:=cE oaa (by simp;omega)
 have a5:(ab3 (0:Int).toNat fT)=[]:=rfl
 simp only[sS,bB,hf,a0,a1,WRs (k:=k),a2,a5,afl,afZ,a3,a4,ez,au]
def oo(n:ab)(c:Int):Bool:=er n.cp c&&eqB (yo .i64 (Cf .i64 n.bH c) 1) 0
theorem QC(hm:1<=n.cp.bp.length/\n.cp.bp.length<=6)(c:Int):uv n c=ς (oo n c):=by
 have hmin:jS (n.cp.bp.length:Int) 6=(n.cp.bp.length:Int):=by unfold jS;split<;>omega
 simp only[uv,Oh,hmin,fQ,afY,bN (n:=(n.cp.bp.length:Int)-1) oaa,oo]
 rw[show inR c 0 ((n.cp.bp.length:Int)-1)=er n.cp c from rfl]
 cases hc:er n.cp c
 .rfl
 have:=bE.1 (show inR c 0 ((n.cp.bp.length:Int)-1)=ζ from hc)
 rw[leB_t.2 this.1];rfl
theorem QB(hm:1<=n.cp.bp.length/\n.cp.bp.length<=6)(c:Int):uj n c=ς (oo n c):=by
 simp only[uj,yt (show n.cp.bp.length<=1048576 by omega),afY,oo]
 cases hc:er n.cp c
 .rfl
 have:=bE.1 (show inR c 0 ((n.cp.bp.length:Int)-1)=ζ from hc)
 rw[leB_t.2 this.1,ltB_t.2 (show c<6 by omega)];rfl
def Jl(n:ab):ab:={n with Lost:=WR (n.Lost+1)}
theorem LS(h:NP B n)(hB:B<4611686018427387904):NP (B+1) (Jl n):=by
 have hl:=h.lo
 exact {h.mono (show B<=B+1 by omega) with lo:=by simp only[Jl];rw[bN oaa];omega}
def dS(n:ab)(k:Nat):ab:=match n.aH[k]? with
 |none=>n
 |some f=>
  let n1:=ez n k
  let i:=f.aY.toNat
  bif !oo n1 f.aS then Jl n1 else
  bif f.dF then(bif f.cg||!eqB f.aP.aS f.aS then n1 else match n1.an[i]? with
   |none=>n1
   |some s=>tu n1 i (sUp s f.aP))
  else match n1.aj[i]? with
   |none=>n1
   |some d=>bif !eqB d.aS f.aS then Jl n1 else dY n1 i (bif f.cg then kq d f.bV else iU d f.aP)
theorem oS(h:NP B n)(k:Nat)(hB:B+1<4611686018427387904):NP (B+1) (dS n k):=by
 rw[dS]
 cases hf:n.aH[k]? with
 |none=>exact h.mono oaa
 |some f=>
  have hp:=h.fs f (abl hf)
  have h1:=F1 h k
  simp only
  cases oo (ez n k) f.aS
  .exact LS h1 oaa
  simp only[au]
  cases f.dF
  .simp only[cond_false]
   cases hd:(ez n k).aj[f.aY.toNat]? with
   |none=>exact h1.mono oaa
   |some d=>
    have hdi:=(abb.1 hd).1
    obtain⟨d',s,a,e1,e2,e3,hm⟩:=h1.at_ hdi
    rw[hd] at e1;cases e1
    simp only
    cases eqB d.aS f.aS
    .exact LS h1 oaa
    simp only[au]
    cases f.cg
    .exact lV h1 hd (Bc d f.aP) (acp hm.dp _) hm.dc hB
    exact lV h1 hd (Bb d f.bV) (acn hm.dp _) hm.dc hB
  simp only[cond_true]
  cases he:f.cg||!eqB f.aP.aS f.aS
  .simp only[cond_false]
   simp only[adi,af5] at he
   have he:=gj he.2
   cases hs:(ez n k).an[f.aY.toNat]? with
   |none=>exact h1.mono oaa
   |some s=>exact VG h1 hs (In s f.aP) (λa ha=>sUp_SG ha _) (by rw[he];exact hp.c) hB
  exact h1.mono oaa
theorem Qa(i:Int)(h:0<=i):i=(i.toNat:Int):=by omega
theorem UN(h:NP B n)(hk:k<n.aH.length):wQ n (k:Int)=ς (dS n k):=by
 obtain⟨f,hf⟩:∃f,n.aH[k]?=ς f:=⟨_,aa9 hk⟩
 have hp:=h.fs f (abl hf)
 have h1:=F1 h k
 have hls:=h1.ls
 have hdd:=hp.d
 obtain⟨d,s,a,e1,e2,e3,hm⟩:=h1.at_ (show f.aY.toNat<(ez n k).aj.length by simp only[ez];omega)
 have hdev:=Qa f.aY hdd.1
 have hix:ix (ez n k).an f.aY=ς s:=by rw[hdev,bB];exact e2
 have hixd:ix (ez n k).aj f.aY=ς d:=by rw[hdev,bB];exact e1
 have hdl:=(abb.1 e1).1
 have hp1:kn (ez n k) f.aY (kq d f.bV)=ς (dY (ez n k) f.aY.toNat (kq d f.bV)):=by
  rw[hdev];exact AE oaa (by have:=(Bb d f.bV).len;omega)
 have hp2:kn (ez n k) f.aY (iU d f.aP)=ς (dY (ez n k) f.aY.toNat (iU d f.aP)):=by
  rw[hdev];exact AE oaa (by have:=(Bc d f.aP).len;omega)
 have hp3:∀n',mV n' f.aY η (sUp s f.aP).bY=ς (sends n' ((sUp s f.aP).bY.map (cM (f.aY.toNat:Int) η))):=λn'=>by
  rw[<-hdev];exact Rk _ _ _ (by have:=(In s f.aP).len;omega)
 simp only[wQ,Ue h.fl hf,QC (fX h1.map),hix,hixd,up_s hm.sg.sp,rad_s hm.dp.ok (show Tx f.bV from hp.b),sig_s hm.dp.ok hm.dp.card hm.dp.ep,hp1,hp2,hp3,afY,dS,hf,e1,e2,tu,Jl]
 grind
theorem JP(h:NP B n)(hk:k<n.aH.length):Al n (k:Int)=ς (dS n k):=by
 obtain⟨f,hf⟩:∃f,n.aH[k]?=ς f:=⟨_,aa9 hk⟩
 have hp:=h.fs f (abl hf)
 have h1:=F1 h k
 have hls:=h1.ls
 have hdd:=hp.d
 obtain⟨d,s,a,e1,e2,e3,hm⟩:=h1.at_ (show f.aY.toNat<(ez n k).aj.length by simp only[ez];omega)
 have hdev:=Qa f.aY hdd.1
 have hix:ix (ez n k).an f.aY=ς s:=by rw[hdev,bB];exact e2
 have hixd:ix (ez n k).aj f.aY=ς d:=by rw[hdev,bB];exact e1
 have hdl:=(abb.1 e1).1
 have hp1:ic (ez n k) f.aY (kq d f.bV)=ς (dY (ez n k) f.aY.toNat (kq d f.bV)):=by
  rw[hdev];exact AD oaa (by have:=(Bb d f.bV).len;omega)
 have hp2:ic (ez n k) f.aY (iU d f.aP)=ς (dY (ez n k) f.aY.toNat (iU d f.aP)):=by
  rw[hdev];exact AD oaa (by have:=(Bc d f.aP).len;omega)
 have hp3:∀n',lS n' f.aY (sUp s f.aP).bY=ς (sends n' ((sUp s f.aP).bY.map (cM (f.aY.toNat:Int) η))):=λn'=>by
  rw[<-hdev];exact X4 _ _ (by have:=(In s f.aP).len;omega)
 simp only[Al,Ud h.fl hf,QB (fX h1.map),hix,hixd,up_i hm.sg.sp,rad_i hm.dp.ok (show Tx f.bV from hp.b),sig_i hm.dp.ok hm.dp.card hm.dp.ep,hp1,hp2,hp3,afY,dS,hf,e1,e2,tu,Jl]
 grind
theorem jt(n:ab)(i:Nat)(r:bi):(dY n i r).aj.length=n.aj.length/\(dY n i r).cp=n.cp/\(dY n i r).an=n.an/\(dY n i r).aT=n.aT/\(dY n i r).iS=n.iS:=by
 have:=dv (r.bY.map (cM i ζ)) {n with aj:=n.aj.set i r.aY}
 rw[dY,this.1,this.2.1,this.2.2.1,this.2.2.2.1,this.2.2.2.2.2.2];simp
def em:Nat->Nat->ab->ab
 |0,_,n=>n
 |c+1,i,n=>match n.aj[i]? with
  |none=>n
  |some d=>em c (i+1) (dY n i (ef d))
theorem E4{L:Int×ab->Option (cj (Int×ab) ab)}(N:Nat)(hN:N<=4)(hL:∀(i:Nat) (n:ab),n.aj.length=N->(i<N->∀d,n.aj[i]?=ς d->DP d->L ((i:Int),n)=ς (.next (((i+1:Nat):Int),dY n i (ef d))))/\(N<=i->L ((i:Int),n)=ς (.done n))):
 ∀(c i:Nat) {B:Int} (n:ab) (fu:Nat),NP B n->i+c=N->n.aj.length=N->c<fu->B+c<4611686018427387904->iter L fu ((i:Int),n)=ς (em c i n)/\NP (B+c) (em c i n)/\(em c i n).aj.length=N/\(em c i n).cp=n.cp
 |0,i,B,n,fu,h,h1,h2,h3,hB=>by
  cases fu with
  |zero=>omega
  |succ fu=>
   rw[iter,(hL i n h2).2 oaa]
   exact⟨rfl,by simpa [em] using h,h2,rfl⟩
 |c+1,i,B,n,fu,h,h1,h2,h3,hB=>by
  cases fu with
  |zero=>omega
  |succ fu=>
   obtain⟨d,s,a,e1,e2,e3,hm⟩:=h.at_ (show i<n.aj.length by omega)
   have hp:=lV h e1 (nX d) (zZ hm.dp) hm.dc oaa
   have hk:=jt n i (ef d)
   rw[iter,(hL i n h2).1 oaa d e1 hm.dp,em,e1]
   simp only
   have ih:=E4 N hN hL c (i+1) (dY n i (ef d)) fu hp oaa oaa oaa oaa
   grind
def zu(x:aF):Prop:=okB x.bO.bh/\x.bO.bh.length<=60
theorem CL(k g e:Int)(h:x.bh.length<=60):zu (fY k g e x):=⟨Lt _ _,by simp[fY,Io];exact h⟩
theorem M1(h:WOK s.ax):∀x∈zv s,zu x:=by
 rw[zv];cases eqB s.aX 1
 .simp
 intro x hx
 obtain⟨y,hy,rfl⟩:=afk.1 hx
 exact CL _ _ _ (h.d y (aeo hy))
theorem Es(s:ag)(a:av)(n:Int):(cf s a n).1.bG.aO=s.bG.aO:=by rw[cf];cases leB (gF s n) 0<;>rfl
theorem Iq:∀(k:Nat) (s:ag) (a:av) (r:List aF),SG s a->(∀x∈r,zu x)->
 (fm k s a r).1.bD=s.bD/\(fm k s a r).1.aS=s.aS/\(fm k s a r).1.bG.aO=s.bG.aO/\(fm k s a r).1.aC=s.aC/\∀x∈(fm k s a r).2.2,zu x
 |0,s,a,r,h,hr=>⟨rfl,rfl,rfl,rfl,hr⟩
 |k+1,s,a,r,h,hr=>by
  rw[fm]
  cases e:nM s with
  |none=>simp_all
  |some x=>
   obtain⟨hm,hx,_,hn,hl,hb⟩:=jq h.sp e
   have he:=rh h (n:=(x.bh.length:Int)) oaa
   obtain⟨q,hk⟩:=je s a (x.bh.length:Int)
   have hid:=Es s a (x.bh.length:Int)
   simp only
   cases hq:ltB 0 (gF (cf s a (x.bh.length:Int)).1 (x.bh.length:Int))
   .simp only[cond_false]
    have ih:=Iq k {(cf s a (x.bh.length:Int)).1 with ax:=sent (cf s a (x.bh.length:Int)).1.ax x.bh} (cf s a (x.bh.length:Int)).2
     (r++[fY (cf s a (x.bh.length:Int)).1.aZ (cf s a (x.bh.length:Int)).1.ae (cf s a (x.bh.length:Int)).1.aK ⟨(cf s a (x.bh.length:Int)).1.ax.bw,x.bh⟩])
     (y4 he (by rw[hk];exact e) hq) (λy hy=>by
      rcases ab1.1 hy with hy|hy
      .exact hr y hy
      simp at hy;subst hy;exact CL _ _ _ hb)
    simp_all
   simp_all
theorem ZM{a t:Int}:∀c∈AC m a t,0<=c/\c<m.bp.length:=by
 intro c hc
 have h1:∀c∈nf m a,0<=c/\c<m.bp.length:=λc hc=>by
  obtain⟨y,hy,rfl⟩:=afk.1 hc
  grind
 have h2:∀c∈M2 m,0<=c/\c<m.bp.length:=λc hc=>by
  obtain⟨k,hk,rfl⟩:=afk.1 hc
  simp_all
 rw[AC] at hc;grind
structure TK(nc:Nat)(s:ag)(a:av)(t:bM):Prop where
 rcd:t.aM.bD=s.bD
 cell:t.aM.aS=s.aS
 si:t.aM.bG.aO=s.bG.aO
 sub:t.aM.aC=s.aC
 pg:∀m∈t.fj,0<=m.aS/\m.aS<nc
 pl:t.fj.length<=1000
 rd:∀x∈t.bV,zu x
 rl:t.bV.length<=4
theorem mT(h:SG s a)(hm:m.bp.length<=1000):TK m.bp.length s a (bX s a m):=by
 rw[bX]
 cases eqB s.aX 1
 .exact⟨rfl,rfl,rfl,rfl,by simp,by simp,by simp,by simp⟩
 simp only[au]
 have hg:=Aa h
 have hq:=va h.sp
 cases ltB 4 (eH s)
 .simp only[cond_false,vh]
  have hk:=Iq 2 _ _ [] (h.upd hq (vc h.sp)) (by simp)
  have hl:=xT 2 {s with cP:=eH s,cF:=(iG s).2,bG:=(eK s a).2} (eK s a).1 []
  have hr:=Bt s
  refine⟨hk.1,hk.2.1,hk.2.2.1.trans hg.2.2.1,hk.2.2.2.1,by simp,by simp,λx hx=>?_,by grind⟩
  rcases ab1.1 hx with hx|hx
  .rw[iG] at hx;revert hx
   cases xr s
   .simp
   cases ltB 0 s.cF
   .exact M1 h.sp.win x
   simp
  simp_all
 simp only[cond_true,B6]
 refine⟨rfl,rfl,hg.2.2.1,rfl,λx hx=>?_,by have:=E5 (p:={s.et with fF:=gL m s.aS}) hm;simp_all,by simp,by simp⟩
 obtain⟨c,hc,rfl⟩:=afk.1 hx
 simp only[jT]
 rw[mX] at hc;revert hc
 cases ltB 0 s.et.dy
 .exact ZM c
 simp
def gk(n:ab)(i:Nat)(t:bM):ab:=
 sends (sends {n with an:=n.an.set i t.aM,aT:=n.aT.set i t.cT} (t.fj.map (cM i η))) (t.bV.map (lj i t.aM.aS))
theorem adp{nd nc i:Nat}(hi:i<nd){c:Int}(hc:0<=c/\c<nc){x:aF}(hx:zu x):FP nd nc (lj i c x):=
 ⟨by simp only[lj];omega,hc,hx.1,⟨by have:=hx.2;simp only[lj];omega,λ_ _=>trivial⟩⟩
theorem Km(n:ab)(i:Nat)(t:bM):(gk n i t).aj=n.aj/\(gk n i t).cp=n.cp/\(gk n i t).an.length=n.an.length/\(gk n i t).iS=n.iS:=by
 have h1:=dv (t.fj.map (cM i η)) {n with an:=n.an.set i t.aM,aT:=n.aT.set i t.cT}
 have h2:=dv (t.bV.map (lj i t.aM.aS)) (sends {n with an:=n.an.set i t.aM,aT:=n.aT.set i t.cT} (t.fj.map (cM i η)))
 rw[gk,h2.1,h2.2.1,h2.2.2.2.1,h2.2.2.2.2.2.2,h1.1,h1.2.1,h1.2.2.2.1,h1.2.2.2.2.2.2];simp
theorem DD(h:NP B n){i:Nat}(hs:n.an[i]?=ς s)(ha:n.aT[i]?=ς a){t:bM}(hk:TK n.cp.bp.length s a t)(hg:SG t.aM t.cT)(hB:B+2000<4611686018427387904):NP (B+2000) (gk n i t):=by
 have hi:=(abb.1 hs).1
 have hls:=h.ls
 obtain⟨d,s',a',h1,h2,h3,hm⟩:=h.at_ (show i<n.aj.length by omega)
 rw[hs] at h2;cases h2
 rw[ha] at h3;cases h3
 have hmp:MP n.cp.bp.length i d t.aM t.cT:=by
  refine⟨hm.dp,hm.dc,hg,by rw[hk.cell];exact hm.sc,by rw[hk.si];exact hm.si,?_⟩
  have:=hm.ids
  simp only[Hs,hk.rcd] at this ⊢;exact this
 have hn:=h.setM hmp
 rw[fR h1] at hn
 have hpl:=hk.pl
 have hrl:=hk.rl
 have k1:=dv (t.fj.map (cM i η)) {n with an:=n.an.set i t.aM,aT:=n.aT.set i t.cT}
 have p1:=AP (t.fj.map (cM i η)) hn (λf hf=>by
  obtain⟨m,hm',rfl⟩:=afk.1 hf
  exact Mu (show i<n.aj.length by omega) (hk.pg m hm')) (by simp;omega)
 have p2:=AP (t.bV.map (lj i t.aM.aS)) p1 (λf hf=>by
  obtain⟨x,hx,rfl⟩:=afk.1 hf
  rw[k1.1,k1.2.2.2.1]
  exact adp (show i<n.aj.length by omega) (by rw[hk.cell];exact⟨hm.sg.sp.ce.1,hm.sc⟩) (hk.rd x hx)) (by simp;omega)
 exact p2.mono (by simp;omega)
def fC:Nat->Nat->ab->ab
 |0,_,n=>n
 |c+1,i,n=>match n.an[i]?,n.aT[i]? with
  |some s,ς a=>fC c (i+1) (gk n i (bX s a n.cp))
  |_,_=>n
theorem E6{L:Int×ab->Option (cj (Int×ab) ab)}(N:Nat)(hN:N<=4)(hL:∀(i:Nat) (n:ab),n.an.length=N->(i<N->∀s a,n.an[i]?=ς s->n.aT[i]?=ς a->SG s a->qU n.cp=ζ->L ((i:Int),n)=ς (.next (((i+1:Nat):Int),gk n i (bX s a n.cp))))/\(N<=i->L ((i:Int),n)=ς (.done n))):
 ∀(c i:Nat) {B:Int} (n:ab) (fu:Nat),NP B n->i+c=N->n.an.length=N->c<fu->B+2000*c<4611686018427387904->iter L fu ((i:Int),n)=ς (fC c i n)/\NP (B+2000*c) (fC c i n)/\(fC c i n).aj=n.aj/\(fC c i n).cp=n.cp
 |0,i,B,n,fu,h,h1,h2,h3,hB=>by
  cases fu with
  |zero=>omega
  |succ fu=>
   rw[iter,(hL i n h2).2 oaa]
   exact⟨rfl,by simpa [fC] using h,rfl,rfl⟩
 |c+1,i,B,n,fu,h,h1,h2,h3,hB=>by
  cases fu with
  |zero=>omega
  |succ fu=>
   have hls:=h.ls
   obtain⟨d,s,a,e1,e2,e3,hm⟩:=h.at_ (show i<n.aj.length by omega)
   have hml:=fX h.map
   have hp:=DD h e2 e3 (mT hm.sg oaa) (AN hm.sg h.map) oaa
   have hk:=Km n i (bX s a n.cp)
   rw[iter,(hL i n h2).1 oaa s a e2 e3 hm.sg h.map,fC,e2,e3]
   simp only
   have ih:=E6 N hN hL c (i+1) (gk n i (bX s a n.cp)) fu hp oaa oaa oaa oaa
   grind
def jp(n:ab):Bool×ab:=
 bif leB 100000 n.iS then(η,n) else
  let n1:=em n.aj.length 0 {n with iS:=n.iS+1}
  (ζ,fC n1.an.length 0 n1)
theorem ux{B:Int}{n:ab}(h:NP B n)(hB:B+10000<4611686018427387904):D3 n=ς (jp n)/\NW n=ς (jp n)/\NP (B+10000) (jp n).2:=by
 have hnw:=h.nw
 have hld:=h.ld
 rw[jp,D3,NW]
 cases hb:leB 100000 n.iS
 .have hb:=xh hb
  simp only[cond_false]
  have h1:NP B {n with iS:=n.iS+1}:={h with nw:=by grind}
  rw[bN (n:=n.iS+1) oaa]
  have rs:=E4 (L:=wR) n.aj.length hld (λi n' hn'=>⟨λhi d hd hp=>by
   simp only[wR,hn',cy hi,bB,hd,tick_s hp.ok hp.wt.2,AE (show i<n'.aj.length by omega) (show(ef d).bY.length<=1048576 by have:=(nX d).len;omega),WRs (k:=i),au],λhi=>by
   simp only[wR,hn',ltB_f.2 (show(n.aj.length:Int)<=(i:Int) by omega),cond_false]⟩) n.aj.length 0 _ FU h1 oaa rfl (by have:=gH;omega) oaa
  have ri:=E4 (L:=Dp n) n.aj.length hld (λi n' hn'=>⟨λhi d hd hp=>by
   simp only[Dp,cy hi,bB,hd,tick_i hp.ok hp.wt.2,AD (show i<n'.aj.length by omega) (show(ef d).bY.length<=1048576 by have:=(nX d).len;omega),WRs (k:=i),au],λhi=>by
   simp only[Dp,ltB_f.2 (show(n.aj.length:Int)<=(i:Int) by omega),cond_false]⟩) n.aj.length 0 _ FU h1 oaa rfl (by have:=gH;omega) oaa
  rw[show((0:Nat):Int)=0 from rfl] at rs ri
  have h2:=(rs).2.1
  have hls:=h2.ls
  have hl2:=h2.ld
  generalize em n.aj.length 0 {n with iS:=n.iS+1}=n1 at*
  have radS:∀(n':ab) (i:Nat) (t:bM),(∀x∈t.bV,zu x)->t.bV.length<=4->iter (pw (i:Int) t) FU (0,n')=ς (sends n' (t.bV.map (lj i t.aM.aS))):=λn' i t ht hl=>by
   have:=eR (step:=pw (i:Int) t) t.bV (λk n=>((k:Int),n)) (λn x=>afW (jx n (lj i t.aM.aS x)) λr=>ς (.next r)) ς oaa
    (λk x n hx hk=>by
     simp only[pw,cy hk,bB,hx,WRs (k:=k),lj,au]
     simp_all) (λn=>by simp[pw]) n'
   refine Eq.trans (show iter (pw (i:Int) t) FU (0,n')=_ from this) ?_
   clear this
   have key:∀(l:List aF) (n':ab),(∀x∈l,zu x)->kW (λ(n:ab) x=>afW (jx n (lj i t.aM.aS x)) λr=>ς (cj.next (ρ:=ab) r)) ς l n'=ς (sends n' (l.map (lj i t.aM.aS))):=by
    intro l
    induction l with
    |nil=>intro n' _;rfl
    |cons x l ih=>intro n' hx;rw[kW,Dz (f:=lj i t.aM.aS x) ⟨by have:=(hx x (by simp)).2;simp only[lj];omega,λ_ _=>trivial⟩];exact ih _ λy hy=>hx y (by simp[hy])
   simp_all
  have radI:∀(n':ab) (i:Nat) (t:bM),(∀x∈t.bV,zu x)->t.bV.length<=4->iter (xE (i:Int) t) FU (0,n')=ς (sends n' (t.bV.map (lj i t.aM.aS))):=λn' i t ht hl=>by
   have:=eR (step:=xE (i:Int) t) t.bV (λk n=>((k:Int),n)) (λn x=>afW (we n (lj i t.aM.aS x)) λr=>ς (.next r)) ς oaa
    (λk x n hx hk=>by
     simp only[xE,cy hk,bB,hx,WRs (k:=k),lj,au]
     simp_all) (λn=>by simp[xE]) n'
   refine Eq.trans (show iter (xE (i:Int) t) FU (0,n')=_ from this) ?_
   clear this
   have key:∀(l:List aF) (n':ab),(∀x∈l,zu x)->kW (λ(n:ab) x=>afW (we n (lj i t.aM.aS x)) λr=>ς (cj.next (ρ:=ab) r)) ς l n'=ς (sends n' (l.map (lj i t.aM.aS))):=by
    intro l
    induction l with
    |nil=>intro n' _;rfl
    |cons x l ih=>intro n' hx;rw[kW,Dy (f:=lj i t.aM.aS x) ⟨by have:=(hx x (by simp)).2;simp only[lj];omega,λ_ _=>trivial⟩];exact ih _ λy hy=>hx y (by simp[hy])
   simp_all
  have ss:=E6 (L:=wT) n1.an.length oaa (λi n' hn'=>⟨λhi s a hs ha hg hm=>by
   have hml:=fX hm
   have hk:=mT hg (m:=n'.cp) oaa
   simp only[wT,hn',cy hi,bB,hs,ha,ad9 hg (m:=n'.cp) oaa (ox hg.sp.page),afZ,Rk _ _ _ (show(bX s a n'.cp).fj.length<=1048576 by have:=hk.pl;omega),radS _ i _ hk.rd hk.rl,gk,WRs (k:=i),au],λhi=>by
   simp only[wT,hn',ltB_f.2 (show(n1.an.length:Int)<=(i:Int) by omega),cond_false]⟩) n1.an.length 0 n1 FU h2 oaa rfl (by have:=gH;omega) oaa
  have si:=E6 (L:=Dq n1) n1.an.length oaa (λi n' hn'=>⟨λhi s a hs ha hg hm=>by
   have hml:=fX hm
   have hk:=mT hg (m:=n'.cp) oaa
   simp only[Dq,cy hi,bB,hs,ha,ad8 hg (m:=n'.cp) oaa (ox hg.sp.page),afZ,X4 _ _ (show(bX s a n'.cp).fj.length<=1048576 by have:=hk.pl;omega),radI _ i _ hk.rd hk.rl,gk,WRs (k:=i),au],λhi=>by
   simp only[Dq,ltB_f.2 (show(n1.an.length:Int)<=(i:Int) by omega),cond_false]⟩) n1.an.length 0 n1 FU h2 oaa rfl (by have:=gH;omega) oaa
  rw[show((0:Nat):Int)=0 from rfl] at ss si
  rw[rs.1]
  rw[ri.1]
  simp only[afY]
  rw[ss.1]
  rw[si.1]
  exact⟨rt,rt,(ss).2.1.mono oaa⟩
 exact⟨rt,rt,h.mono oaa⟩
def yd(p:bQ)(k:Int):Bool:=kT p&&(inR k 0 (p.fU-1)&&eqB (yo .i64 (Cf .i64 p.fZ k) 1) 1)
theorem lG{p:bQ}(h:kT p=ζ):1<=p.fU/\p.fU<=6:=by
 simp only[kT,v0,bE] at h;exact h.1
theorem T8(p:bQ)(k:Int):sY p k=ς (yd p k):=by
 simp only[sY,QS,fQ,afY,yd]
 cases hp:kT p
 .rfl
 have:=lG hp
 rw[bN (n:=p.fU-1) oaa]
 cases hk:inR k 0 (p.fU-1)
 .rfl
 rw[leB_t.2 (bE.1 hk).1];rfl
theorem T7(p:bQ)(k:Int):sM p k=ς (yd p k):=by
 simp only[sM,Md,gE,afY,yd]
 cases hp:kT p
 .rfl
 have:=lG hp
 rw[bN (n:=p.fU-1) oaa]
 cases hk:inR k 0 (p.fU-1)
 .rfl
 rw[leB_t.2 (bE.1 hk).1];rfl
def mU(p:bQ)(k:Int)(up:Bool):bQ:=
 bif !kT p||!inR k 0 (p.fU-1) then p else⟨p.fU,bif up then bOr .i64 p.fZ (nO .i64 1 k) else yp .i64 p.fZ (nO .i64 1 k)⟩
theorem adO(p:bQ)(k:Int)(up:Bool):ud p k up=ς (mU p k up):=by
 simp only[ud,QS,fQ,afY,mU]
 cases hp:kT p
 .rfl
 have:=lG hp
 rw[bN (n:=p.fU-1) oaa]
 cases hk:inR k 0 (p.fU-1)
 .rfl
 rw[leB_t.2 (bE.1 hk).1];grind
theorem adN(p:bQ)(k:Int)(up:Bool):tM p k up=ς (mU p k up):=by
 simp only[tM,Md,gE,afY,mU]
 cases hp:kT p
 .rfl
 have:=lG hp
 rw[bN (n:=p.fU-1) oaa]
 cases hk:inR k 0 (p.fU-1)
 .rfl
 rw[leB_t.2 (bE.1 hk).1];grind
theorem Zf:∀c∈abm 7,∀d∈abm (2^c),∀i∈abm c,
 (inR (Jb .i64 (d:Int) (nO .i64 1 (i:Int))) 0 (WR (nO .i64 1 (c:Int)-1))&&(inR (bOr .i64 (d:Int) (nO .i64 1 (i:Int))) 0 (WR (nO .i64 1 (c:Int)-1))&&inR (yp .i64 (d:Int) (nO .i64 1 (i:Int))) 0 (WR (nO .i64 1 (c:Int)-1))))=true:=by decide+kernel
theorem aaH:∀c∈abm 7,WR (nO .i64 1 (c:Int)-1)=((2^c:Nat):Int)-1:=by decide+kernel
theorem Ti{c:Nat}(hc:c<=6){d k:Int}(hd:inR d 0 (WR (nO .i64 1 (c:Int)-1))=ζ)(hk:0<=k/\k<c):
 inR (Jb .i64 d (nO .i64 1 k)) 0 (WR (nO .i64 1 (c:Int)-1))=ζ/\inR (bOr .i64 d (nO .i64 1 k)) 0 (WR (nO .i64 1 (c:Int)-1))=ζ/\inR (yp .i64 d (nO .i64 1 k)) 0 (WR (nO .i64 1 (c:Int)-1))=true:=by
 have hd':=bE.1 hd
 rw[aaH c (af1.2 oaa)] at hd'
 have:=Zf c (af1.2 oaa) d.toNat (af1.2 oaa) k.toNat (af1.2 oaa)
 grind
theorem aaF{p:bQ}(h:kT p=ζ)(k:Int)(up:Bool):kT (mU p k up)=ζ/\(mU p k up).fU=p.fU:=by
 rw[mU,h]
 cases hk:inR k 0 (p.fU-1)
 .simp_all
 have hk:=bE.1 hk
 have hp:=lG h
 simp only[kT,v0] at h
 have hm:=Ti (c:=p.fU.toNat) oaa (d:=p.fZ) (k:=k) (by grind) oaa
 rw[show(p.fU.toNat:Int)=p.fU by omega] at hm
 simp only[af7,kT,v0,au]
 grind
def wt(a b:Int):Int:=afX (WR (dW 17 [a,b]*dW 17 [a,b])) 2147483647
theorem wt_s(a b:Int):jW a b=ς (wt a b):=by simp[jW,eD,wt]
theorem wt_i(a b:Int):me a b=ς (wt a b):=by simp[me,eC,wt]
theorem wt_nn(a b:Int):0<=wt a b:=by
 have h:=lF 17 [a,b]
 unfold hM at h
 have h2:0<=dW 17 [a,b]*dW 17 [a,b]:=Int.mul_nonneg h.1 h.1
 have h3:dW 17 [a,b]*dW 17 [a,b]<=2147483647*2147483647:=Int.mul_le_mul oaa oaa h.1 oaa
 rw[wt,bN oaa]
 grind
def Bw(p:bQ)(i v:Int)(k:Int):Int:=bif yd p k&&(ltB v 0||ltB (wt v i) (wt k i)) then k else v
def Wa(p:bQ)(i:Int):Nat->Nat->Int->Int
 |0,_,v=>v
 |c+1,k,v=>Wa p i c (k+1) (Bw p i v k)
def sel(p:bQ)(i:Int):Int:=Wa p i p.fU.toNat 0 (-1)
theorem KB{p:bQ}(h:kT p=ζ)(i:Int):∀(c k fu:Nat) (v:Int),k+c=p.fU.toNat->c<fu->iter (nD p i) fu (v,(k:Int))=ς (Wa p i c k v)
 |0,k,fu,v,h1,h2=>by
  have hp:=lG h
  cases fu with
  |zero=>omega
  |succ fu=>rw[iter];simp[nD,ltB_f.2 (show p.fU<=(k:Int) by omega),Wa]
 |c+1,k,fu,v,h1,h2=>by
  have hp:=lG h
  cases fu with
  |zero=>omega
  |succ fu=>
   have hc:(bif ltB (k:Int) p.fU then ς (ltB (k:Int) 6) else ς η)=ς true:=by rw[ltB_t.2 (show(k:Int)<p.fU by omega),ltB_t.2 (show(k:Int)<6 by omega)];rfl
   have hs:(afW (bif yd p k then(bif ltB v 0 then ς ζ else ς (ltB (wt v i) (wt k i))) else ς η) λ(v12:Bool)=>afW (bif v12 then ς (k:Int) else ς v) λ(v15:Int)=>ς (cj.next (ρ:=Int) (v15,WR ((k:Int)+1))))=ς (.next (Bw p i v k,((k+1:Nat):Int))):=by
    rw[pA oaa,Bw]
    cases yd p k<;>cases ltB v 0<;>cases ltB (wt v i) (wt k i)<;>rfl
   rw[iter]
   simp only[nD,hc,T8,wt_s,hs,au]
   exact KB h i c (k+1) fu _ oaa oaa
def Ld(i v:Int):Int:=bif ltB v 0 then-1 else wt v i
theorem KA{p:bQ}(h:kT p=ζ)(i:Int):∀(c k fu:Nat) (v:Int),k+c=p.fU.toNat->c<fu->iter (kC p i) fu (v,Ld i v,(k:Int))=ς (Wa p i c k v)
 |0,k,fu,v,h1,h2=>by
  have hp:=lG h
  cases fu with
  |zero=>omega
  |succ fu=>rw[iter];simp[kC,ltB_f.2 (show p.fU<=(k:Int) by omega),Wa]
 |c+1,k,fu,v,h1,h2=>by
  have hp:=lG h
  cases fu with
  |zero=>omega
  |succ fu=>
   have hs:kC p i (v,Ld i v,(k:Int))=ς (.next (Bw p i v k,Ld i (Bw p i v k),((k+1:Nat):Int))):=by
    simp only[kC,ltB_t.2 (show(k:Int)<p.fU by omega),T7,wt_i,WRs (k:=k),Bw,au]
    have hw:=wt_nn k i
    have hk:Ld i (k:Int)=wt k i:=by rw[Ld,ltB_f.2 (show(0:Int)<=k by omega)];rfl
    have hb:ltB (Ld i v) (wt k i)=(ltB v 0||ltB (wt v i) (wt k i)):=by
     rw[Ld];cases ltB v 0
     .rfl
     simp only[cond_true,agn];exact ltB_t.2 oaa
    rw[hb]
    cases yd p k<;>cases ltB v 0||ltB (wt v i) (wt k i)<;>simp[hk]
   rw[iter,hs]
   exact KA h i c (k+1) fu _ oaa oaa
theorem sel_s{p:bQ}(h:kT p=ζ)(i:Int):oA p i=ς (sel p i):=by
 have hp:=lG h
 have:=KB h i p.fU.toNat 0 FU (-1) oaa (by have:=gH;omega)
 rw[show((0:Nat):Int)=0 from rfl] at this
 rw[oA,this];rfl
theorem sel_i{p:bQ}(h:kT p=ζ)(i:Int):og p i=ς (sel p i):=by
 have hp:=lG h
 have:=KA h i p.fU.toNat 0 FU (-1) oaa (by have:=gH;omega)
 rw[show((0:Nat):Int)=0 from rfl,show Ld i (-1)= -1 from by simp[Ld,ltB]] at this
 simp only[og,Md,h,this,sel,au]
def zD(p q:bQ):Nat->Nat->List ag->List ag
 |0,_,l=>l
 |c+1,i,l=>zD p q c (i+1) (bif eqB (sel p i) (sel q i) then l else match l[i]? with
  |some s=>l.set i (lJ s)
  |none=>l)
def kv(n:ab)(k:Int)(up:Bool):Bool×ab:=
 let q:=mU n.fg k up
 bif !inR k 0 (n.fg.fU-1)||(booB (yd n.fg k) up||eqB q.fZ 0) then(η,n) else(ζ,{n with an:=zD n.fg q n.an.length 0 n.an,fg:=q})
theorem o8(p q:bQ):∀(c i:Nat) (l:List ag) (j:Nat),(zD p q c i l)[j]?=l[j]?\/∃s,l[j]?=ς s/\(zD p q c i l)[j]?=ς (lJ s)
 |0,i,l,j=>.inl rfl
 |c+1,i,l,j=>by
  rw[zD]
  cases eqB (sel p i) (sel q i)
  .simp only[cond_false]
   cases hi:l[i]? with
   |none=>exact o8 p q c (i+1) l j
   |some s=>
    simp only
    by_cases e:i=j
    .subst e
     have hg:(l.set i (lJ s))[i]?=ς (lJ s):=by simp[(abb.1 hi).1]
     rcases o8 p q c (i+1) (l.set i (lJ s)) i with h|⟨t,h1,h2⟩
     .simp_all
     rw[hg] at h1;cases h1;exact .inr ⟨s,hi,h2⟩
    have hg:(l.set i (lJ s))[j]?=l[j]?:=by rw[afE,if_neg e]
    rcases o8 p q c (i+1) (l.set i (lJ s)) j with h|⟨t,h1,h2⟩
    .simp_all
    grind
  exact o8 p q c (i+1) l j
theorem JU(p q:bQ):∀(c i:Nat) (l:List ag),(zD p q c i l).length=l.length
 |0,i,l=>rfl
 |c+1,i,l=>by
  rw[zD,JU]
  grind
theorem G7{L:Int×List ag->Option (cj (Int×List ag) (List ag))}{p q:bQ}(N:Nat)(hL:∀(i:Nat) (l:List ag),l.length=N->(i<N->(∀s∈l,d7 s)->L ((i:Int),l)=ς (.next (((i+1:Nat):Int),bif eqB (sel p i) (sel q i) then l else match l[i]? with|some s=>l.set i (lJ s)|none=>l)))/\(N<=i->L ((i:Int),l)=ς (.done l))):
 ∀(c i fu:Nat) (l:List ag),i+c=N->l.length=N->(∀s∈l,d7 s)->c<fu->iter L fu ((i:Int),l)=ς (zD p q c i l)
 |0,i,fu,l,h1,h2,h3,h4=>by
  cases fu with
  |zero=>omega
  |succ fu=>rw[iter,(hL i l h2).2 oaa];rfl
 |c+1,i,fu,l,h1,h2,h3,h4=>by
  cases fu with
  |zero=>omega
  |succ fu=>
   rw[iter,(hL i l h2).1 oaa h3,zD]
   simp only
   refine G7 N hL c (i+1) fu _ oaa ?_ (λs hs=>?_) oaa
   .grind
   revert hs
   cases eqB (sel p i) (sel q i)
   .simp only[cond_false]
    cases hi:l[i]? with
    |none=>exact h3 s
    |some t=>
     intro hs
     rcases List.mem_or_eq_of_mem_set hs with hs|rfl
     .exact h3 s hs
     exact h3 t (abl hi)
   exact h3 s
theorem OX(h:NP B n)(k:Int)(up:Bool):zi n k up=ς (kv n k up)/\(∀e:cU,e.cq=k->eqB e.bb 12=up->qc n e=ς (kv n k up))/\NP B (kv n k up).2:=by
 have hp:=lG h.core
 have hls:=h.ls
 have hq:=aaF h.core k up
 have hok:∀s∈n.an,d7 s:=λs hs=>by
  obtain⟨i,hi⟩:=aej hs
  have hlt:=(abb.1 hi).1
  obtain⟨d,s',a,e1,e2,e3,hm⟩:=h.at_ (show i<n.aj.length by omega)
  rw[hi] at e2;cases e2;exact hm.sg.sp.ok
 have hl4:=h.ld
 have r1:=G7 (L:=sF n (mU n.fg k up)) (p:=n.fg) (q:=mU n.fg k up) n.an.length (λi l hl=>⟨λhi hl3=>by
  obtain⟨s,hs⟩:∃s,l[i]?=ς s:=⟨_,aa9 oaa⟩
  simp only[sF,hl,cy hi,sel_s h.core,sel_s hq.1,bB,hs,fail_s (hl3 s (abl hs)),afZ,WRs (k:=i),au]
  grind,λhi=>by
  simp only[sF,hl,ltB_f.2 (show(n.an.length:Int)<=(i:Int) by omega),cond_false]⟩) n.an.length 0 FU n.an oaa rfl hok (by have:=gH;omega)
 have r2:=G7 (L:=mf n (mU n.fg k up)) (p:=n.fg) (q:=mU n.fg k up) n.an.length (λi l hl=>⟨λhi hl3=>by
  obtain⟨s,hs⟩:∃s,l[i]?=ς s:=⟨_,aa9 oaa⟩
  simp only[mf,cy hi,sel_i h.core,sel_i hq.1,bB,hs,fail_i (hl3 s (abl hs)),afZ,WRs (k:=i),au]
  grind,λhi=>by
  simp only[mf,ltB_f.2 (show(n.an.length:Int)<=(i:Int) by omega),cond_false]⟩) n.an.length 0 FU n.an oaa rfl hok (by have:=gH;omega)
 rw[show((0:Nat):Int)=0 from rfl] at r1 r2
 refine⟨?_,λe he hu=>?_,?_⟩
 .simp only[zi,adO,fQ,T8,r1,afY,bN (n:=n.fg.fU-1) oaa,kv]
  grind
 .simp only[qc,he,hu,adN,gE,T7,r2,afY,bN (n:=n.fg.fU-1) oaa,kv]
  grind
 simp only[kv]
 cases hb:!inR k 0 (n.fg.fU-1)||(booB (yd n.fg k) up||eqB (mU n.fg k up).fZ 0)
 .simp only[adi] at hb
  refine {h with core:=hq.1,up:=Jc hb.2.2,ls:=by simp only[cond_false];rw[JU];exact hls,m:=λi d s a hd hs ha=>?_}
  simp only[cond_false] at hd hs ha ⊢
  rcases o8 n.fg (mU n.fg k up) n.an.length 0 n.an i with e|⟨t,e1,e2⟩
  .rw[e] at hs;exact h.m i d s a hd hs ha
  rw[e2] at hs;cases hs
  have hm:=h.m i d t a hd e1 ha
  exact⟨hm.dp,hm.dc,aaj hm.sg,hm.sc,hm.si,hm.ids⟩
 exact h
end Go.AM
