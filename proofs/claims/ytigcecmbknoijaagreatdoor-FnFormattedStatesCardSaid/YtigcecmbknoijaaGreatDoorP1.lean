/- A part. -/
import Derived.Test.YtigcecmbknoijaaGreatDoorL
set_option linter.unusedVariables false
set_option linter.unusedSimpArgs false
set_option maxHeartbeats 4000000
open Option renaming some->ς,none->ξ
open Bool renaming true->ζ,false->η
open True renaming intro->θ
open Option renaming bind_some->ZY,bind->ZW,map_some->aag
open Bool renaming and_eq_true->hV,or_eq_false_iff->Yt,eq_iff_iff->Z1,not_eq_false'->Z3,true_and->Z6,and_true->Zz,not_eq_true'->YD,or_self->aac,false_or->Zy
open List renaming getElem?_eq_some_iff->Yg,getElem?_eq_getElem->Yf,mem_of_getElem?->Yh,getElem?_of_mem->Yr,mem_append->Yi,nil_append->Y8,mem_map->Y7,range->v0,pairwise_cons->Z2,length_cons->Yk,all_eq_true->Ym,pairwise_append->Z9,mem_cons->Yl,takeWhile_cons->aab,takeWhile_append_dropWhile->aai,getElem_mem->Z4,getElem?_mapIdx->aad,mem_singleton->Y9,take_add_one->Z7,cons_append->Yz,dropWhile_subset->aaj,foldl_cons->aaa,replicate->Ys,mem_range->Z8,ext_getElem?->aaf,getElem?_set->ZB,drop_eq_getElem_cons->YW,rel_of_pairwise_cons->aao,getElem?_append_left->Yx,any_eq_true->YJ,take_of_length_le->aam,takeWhile_subset->aap,dropWhile_cons->aaq,length_pos_iff->aan,length_append->YF,getElem?_map->YQ,length->aah,drop_length->aar,length_take->Zh,length_nil->Z0,map_cons->Yu
open Int renaming toNat_natCast->ZZ,tmod_eq_emod_of_nonneg->Z5,tmod->ZX,emod_lt_of_pos->aak,emod_nonneg->aal,le_refl->aat
open Nat renaming add_sub_cancel->aae,zero_le->Yy,mul_le_mul->aas,le_trans->Zd
namespace Go.AM
variable{σ τ ρ α β:Type}{n:Go.AM.ae}{k i l:Nat}{p:Go.AM.bY}{a:Go.AM.an}{b B:Int}{e:Go.AM.dF}{r:Go.AM.aX}{w:Go.AM.be}{s:Go.AM.ah}{x:Go.AM.ab}{m:Go.AM.bi}{f:Go.AM.bJ}{t:List Go.AM.aG}{q:Go.AM.dy}
theorem jU:9223372036854775808<=FU:=by unfold FU;omega
def zy60{α σ ρ:Type}(body:σ->α->Option (cH σ ρ))(fin:σ->Option ρ):List α->σ->Option ρ
 |[],s=>fin s
 |x::xs,s=>match body s x with
  |some (.next s')=>zy60 body fin xs s'
  |some (.done r)=>ς r
  |none=>ξ
def zG(f:σ->τ):Option (cH σ ρ)->Option (cH τ ρ)
 |some (.next s)=>ς (.next (f s))
 |some (.done r)=>ς (.done r)
 |none=>ξ
@[simp] theorem stepM_next (f:σ->τ) (s:σ):zG (ρ:=ρ) f (ς (.next s))=ς (.next (f s)):=rfl
@[simp] theorem stepM_done (f:σ->τ) (r:ρ):zG f (ς (.done r))=ς (.done r):=rfl
@[simp] theorem stepM_none (f:σ->τ):zG (ρ:=ρ) f ξ=none:=rfl
@[simp] theorem stepM_cond (f:σ->τ) (b:Bool) (x y:Option (cH σ ρ)):zG f (bif b then x else y)=bif b then zG f x else zG f y:=by cases b<;>rfl
@[simp] theorem stepM_bind (f:σ->τ) (o:Option α) (k:α->Option (cH σ ρ)):zG f (ZW o k)=ZW o (λa=>zG f (k a)):=by cases o<;>rfl
@[simp] theorem dn_some (r:ρ):dn (σ:=σ) (ς r)=ς (.done r):=rfl
@[simp] theorem dn_none {ρ:Type}:dn (σ:=σ) (ρ:=ρ) ξ=none:=rfl
theorem zy61{step:τ->Option (cH τ ρ)}(xs:List α)(mk:Nat->σ->τ)(body:σ->α->Option (cH σ ρ))(fin:σ->Option ρ)(hl:xs.length<=9223372036854775806)(hs:∀(k:Nat) (x:α) (s:σ),xs[k]?=ς x->k<xs.length->step (mk k s)=zG (mk (k+1)) (body s x))(he:∀s,step (mk xs.length s)=dn (fin s))(s0:σ):iter step FU (mk 0 s0)=zy60 body fin xs s0:=by
 have key:∀(m n:Nat) (s:σ) (k:Nat),m=xs.length-k->k<=xs.length->m<n->iter step n (mk k s)=zy60 body fin (xs.drop k) s:=by
  intro m
  induction m with
  |zero=>
   intro n s k hm hk hn
   cases n with
   |zero=>omega
   |succ n=>
    have:k=xs.length:=by omega
    subst this
    rw[aar,zy60,iter,he]
    cases fin s<;>rfl
  |succ m ih=>
   intro n s k hm hk hn
   cases n with
   |zero=>omega
   |succ n=>
    have hlt:k<xs.length:=by omega
    rw[YW hlt,zy60,iter,hs k xs[k] s (Yf hlt) hlt]
    cases hb:body s xs[k] with
    |none=>rfl
    |some o=>
     cases o with
     |done r=>rfl
     |next s'=>exact ih n s' (k+1) oaa oaa oaa
 have:=key (xs.length-0) FU s0 0 rfl (Yy _) (by have:=jU;omega)
 simp_all
theorem zy62(xs:List α)(k:Nat):ix xs (k:Int)=xs[k]?:=by simp[ix,leB]
theorem bM{n:Int}(h: -9223372036854775808<=n/\n<=9223372036854775807):WR n=n:=GJ h
theorem zy63(h:k<9223372036854775807):WR ((k:Int)+1)=((k+1:Nat):Int):=by rw[bM oaa];omega
theorem WRs(h:k<9223372036854775807:=by omega):WR ((k:Int)+1)=((k+1:Nat):Int):=zy63 h
theorem zy64{p:Prop}(h:p:=by first|rfl|trivial):p:=h
theorem zy65{a b:Nat}(h:a<b):ltB (a:Int) (b:Int)=true:=by simp[ltB,h]
theorem bE(a:Int):ltB a a=false:=by simp[ltB]
theorem bz(a:Int):eqB a a=true:=by simp[eqB]
theorem zy66{step:Int×List β->Option (cH (Int×List β) (List β))}(f:α->β)(z:β)(xs:List α)(hl:xs.length<=9223372036854775806)(hs:∀(k:Nat) (x:α) (v:List β),xs[k]?=ς x->v.length=xs.length->step ((k:Int),v)=ς (.next (((k+1:Nat):Int),v.set k (f x))))(he:∀v,step ((xs.length:Nat),v)=ς (.done v)):iter step FU (0,Ys xs.length z)=ς (xs.map f):=by
 have key:∀(m n:Nat) (k:Nat),m=xs.length-k->k<=xs.length->m<n->iter step n ((k:Int),(xs.take k).map f++Ys (xs.length-k) z)=ς (xs.map f):=by
  intro m
  induction m with
  |zero=>
   intro n k hm hk hn
   cases n with
   |zero=>omega
   |succ n=>
    have:k=xs.length:=by omega
    subst this
    rw[iter,he]
    simp
  |succ m ih=>
   intro n k hm hk hn
   cases n with
   |zero=>omega
   |succ n=>
    have hlt:k<xs.length:=by omega
    rw[iter,hs k xs[k] _ (Yf hlt) (by simp;omega)]
    have e:((xs.take k).map f++Ys (xs.length-k) z).set k (f xs[k])=(xs.take (k+1)).map f++Ys (xs.length-(k+1)) z:=by
     apply aaf
     intro j
     rw[ZB]
     by_cases hj:k=j
     .grind
     grind
    grind
 have:=key (xs.length-0) FU 0 rfl (Yy _) (by have:=jU;omega)
 simp_all
attribute [local simp] bE bz zy62
def okL(ok:α->Prop)(xs:List α):Prop:=xs.length<=1048576/\∀x∈xs,ok x
def preL(pre:α->Prop)(xs:List α):Prop:=xs.length<=9223372036854775807/\∀x∈xs,pre x
theorem Cb{α ρ:Type}{body:Unit->α->Option (cH Unit ρ)}{fin:Unit->Option ρ}:∀(xs:List α),(∀x∈xs,body () x=ς (.next ()))->zy60 body fin xs ()=fin ()
 |[],_=>rfl
 |x::xs,h=>by rw[zy60,h x (by simp)];exact Cb xs (λy hy=>h y (by simp[hy]))
def zy67(by_:Nat)(p:α->Bool)(f:α->β)(acc:List β)(x:α):Option (cH (List β) (List β)):=
 bif p x then(bif cN by_ (acc++[f x]).length then ς (.next (acc++[f x])) else ξ) else ς (.next acc)
theorem zy68{α β:Type}{by_:Nat}(hb:by_<=100000)(p:α->Bool)(f:α->β):∀(xs:List α) (acc:List β),acc.length+xs.length<=1048576->zy60 (zy67 by_ p f) ς xs acc=ς (acc++(xs.filter p).map f)
 |[],acc,h=>by simp[zy60]
 |x::xs,acc,h=>by
  simp only[Yk] at h
  rw[zy60]
  cases hp:p x with
  |false=>
   rw[List.filter_cons_of_neg (by simp[hp])]
   simpa [zy67,hp] using zy68 hb p f xs acc oaa
  |true=>
   have ha:cN by_ (acc++[f x]).length=true:=by
    have h1:(acc++[f x]).length*by_<=1048577*100000:=aas (by simp;omega) hb
    simp only[cN,decide_eq_true_eq]
    refine⟨by omega,by simp;omega⟩
   rw[List.filter_cons_of_pos (by simp[hp])]
   simp only[zy67,hp,ha,cond_true]
   rw[zy68 hb p f xs (acc++[f x]) (by simp;omega)]
   simp
theorem cE{by_ n:Nat}(hb:by_<=100000)(hn:n<=1048577):cN by_ n=true:=by
 have h1:n*by_<=1048577*100000:=aas hn hb
 simp only[cN,decide_eq_true_eq]
 omega
def zy69(n:Int):Prop:=0<=n/\n<=255
theorem V7{n:Int}(h:(Lit.int .u8 n).wf=ζ):zy69 n:=by
 simp[Lit.wf,IntKind.min,IntKind.max,IntKind.signed,IntKind.bits] at h
 exact⟨by omega,by omega⟩
theorem zy70{L:Int->Option (cH Int Int)}(xs:List α)(p:α->Bool)(hl:xs.length<=9223372036854775806)(hs:∀(k:Nat) (x:α),xs[k]?=ς x->k<xs.length->L (k:Int)=bif p x then ς (.done (k:Int)) else ς (.next ((k+1:Nat):Int)))(he:L (xs.length:Int)=ς (.done (-1))):
 iter L FU 0=ς (nT p 0 xs):=by
 have key:∀(m n:Nat) (k:Nat),m=xs.length-k->k<=xs.length->m<n->iter L n (k:Int)=ς (nT p k (xs.drop k)):=by
  intro m
  induction m with
  |zero=>
   intro n k hm hk hn
   cases n with
   |zero=>omega
   |succ n=>
    have:k=xs.length:=by omega
    subst this
    rw[iter,he,aar,nT]
  |succ m ih=>
   intro n k hm hk hn
   cases n with
   |zero=>omega
   |succ n=>
    have hlt:k<xs.length:=by omega
    rw[iter,hs k xs[k] (Yf hlt) hlt,Qk hlt]
    cases p xs[k] with
    |true=>rfl
    |false=>grind
 have:=key (xs.length-0) FU 0 rfl (Yy _) (by have:=jU;omega)
 simp_all
theorem zy71{α:Type}(p:α->Bool):∀(xs:List α) (i:Nat),nT p (i:Int) xs= -1/\(∀x∈xs,p x=η)\/∃j:Nat,nT p (i:Int) xs=((i+j:Nat):Int)/\∃x,xs[j]?=ς x/\p x=ζ/\∀y∈xs.take j,p y=η
 |[],i=>.inl ⟨rfl,by simp⟩
 |x::xs,i=>by
  rw[nT]
  cases hp:p x with
  |true=>exact .inr ⟨0,by simp,x,rfl,hp,by simp⟩
  |false=>
   rcases zy71 p xs (i+1) with⟨h1,h2⟩|⟨j,h1,y,h2,h3,h4⟩
   .simp_all
   refine .inr ⟨j+1,?_,y,by simp_all,h3,by simp_all⟩
   grind
theorem zy72{L:Int->Option (cH Int Bool)}(xs:List α)(p:α->Bool)(hl:xs.length<=9223372036854775806)(hs:∀(k:Nat) (x:α),xs[k]?=ς x->k<xs.length->L (k:Int)=bif p x then ς (.done ζ) else ς (.next ((k+1:Nat):Int)))(he:L (xs.length:Int)=ς (.done η)):
 iter L FU 0=ς (xs.any p):=by
 have:=zy61 (step:=L) xs (λk (_:Unit)=>(k:Int)) (λ_ x=>bif p x then ς (.done ζ) else ς (.next ())) (λ_=>ς η) hl
  (λk x s hx hk=>by simp_all) (λs=>by rw[he];rfl) ()
 refine Eq.trans (show iter L FU 0=_ from this) ?_
 have key:∀xs:List α,zy60 (λ(_:Unit) x=>bif p x then ς (cH.done ζ) else ς (.next ())) (λ_=>ς η) xs ()=ς (xs.any p):=by
  intro xs
  induction xs with
  |nil=>rfl
  |cons x xs ih=>rw[zy60];grind
 exact key xs
theorem allK{L:Int->Option (cH Int Bool)}(xs:List α)(p:Nat->α->Bool)(c:Option Bool)(hl:xs.length<=9223372036854775806)(hs:∀(k:Nat) (x:α),xs[k]?=ς x->k<xs.length->L (k:Int)=bif p k x then ς (.next ((k+1:Nat):Int)) else ς (.done η))(he:L (xs.length:Int)=dn c):
 iter L FU 0=bif xs.zipIdx.all (λy=>p y.2 y.1) then c else ς false:=by
 have:=zy61 (step:=L) xs.zipIdx (λk (_:Unit)=>(k:Int)) (λ_ y=>bif p y.2 y.1 then ς (.next ()) else ς (.done η)) (λ_=>c) (by simp_all)
  (λk y s hy hk=>by
   have hk':k<xs.length:=by simpa using hk
   have:y=(xs[k],k):=by rw[Yf hk] at hy;simpa using hy.symm
   simp_all) (λs=>by simp_all) ()
 refine Eq.trans (show iter L FU 0=_ from this) ?_
 have key:∀ys:List (α×Nat),zy60 (λ(_:Unit) y=>bif p y.2 y.1 then ς (.next ()) else ς (cH.done η)) (λ_=>c) ys ()=bif ys.all (λy=>p y.2 y.1) then c else ς false:=by
  intro ys
  induction ys with
  |nil=>rfl
  |cons x xs ih=>rw[zy60];grind
 exact key _
def inR(n a b:Int):Bool:=leB a n&&leB n b
theorem zy73{n a:Int}:inR n a b=ζ↔a<=n/\n<=b:=by simp[inR,leB]
theorem zy74{n:Nat}(h:n<=1048576):WR ((n:Int)-1)=(n:Int)-1:=bM oaa
theorem ix_in{xs:List α}{i:Int}(h0:0<=i)(h1:i<xs.length):∃x,x∈xs/\ix xs i=ς x:=by
 obtain⟨k,rfl⟩:=Int.eq_ofNat_of_zero_le h0
 have hk:k<xs.length:=by omega
 exact⟨xs[k],Z4 hk,by rw[zy62,Yf hk]⟩
theorem zy75(b:Bool):booB b b=true:=by simp
def rgI(k:IntKind)(n:Int):Prop:=(Lit.int k n).wf=ζ
theorem WT.rg{k:IntKind}{n:Int}(h:WT (.i k) (.i k n)):rgI k n:=by
 cases h with|i h=>exact h
theorem K2{α:Type}{e:List Sh}{f:α->List D}:∀{xs:List α},WTL e (xs.map f)->∀x∈xs,WTs e (f x)
 |[],_,x,hx=>by cases hx
 |y::ys,h,x,hx=>by
  cases h with
  |cons h1 h2=>
   rcases Yl.1 hx with rfl|hx
   .exact h1
   exact K2 h2 x hx
theorem WT.rl{e:List Sh}{f:α->List D}{xs:List α}(h:WT (.l e) (.l (xs.map f))):∀x∈xs,WTs e (f x):=by
 cases h with|l hl h=>exact K2 h
theorem zy76{n:Int}(h:rgI .i64 n): -9223372036854775808<=n/\n<=9223372036854775807:=X5 h
def Wp(m:Option α)(Q:α->Prop):Prop:=match m with
 |some a=>Q a
 |none=>False
theorem Wp.ex{m:Option α}{Q:α->Prop}(h:Wp m Q):∃a,m=ς a/\Q a:=by
 cases m with
 |none=>exact h.elim
 |some a=>exact⟨a,rfl,h⟩
theorem Wp.of{m:Option α}{Q:α->Prop}{a:α}(h:m=ς a)(q:Q a):Wp m Q:=by subst h;exact q
theorem Wp.some{α:Type}{a:α}{Q:α->Prop}(h:Q a):Wp (ς a) Q:=h
theorem Wp.bind{m:Option α}{k:α->Option β}{Q:β->Prop}(h:Wp m (λa=>Wp (k a) Q)):Wp (ZW m k) Q:=by
 cases m with
 |none=>exact h.elim
 |some a=>exact h
theorem Wp.mono{m:Option α}{P Q:α->Prop}(h:Wp m P)(k:∀a,P a->Q a):Wp m Q:=by
 cases m with
 |none=>exact h.elim
 |some a=>exact k a h
theorem Wp.call{m:Option α}{k:α->Option β}{P:α->Prop}{Q:β->Prop}(h:Wp m P)(hk:∀a,P a->Wp (k a) Q):Wp (ZW m k) Q:=Wp.bind (h.mono hk)
theorem Wp.eq{m:Option α}{k:α->Option β}{a:α}{Q:β->Prop}(h:m= .some a)(hk:Wp (k a) Q):Wp (ZW m k) Q:=by subst h;exact hk
theorem Wp.cond{b:Bool}{x y:Option α}{Q:α->Prop}(h1:b=ζ->Wp x Q)(h0:b=η->Wp y Q):Wp (bif b then x else y) Q:=by
 cases b
 .exact h0 rfl
 exact h1 rfl
theorem Wp.ok{b:Bool}{x:Option α}{Q:α->Prop}(hb:b=ζ)(h:Wp x Q):Wp (bif b then x else ξ) Q:=by subst hb;exact h
theorem Wp.iter{step:σ->Option (cH σ ρ)}{Q:ρ->Prop}(I:σ->Prop)(μ:σ->Nat)(h:∀x,I x->Wp (step x) (λs=>match s with| .next x'=>I x'/\μ x'<μ x| .done r=>Q r)):
 ∀(n:Nat) (x:σ),I x->μ x<n->Wp (AM.iter step n x) Q
 |0,_,_,h=>by omega
 |n+1,x,hI,hn=>by
  obtain⟨s,e,hs⟩:=(h x hI).ex
  rw[AM.iter,e]
  cases s with
  |next x'=>exact Wp.iter I μ h n x' hs.1 (by have:=hs.2;omega)
  |done r=>exact hs
theorem Wp.iterF{step:σ->Option (cH σ ρ)}{Q:ρ->Prop}(I:σ->Prop)(μ:σ->Nat){x:σ}(hI:I x)(hn:μ x<=1000000000000)(h:∀x,I x->Wp (step x) (λs=>match s with| .next x'=>I x'/\μ x'<μ x| .done r=>Q r)):Wp (AM.iter step FU x) Q:=
 Wp.iter I μ h FU x hI (by have:=jU;omega)
theorem Wp.dn{m:Option ρ}{Q:cH σ ρ->Prop}(h:Wp m (λr=>Q (.done r))):Wp (AM.dn m) Q:=by
 cases m with
 |none=>exact h.elim
 |some r=>exact h
theorem Wp.ix{xs:List α}{i:Int}{k:α->Option β}{Q:β->Prop}(h0:0<=i)(h1:i<xs.length)(hk:∀x,x∈xs->xs[i.toNat]?= .some x->Wp (k x) Q):Wp (ZW (AM.ix xs i) k) Q:=by
 have hl:i.toNat<xs.length:=by omega
 have hx:xs[i.toNat]?= .some xs[i.toNat]:=Yf hl
 refine Wp.eq (a:=xs[i.toNat]) ?_ (hk _ (Z4 hl) hx)
 unfold AM.ix
 rw[show leB 0 i=ζ from by simp[leB,h0]]
 exact hx
theorem zy77{a:Int}(h:ltB a b=ζ):a<b:=ltB_t.1 h
theorem zy78{a:Int}(h:ltB a b=η):b<=a:=ltB_f.1 h
theorem vi{a:Int}(h:leB a b=ζ):a<=b:=leB_t.1 h
theorem zy79{a:Int}(h:leB a b=η):b<a:=leB_f.1 h
theorem zy80{a:Int}(h:eqB a b=ζ):a=b:=eqB_t.1 h
theorem zy81{a:Int}(h:eqB a b=η):a≠b:=eqB_f.1 h
theorem dS{b n:Nat}(h:n*b<=140737488355328)(h':n<=9223372036854775807):cN b n=true:=by simp[cN,h,h']
def Gl(a:d6):Prop:=okL (λ_=>True) a.di
def zy82(a:bi):Prop:=okL Gl a.bI
def zy83(a:ab):Prop:=okL (λ_=>True) a.bm
def zy84(a:b8):Prop:=okL (λ_=>True) a.bm
def zy85(a:aX):Prop:=okL zy83 a.aA/\okL zy84 a.a8
def zy86(a:ax):Prop:=zy85 a.bL
def zy87(a:bY):Prop:=okL (λ_=>True) a.bX
def iL(a:be):Prop:=okL zy83 a.aM
def zy88(a:ah):Prop:=zy87 a.jj/\okL zy84 a.aU/\iL a.aK
def zy89(a:an):Prop:=okL (λ_=>True) a.aC
def zy90(a:bC):Prop:=okL (λ_=>True) a.bm
def qm(a:aF):Prop:=zy90 a.bH
def zy91(a:bJ):Prop:=qm a.cA
def zy92(a:ae):Prop:=zy82 a.d5/\okL zy86 a.av/\okL zy88 a.aD/\okL zy89 a.bD/\okL zy91 a.aV
open Go.Proofs
def zy93(p:Nat->α->Bool)(xs:List α):Bool:=xs.zipIdx.all (λy=>p y.2 y.1)
theorem zy94{p:Nat->α->Bool}{xs:List α}:zy93 p xs=ζ↔∀(k:Nat) (x:α),xs[k]?=ς x->p k x=true:=by
 unfold zy93
 rw[Ym]
 constructor
 .intro h k x hx
  exact h (x,k) (by grind)
 grind
theorem zy95{p:α->Bool}{xs:List α}:zy93 (λ_ x=>p x) xs=xs.all p:=by
 rw[Z1,zy94,Ym]
 constructor
 .intro h x hx
  obtain⟨k,hk,rfl⟩:=List.getElem_of_mem hx
  exact h k _ (Yf hk)
 grind
theorem zy96{L:Int->Option (cH Int Bool)}(xs:List α)(p:Nat->α->Bool)(c:Option Bool)(hl:xs.length<=9223372036854775806)(hs:∀(k:Nat) (x:α),xs[k]?=ς x->k<xs.length->L (k:Int)=bif p k x then ς (.next ((k+1:Nat):Int)) else ς (.done η))(he:L (xs.length:Int)=dn c):
 iter L FU 0=bif zy93 p xs then c else ς false:=allK xs p c hl hs he
theorem Bd{xs:List α}(hk:k<xs.length)(h0:0<k)(hl:xs.length<=9223372036854775806):∃y,xs[k-1]?=ς y/\ix xs (WR ((k:Int)-1))=ς y:=by
 have h1:k-1<xs.length:=by omega
 refine⟨xs[k-1],Yf h1,?_⟩
 rw[bM oaa,show((k:Int)-1)=((k-1:Nat):Int) from by omega,zy62,Yf h1]
def nZ(key:α->Int)(xs:List α)(k:Nat)(x:α):Bool:=match k with
 |0=>ζ
 |j+1=>match xs[j]? with
  |some y=>!leB (key x) (key y)
  |none=>η
theorem inr_i(a b c:Int):uT a b c=ς (inR a b c):=by
 unfold uT inR
 grind
theorem zy97(a b c:Int):cU a b c=ς (inR a b c):=by
 unfold cU inR
 grind
def zy98(k:Int):Bool:=inR k 1 2147483646
theorem Ie(k:Int):gI k=ς (zy98 k):=by simp only[gI,zy97,ZY,zy98]
def GY(x:cG):Bool:=inR x.dE 0 3&&inR x.bZ 0 99
theorem zy99(x:cG):f9 x=ς (GY x):=by
 simp only[f9,zy97,ZY,GY];grind
def xH(x:lj):Bool:=GY x.ID&&(zy98 x.gS&&inR x.dq 0 999999)
theorem zy100(x:lj):mT x=ς (xH x):=by
 simp only[mT,zy99,Ie,zy97,ZY,xH];grind
def zy101(x:aP):Bool:=GY x.ID&&(zy98 x.gS&&inR x.c9 0 999999)
theorem Rx(x:aP):ey x=ς (zy101 x):=by
 simp only[ey,zy99,Ie,zy97,ZY,zy101];grind
def zy102(x:dr):Bool:=inR x.g9 0 2&&(inR x.fR 0 4&&inR x.hP 0 3)
theorem zy103(x:dr):mS x=ς (zy102 x):=by
 simp only[mS,zy97,ZY,zy102];grind
def zy104(x:bQ):Bool:=inR x.ia 1 6&&inR x.fZ 0 (WR ((my .i64 1 x.ia)-1))
theorem Kf(x:bQ):kQ x=ς (zy104 x):=by
 simp only[kQ,zy97,ZY,zy104]
 cases h:inR x.ia 1 6 with
 |false=>rfl
 |true=>rw[show leB 0 x.ia=ζ from by rw[zy73] at h;simp[leB];omega];rfl
def zy105(x:dy):Bool:=leB 0 x.aH&&(leB 0 x.fK&&(leB x.fK x.cV&&leB x.cV 100000))
theorem y4(x:dy):gJ x=ς (zy105 x):=by
 have:zy105 x=(leB 0 x.aH&&(inR x.cV 0 100000&&inR x.fK 0 x.cV)):=by
  rw[Z1];simp[zy105,inR,leB];omega
 rw[this]
 simp only[gJ,zy97,ZY];grind
def zy106(n:Nat):Bool:=!ltB 60 (n:Int)
def zJ(xs:List b8):Bool:=xs.all λx=>zy106 x.bm.length
def Ex(r:aX)(k:Nat)(x:ab):Bool:=inR x.c9 (WR (r.bF+1)) (WR (WR (r.bF+8)-1))&&(nZ ab.c9 r.aA k x&&zy106 x.bm.length)
def zy107(r:aX):Bool:=eqB r.bF (WR ((r.a8.length:Int)+1))&&(leB (r.a8.length:Int) 24&&(zJ r.a8&&(leB (r.aA.length:Int) 8&&zy93 (Ex r) r.aA)))
theorem zy108(a b:Int):ltB a b=!leB b a:=by rw[Z1];simp_all
theorem zy109(h1:r.a8.length<=1048576)(h2:r.aA.length<=1048576):gR r=ς (zy107 r):=by
 have hF:iter (gv r) FU 0=bif zy93 (λ_ x=>zy106 x.bm.length) r.a8 then ς (eqB r.bF (WR ((r.a8.length:Int)+1))&&(leB (r.a8.length:Int) 24&&leB (r.aA.length:Int) 8)) else ς false:=by
  refine zy96 r.a8 (λ_ x=>zy106 x.bm.length) _ oaa (λk x hx hk=>?_) ?_
  .simp only[gv,zy65 hk,zy62,hx,WRs (k:=k),zy106,au]
   simp_all
  simp only[gv,bE,cond_false]
  grind
 have hL:iter (iQ r) FU 0=bif zy93 (Ex r) r.aA then iter (gv r) FU 0 else ς false:=by
  refine zy96 r.aA (Ex r) _ oaa (λk x hx hk=>?_) (by simp[iQ])
  simp only[iQ,zy65 hk,zy62,hx,WRs (k:=k),zy97,Ex,zy106,au]
  cases k with
  |zero=>
   simp only[nZ,show ltB 0 ((0:Nat):Int)=η from by simp[ltB]]
   cases ltB 60 (x.bm.length:Int)<;>cases inR x.c9 (WR (r.bF+1)) (WR (WR (r.bF+8)-1))<;>rfl
  |succ k=>
   obtain⟨y,hy,hi⟩:=Bd hk oaa oaa
   simp only[aae] at hy
   simp only[nZ,hy,hi,show ltB 0 ((k+1:Nat):Int)=ζ from by simp[ltB],ZY]
   cases ltB 60 (x.bm.length:Int)<;>cases inR x.c9 (WR (r.bF+1)) (WR (WR (r.bF+8)-1))<;>cases leB x.c9 y.c9<;>rfl
 rw[zy95] at hF
 simp only[gR,hL,hF,zy107,zJ]
 grind
def nQ(d:ax):Bool:=xH d.dZ&&(inR d.bB 0 3&&(inR d.bg 0 5&&(inR d.ag 0 999999&&(inR d.aZ 0 999999&&(inR d.bj 0 2147483646&&((!inR d.bB 2 3||zy98 d.bj)&&(inR d.hP 0 3&&zy107 d.bL)))))))
theorem zy110{d:ax}(h1:d.bL.a8.length<=1048576)(h2:d.bL.aA.length<=1048576):mP d=ς (nQ d):=by
 simp only[mP,zy100,zy97,Ie,zy109 h1 h2,ZY,nQ]
 grind
theorem z1{α:Type}{step:Int×Int->Option (cH (Int×Int) Int)}(xs:List α)(f:Int->α->Int)(hl:xs.length<=9223372036854775806)(hs:∀(k:Nat) (x:α) (a:Int),xs[k]?=ς x->k<xs.length->step (a,(k:Int))=ς (.next (f a x,((k+1:Nat):Int))))(he:∀a,step (a,(xs.length:Int))=ς (.done a))(a0:Int):
 iter step FU (a0,0)=ς (xs.foldl f a0):=by
 have:=zy61 (step:=step) xs (λk (v:Int)=>(v,(k:Int))) (λv x=>ς (.next (f v x))) ς hl
  (λk x s hx hk=>by simp_all) (λs=>by rw[he];rfl) a0
 refine Eq.trans (show iter step FU (a0,0)=_ from this) ?_
 clear this he hs
 induction xs generalizing a0 with
 |nil=>rfl
 |cons x xs ih=>rw[zy60,aaa];grind
def zy111(xs:List ab):Int:=xs.foldl (λa x=>WR (a+(x.bm.length:Int))) 0
theorem zy112{xs:List ab}(h:xs.length<=1048576):mq xs=ς (zy111 xs):=by
 unfold mq
 rw[z1 xs (λa x=>WR (a+(x.bm.length:Int))) oaa (λk x a hx hk=>by
  simp only[t7,zy65 hk,zy62,hx,WRs (k:=k),au]) (λa=>by simp[t7])]
 rfl
def Kn(q:dy):Int:=bif zy105 q then WR (q.cV-q.fK) else 0
theorem zy113(q:dy):ik q=ς (Kn q):=by simp only[ik,y4,ZY,Kn];grind
def Gq(p:bY):Bool:=inR p.me 1 1000&&(inR p.mc 1 4&&inR p.fF 1 100000)
def qQ(p:bY):Bool:=Gq p&&zy93 (λk x=>inR x 0 3&&nZ id p.bX k x) p.bX
theorem zy114(h:zy87 p):ga p=ς (qQ p):=by
 have hl:=h.1
 have hL:iter (gk p) FU 0=bif zy93 (λk x=>inR x 0 3&&nZ id p.bX k x) p.bX then ς (Gq p) else ς false:=by
  refine zy96 p.bX _ _ oaa (λk x hx hk=>?_) ?_
  .simp only[gk,zy65 hk,zy62,hx,WRs (k:=k),zy97,au]
   cases k with
   |zero=>
    simp only[nZ,show ltB 0 ((0:Nat):Int)=η from by simp[ltB]]
    cases inR x 0 3<;>rfl
   |succ k=>
    obtain⟨y,hy,hi⟩:=Bd hk oaa oaa
    simp only[aae] at hy
    simp only[nZ,hy,hi,hx,zy62,show ltB 0 ((k+1:Nat):Int)=ζ from by simp[ltB],ZY,id]
    cases inR x 0 3<;>cases leB x y<;>rfl
  simp only[gk,bE,zy97,Gq,au]
  grind
 simp only[ga,hL,qQ]
 grind
def unB(w:be)(k:Nat)(x:ab):Bool:=eqB x.c9 (WR (WR (w.bF-(w.aM.length:Int))+(k:Int)))&&zy106 x.bm.length
def zy115(w:be):Bool:=inR w.bF 1 100000&&(leB (w.aM.length:Int) 8&&(leB 1 (WR (w.bF-(w.aM.length:Int)))&&zy93 (unB w) w.aM))
theorem zy116(h:iL w):kw w=ς (zy115 w):=by
 have hl:=h.1
 have hL:iter (kc w) FU 0=bif zy93 (unB w) w.aM then ς (inR w.bF 1 100000&&(leB (w.aM.length:Int) 8&&leB 1 (WR (w.bF-(w.aM.length:Int))))) else ς false:=by
  refine zy96 w.aM (unB w) _ oaa (λk x hx hk=>?_) ?_
  .simp only[kc,zy65 hk,zy62,hx,WRs (k:=k),unB,zy106,au]
   cases eqB x.c9 (WR (WR (w.bF-(w.aM.length:Int))+(k:Int)))<;>cases ltB 60 (x.bm.length:Int)<;>rfl
  simp only[kc,bE,zy97,au]
  grind
 simp only[kw,hL,zy115]
 grind
def zy117(a b:List Int):Bool:=strB (mz a) (mz b)
theorem eqb_s(a b:List Int):oF a b=ς (zy117 a b):=rfl
def DX(s:ah)(x:ab):Bool:=match s.aU[(x.c9-1).toNat]? with
 |some y=>zy117 x.bm y.bm
 |none=>η
def zy118(s:ah):Bool:=leB (s.aU.length:Int) 24&&(zJ s.aU&&(zy115 s.aK&&leB s.aK.bF (WR ((s.aU.length:Int)+1))))
def zy119(s:ah):Bool:=leB (zy111 s.aK.aM) (Kn s.ci)
def zy120(s:ah):Bool:=(!eqB s.bB 1||zy98 s.bj)&&(!ltB 0 s.bO||zy98 s.aA.gS)
def zy121(s:ah):Bool:=zy101 s.b7&&(qQ s.jj&&(zy102 s.jn&&(zy115 s.aK&&(zy105 s.ci&&(inR s.bB 0 1&&(zy120 s&&(inR s.bO 0 999999&&(inR s.ag 0 999999&&(inR s.aZ 0 999999&&(inR s.bj 0 2147483646&&
 (inR s.bg 0 5&&(inR s.eg 0 5&&(inR s.d9 0 3&&(leB (s.aU.length:Int) 24&&(zJ s.aU&&(leB s.aK.bF (WR ((s.aU.length:Int)+1))&&(s.aK.aM.all (DX s)&&zy119 s)))))))))))))))))
theorem un_ix(hs:zy118 s=ζ)(hx:s.aK.aM[k]?=ς x):∃y,ix s.aU (WR (x.c9-1))=ς y/\s.aU[(x.c9-1).toNat]?=ς y:=by
 simp only[zy118,zy115,hV,zy94,zy73] at hs
 obtain⟨h1,h2,⟨⟨h3,h3'⟩,h4,h5,h6⟩,h7⟩:=hs
 have hk:=(Yg.1 hx).1
 have h8:=h6 k x hx
 simp only[unB,hV] at h8
 have h4':(s.aK.aM.length:Int)<=8:=by simpa [leB] using h4
 have h1':(s.aU.length:Int)<=24:=by simpa [leB] using h1
 rw[bM oaa] at h5
 rw[bM oaa] at h7
 have h9:=h8.1
 rw[bM (n:=s.aK.bF-_) oaa,bM oaa] at h9
 have h9':x.c9=s.aK.bF-s.aK.aM.length+k:=by simpa [eqB] using h9
 have h5':1<=s.aK.bF-(s.aK.aM.length:Int):=by simpa [leB] using h5
 have h7':s.aK.bF<=(s.aU.length:Int)+1:=by simpa [leB] using h7
 have hlt:(x.c9-1).toNat<s.aU.length:=by omega
 refine⟨s.aU[(x.c9-1).toNat],?_,Yf hlt⟩
 have hm:x.c9-1=(((x.c9-1).toNat:Nat):Int):=by omega
 rw[bM oaa]
 simp_all
theorem zy122(h:zy88 s)(hs:zy118 s=ζ):iter (jQ s) FU 0=ς (s.aK.aM.all (DX s)&&zy119 s):=by
 have hl:=h.2.2.1
 have:=zy96 (L:=jQ s) s.aK.aM (λ_ x=>DX s x) (ς (zy119 s)) oaa (λk x hx hk=>by
  obtain⟨y,h1,h2⟩:=un_ix hs hx
  simp only[jQ,zy65 hk,zy62,hx,h1,eqb_s,WRs (k:=k),DX,h2,au]
  simp_all) (by simp[jQ,zy112 hl,zy113,zy119])
 rw[this,zy95]
 grind
theorem zy123(h:zy88 s):t9 s=ς (zy118 s&&(s.aK.aM.all (DX s)&&zy119 s)):=by
 have hl:=h.2.1.1
 have hL:=zy96 (L:=ox s) s.aU (λ_ x=>zy106 x.bm.length) (bif leB (s.aU.length:Int) 24&&(zy115 s.aK&&leB s.aK.bF (WR ((s.aU.length:Int)+1))) then iter (jQ s) FU 0 else ς η) oaa (λk x hx hk=>by
  simp only[ox,zy65 hk,zy62,hx,WRs (k:=k),zy106,au]
  simp_all) (by
  simp only[ox,bE,zy116 h.2.2,zy108,au]
  grind)
 rw[zy95] at hL
 unfold t9
 rw[hL]
 cases hs:zy118 s with
 |true=>
  rw[zy122 h hs]
  simp only[zy118,zJ,hV] at hs
  grind
 |false=>
  have:(leB (s.aU.length:Int) 24&&(zy115 s.aK&&leB s.aK.bF (WR ((s.aU.length:Int)+1))))=η\/(s.aU.all λx=>zy106 x.bm.length)=false:=by
   simp only[zy118,zJ] at hs
   revert hs
   cases leB (s.aU.length:Int) 24<;>cases zy115 s.aK<;>cases leB s.aK.bF (WR ((s.aU.length:Int)+1))<;>cases(s.aU.all λx=>zy106 x.bm.length)<;>simp
  grind
theorem st01(n:Int):inR n 0 1=(eqB n 0||eqB n 1):=by rw[Z1];simp[inR,leB,eqB];omega
theorem zy124(h:zy88 s):jG s=ς (zy121 s):=by
 have:zy121 s=(inR s.bB 0 1&&(zy120 s&&(zy101 s.b7&&(qQ s.jj&&(zy102 s.jn&&(zy105 s.ci&&((zy118 s&&(s.aK.aM.all (DX s)&&zy119 s))&&(inR s.bO 0 999999&&(inR s.ag 0 999999&&(inR s.aZ 0 999999&&(inR s.bj 0 2147483646&&(inR s.bg 0 5&&(inR s.eg 0 5&&inR s.d9 0 3))))))))))))):=by
  simp only[zy121,zy118];ac_rfl
 rw[this]
 simp only[jG,Rx,zy114 h.1,zy103,y4,Ie,zy97,zy123 h,ZY,zy120,st01]
 cases eqB s.bB 0<;>cases eqB s.bB 1<;>cases zy98 s.bj<;>cases ltB 0 s.bO<;>cases zy98 s.aA.gS<;>try rfl
 all_goals
  cases zy101 s.b7<;>cases qQ s.jj<;>cases zy102 s.jn<;>cases zy105 s.ci<;>cases(zy118 s&&(s.aK.aM.all (DX s)&&zy119 s))<;>try rfl
 all_goals
  cases inR s.bO 0 999999<;>cases inR s.ag 0 999999<;>cases inR s.aZ 0 999999<;>cases inR s.bj 0 2147483646<;>try rfl
 all_goals
  cases inR s.bg 0 5<;>cases inR s.eg 0 5<;>rfl
def GV(a:an):Int:=a.aC.foldl (λs x=>WR (s+x.dV)) 0
theorem XS(h:zy89 a):mI a=ς (GV a):=by
 have:=h.1
 unfold mI
 rw[z1 a.aC (λs x=>WR (s+x.dV)) oaa (λk x s hx hk=>by
  simp only[mJ,zy65 hk,zy62,hx,WRs (k:=k),au]) (λs=>by simp[mJ])]
 rfl
theorem zy125(h:zy89 a):kA a=ς (GV a):=by
 have:=h.1
 unfold kA
 rw[z1 a.aC (λs x=>WR (s+x.dV)) oaa (λk x s hx hk=>by
  simp only[m9,zy65 hk,zy62,hx,WRs (k:=k),au]) (λs=>by simp[m9])]
 rfl
def zy126(a:an)(k:Nat)(x:aG):Bool:=!ltB x.aH 0&&(inR x.dV 1 100000&&nZ aG.aH a.aC k x)
def Vn(a:an):Bool:=eqB (WR (WR (a.bN+a.fj)+GV a)) a.fL
def zy127(a:an):Bool:=inR a.fL 0 100000&&(inR a.bN 0 a.fL&&(inR a.fj 0 a.fL&&(leB (a.aC.length:Int) 8&&(zy93 (zy126 a) a.aC&&Vn a))))
theorem zy128(h:zy89 a):fJ a=ς (zy127 a):=by
 have hl:=h.1
 have hL:iter (ju a) FU 0=bif zy93 (zy126 a) a.aC then ς (inR a.fL 0 100000&&(inR a.bN 0 a.fL&&(inR a.fj 0 a.fL&&(leB (a.aC.length:Int) 8&&Vn a)))) else ς false:=by
  refine zy96 a.aC (zy126 a) _ oaa (λk x hx hk=>?_) ?_
  .simp only[ju,zy65 hk,zy62,hx,WRs (k:=k),zy97,zy126,au]
   cases k with
   |zero=>
    simp only[nZ,show ltB 0 ((0:Nat):Int)=η from by simp[ltB]]
    cases ltB x.aH 0<;>cases inR x.dV 1 100000<;>rfl
   |succ k=>
    obtain⟨y,hy,hi⟩:=Bd hk oaa oaa
    simp only[aae] at hy
    simp only[nZ,hy,hi,hx,zy62,show ltB 0 ((k+1:Nat):Int)=ζ from by simp[ltB],ZY]
    cases ltB x.aH 0<;>cases inR x.dV 1 100000<;>cases leB x.aH y.aH<;>rfl
  simp only[ju,bE,zy97,zy125 h,Vn,au]
  grind
 simp only[fJ,hL,zy127]
 grind
def zy129(a:an)(i:Int):Int:=match a.aC.find? (λx=>eqB x.aH i) with
 |some x=>x.dV
 |none=>0
theorem Uf(p:α->Bool)(xs:List α):(nT p 0 xs= -1/\xs.find? p=ξ)\/∃x,ltB (nT p 0 xs) 0=η/\ix xs (nT p 0 xs)=ς x/\xs.find? p=ς x:=by
 rcases zy71 p xs 0 with⟨h1,h2⟩|⟨j,h1,x,h2,h3,h4⟩
 .simp_all
 right
 have h1':nT p 0 xs=(j:Int):=by simpa using h1
 refine⟨x,by simp_all,by simp_all,?_⟩
 have hj:=(Yg.1 h2)
 rw[List.find?_eq_some_iff_getElem]
 have hjl:=hj.1
 refine⟨h3,j,hjl,hj.2,λi hi=>?_⟩
 have hil:i<xs.length:=Nat.lt_trans hi hjl
 have:xs[i]∈xs.take j:=List.mem_take_iff_getElem.2 ⟨i,by omega,rfl⟩
 simp_all
theorem zy130(h:zy89 a)(i:Int):gE a i=ς (zy129 a i):=by
 have:=h.1
 have hf:=zy70 (L:=rh a i) a.aC (λx=>eqB x.aH i) oaa (λk x hx hk=>by
  simp only[rh,zy65 hk,zy62,hx,WRs (k:=k),au]
  rfl) (by simp[rh,dn])
 unfold gE kC zy129
 rw[hf]
 rcases Uf (λx:aG=>eqB x.aH i) a.aC with⟨zy131,e2⟩|⟨x,zy131,e2,e3⟩
 .rw[zy131,e2];simp[ltB]
 grind
def wi(a:an)(q:dy):Bool:=zy127 a&&(zy105 q&&eqB (zy129 a q.aH) q.cV)
theorem zy132(h:zy89 a)(q:dy):eZ a q=ς (wi a q):=by
 simp only[eZ,zy128 h,y4,zy130 h,ZY,wi];grind
theorem zy133{L:Int->Option (cH Int ρ)}(xs:List α)(p:Nat->α->Bool)(f:ρ)(c:Option ρ)(hl:xs.length<=9223372036854775806)(hs:∀(k:Nat) (x:α),xs[k]?=ς x->k<xs.length->L (k:Int)=bif p k x then ς (.next ((k+1:Nat):Int)) else ς (.done f))(he:L (xs.length:Int)=dn c):
 iter L FU 0=bif zy93 p xs then c else ς f:=by
 have:=zy61 (step:=L) xs.zipIdx (λk (_:Unit)=>(k:Int)) (λ_ y=>bif p y.2 y.1 then ς (.next ()) else ς (.done f)) (λ_=>c) (by simp_all)
  (λk y s hy hk=>by
   have hk':k<xs.length:=by simpa using hk
   have:y=(xs[k],k):=by rw[Yf hk] at hy;simpa using hy.symm
   simp_all) (λs=>by simp_all) ()
 refine Eq.trans (show iter L FU 0=_ from this) ?_
 have key:∀ys:List (α×Nat),zy60 (λ(_:Unit) y=>bif p y.2 y.1 then ς (.next ()) else ς (cH.done f)) (λ_=>c) ys ()=bif ys.all (λy=>p y.2 y.1) then c else ς f:=by
  intro ys
  induction ys with
  |nil=>rfl
  |cons x xs ih=>rw[zy60];grind
 exact key _
theorem Ly{l:List Int}(h:l.length<=1048576)(v:Int):wy l v=ς (l.any λx=>eqB x v):=
 zy72 l (λx=>eqB x v) oaa (λk x hx hk=>by
  simp only[xP,zy65 hk,zy62,hx,WRs (k:=k),au]
  rfl) (by simp[xP,dn])
def zy134(m:bi)(i:Int):Bool:=inR i 0 ((m.bI.length:Int)-1)
def zy135(m:bi)(x:Int)(i:Nat):Bool:=match m.bI[x.toNat]? with
 |some d=>d.di.any λy=>eqB y (i:Int)
 |none=>η
def nbB(m:bi)(i:Nat)(ns:List Int)(k:Nat)(x:Int):Bool:=zy134 m x&&(!eqB x (i:Int)&&(nZ id ns k x&&zy135 m x i))
def zy136(m:bi)(i:Nat)(c:d6):Bool:=inR c.g9 0 2&&zy93 (nbB m i c.di) c.di
def pP(m:bi):Bool:=inR (m.bI.length:Int) 1 6&&zy93 (zy136 m) m.bI
theorem zy137{x:Int}(h:zy134 m x=ζ):∃d,d∈m.bI/\ix m.bI x=ς d/\m.bI[x.toNat]?=ς d:=by
 simp only[zy134,zy73] at h
 have hlt:x.toNat<m.bI.length:=by omega
 refine⟨m.bI[x.toNat],Z4 hlt,?_,Yf hlt⟩
 have hm:x=(x.toNat:Int):=by omega
 generalize x.toNat=m at hm hlt ⊢
 simp_all
theorem zy138(h:zy82 m):oH m=ς (pP m):=by
 have hl:=h.1
 have h2:∀(i:Nat) (c:d6),c∈m.bI->i<m.bI.length->iter (mR m (i:Int) c) FU 0=bif zy93 (nbB m i c.di) c.di then ς (.next ((i+1:Nat):Int)) else ς (.done η):=by
  intro i c hc hi
  have hn:=(h.2 c hc).1
  refine zy133 c.di (nbB m i c.di) (cH.done η) _ oaa (λk x hx hk=>?_) (by simp[mR,WRs (k:=i)])
  simp only[mR,zy65 hk,zy62,hx,WRs (k:=k),zy97,zy74 hl,nbB,au]
  cases hcb:zy134 m x with
  |false=>rw[show inR x 0 ((m.bI.length:Int)-1)=η from hcb];rfl
  |true=>
   rw[show inR x 0 ((m.bI.length:Int)-1)=ζ from hcb]
   obtain⟨d,d1,d2,d3⟩:=zy137 hcb
   cases k with
   |zero=>
    simp only[nZ,show ltB 0 ((0:Nat):Int)=η from by simp[ltB],d2,Ly (h.2 d d1).1,zy135,d3,au]
    cases eqB x (i:Int)<;>cases(d.di.any λy=>eqB y (i:Int))<;>rfl
   |succ k=>
    obtain⟨y,hy,hi⟩:=Bd hk oaa oaa
    simp only[aae] at hy
    simp only[nZ,hy,hi,show ltB 0 ((k+1:Nat):Int)=ζ from by simp[ltB],d2,Ly (h.2 d d1).1,zy135,d3,id,au]
    cases eqB x (i:Int)<;>cases leB x y<;>cases(d.di.any λy=>eqB y (i:Int))<;>rfl
 have hL:iter (mQ m) FU 0=bif zy93 (zy136 m) m.bI then ς (inR (m.bI.length:Int) 1 6) else ς false:=by
  refine zy133 m.bI (zy136 m) η _ oaa (λk x hx hk=>?_) (by simp[mQ,zy97])
  have hm:=Yh hx
  simp only[mQ,zy65 hk,zy62,hx,zy97,h2 k x hm hk,zy136,au]
  cases inR x.g9 0 2<;>cases zy93 (nbB m k x.di) x.di<;>rfl
 simp only[oH,hL,pP]
 grind
def zy139(d:ax)(s:ah):Bool:=(eqB d.dZ.ID.dE s.b7.ID.dE&&(eqB d.dZ.ID.bZ s.b7.ID.bZ&&ζ))&&eqB d.dZ.gS s.b7.gS
def zy140(n:ae)(i:Nat)(d:ax):Bool:=match n.aD[i]?,n.bD[i]? with
 |some s,ς a=>nQ d&&(zy121 s&&(zy127 a&&(zy139 d s&&(zy134 n.d5 d.bg&&(zy134 n.d5 s.bg&&(eqB s.ci.aH (i:Int)&&wi a s.ci))))))
 |_,_=>η
def flB(n:ae)(f:bJ):Bool:=inR f.bk 0 ((n.av.length:Int)-1)&&zy134 n.d5 f.bg
def DD(n:ae):Bool:=inR n.cP 0 (WR ((my .i64 1 (n.d5.bI.length:Int))-1))&&(inR n.lI 0 100000&&leB 0 n.Lost)
def o7(n:ae):Bool:=pP n.d5&&(zy104 n.gT&&(!eqB n.gT.fZ 0&&(leB (n.av.length:Int) 4&&(eqB (n.aD.length:Int) (n.av.length:Int)&&(eqB (n.bD.length:Int) (n.av.length:Int)&&
 (zy93 (zy140 n) n.av&&(leB (n.aV.length:Int) 200&&(n.aV.all (flB n)&&DD n))))))))
theorem zy141{x:Int}(h:inR x 0 b=ζ):zy134 m x=ltB x (m.bI.length:Int):=by
 rw[zy73] at h
 rw[Z1];simp[zy134,inR,leB,ltB];omega
theorem flt_s(h:zy92 n):iter (g6 n) FU 0=ς (n.aV.all (flB n)&&DD n):=by
 have hl:=h.2.2.2.2.1
 have:=zy96 (L:=g6 n) n.aV (λ_ f=>flB n f) (ς (DD n)) oaa (λk x hx hk=>by
  simp only[g6,zy65 hk,zy62,hx,WRs (k:=k),zy97,zy74 h.2.1.1,zy74 h.1.1,flB,zy134,au]
  cases inR x.bk 0 ((n.av.length:Int)-1)<;>cases inR x.bg 0 ((n.d5.bI.length:Int)-1)<;>rfl) (by
  simp only[g6,bE,zy97,DD,show leB 0 (n.d5.bI.length:Int)=ζ from by simp[leB],au]
  grind)
 rw[this,zy95]
 grind
section
variable{n:ae}(h:zy92 n)(zy131:n.aD.length=n.av.length)(e2:n.bD.length=n.av.length)
include h zy131 e2
omit h in
theorem at_i(hk:k<n.av.length):∃s a,s∈n.aD/\a∈n.bD/\n.aD[k]?=ς s/\n.bD[k]?=ς a:=
 ⟨n.aD[k]'(by omega),n.bD[k]'(by omega),Z4 _,Z4 _,Yf _,Yf _⟩
theorem mem_s{d:ax}(hd:n.av[k]?=ς d):ua n (k:Int)=ς (zy140 n k d):=by
 have hk:=(Yg.1 hd).1
 obtain⟨s,a,s1,a1,s2,a2⟩:=at_i zy131 e2 hk
 have od:=h.2.1.2 d (Yh hd)
 have os:=h.2.2.1.2 s s1
 have oa:=h.2.2.2.1.2 a a1
 simp only[ua,zy62,hd,s2,a2,zy110 od.2.1 od.1.1,zy124 os,zy128 oa,zy132 oa,ZY,zy140,zy139]
 cases hv:nQ d
 .rfl
 cases hs:zy121 s
 .rfl
 have c1:zy134 n.d5 d.bg=ltB d.bg (n.d5.bI.length:Int):=by
  simp only[nQ,hV] at hv;exact zy141 hv.2.2.1
 have c2:zy134 n.d5 s.bg=ltB s.bg (n.d5.bI.length:Int):=by
  simp only[zy121,hV] at hs;exact zy141 hs.2.2.2.2.2.2.2.2.2.2.2.1
 grind
theorem zy142:iter (g5 n) FU 0=ς (zy93 (zy140 n) n.av&&(n.aV.all (flB n)&&DD n)):=by
 have hl:=h.2.1.1
 have:=zy96 (L:=g5 n) n.av (zy140 n) (ς (n.aV.all (flB n)&&DD n)) oaa (λk x hx hk=>by
  simp only[g5,zy65 hk,mem_s h zy131 e2 hx,WRs (k:=k),au]
  simp_all) (by simp only[g5,bE,cond_false,flt_s h])
 grind
end
theorem zy143{a b:Nat}(h:eqB (a:Int) (b:Int)=ζ):a=b:=by
 have:(a:Int)=b:=by simpa [eqB] using h
 omega
theorem NZ(h:zy92 n):lE n=ς (o7 n):=by
 simp only[lE,zy138 h.1,Kf,ZY,o7,zy108 4,zy108 200]
 cases pP n.d5<;>cases zy104 n.gT<;>cases eqB n.gT.fZ 0<;>cases leB (n.av.length:Int) 4<;>try rfl
 cases zy131:eqB (n.aD.length:Int) (n.av.length:Int)<;>cases e2:eqB (n.bD.length:Int) (n.av.length:Int)<;>try rfl
 rw[zy142 h (zy143 zy131) (zy143 e2)]
 grind
attribute [local simp] bE zy62
theorem zy144{by_:Nat}{L:Int×List α->Option (cH (Int×List α) (List α))}(xs:List α)(hb:by_<=100000)(hl:xs.length<=1048576)(hs:∀(k:Nat) (x:α),xs[k]?=ς x->k<xs.length->L ((k:Int),xs.take k)=bif cN by_ (xs.take k++[x]).length then ς (.next (((k+1:Nat):Int),xs.take k++[x])) else ξ)(he:L ((xs.length:Nat),xs)=ς (.done xs)):iter L FU (0,[])=ς xs:=by
 have:=zy61 (step:=L) xs (λk (_:Unit)=>((k:Int),xs.take k)) (λ_ _=>ς (.next ())) (λ_=>ς xs) oaa
  (λk x _ hx hk=>by
   rw[hs k x hx hk,cE hb (by simp;omega)]
   have e:xs.take (k+1)=xs.take k++[x]:=by rw[Z7,hx];rfl
   simp[e]) (λ_=>by simp_all) ()
 rw[Cb xs (λ_ _=>rfl)] at this
 exact this
theorem zy145{xs:List b8}(h:okL zy84 xs):qq xs=ς xs:=by
 rw[qq,zy144 (by_:=24) (L:=ot xs) xs oaa h.1 (λk x hx hk=>by
  simp[ot,zy65 hk,hx,zy63 (show k<9223372036854775807 by have:=h.1;omega),cE (by_:=1) (n:=x.bm.length) oaa (by have:=(h.2 x (Yh hx)).1;omega)]) (by simp[ot])]
 rfl
theorem IR{xs:List ab}(h:okL zy83 xs):sW xs=ς xs:=by
 rw[sW,zy144 (by_:=32) (L:=pC xs) xs oaa h.1 (λk x hx hk=>by
  simp[pC,zy65 hk,hx,zy63 (show k<9223372036854775807 by have:=h.1;omega),cE (by_:=1) (n:=x.bm.length) oaa (by have:=(h.2 x (Yh hx)).1;omega)]) (by simp[pC])]
 rfl
theorem vO(h:iL w):lZ w=ς w:=by rw[lZ,IR h];rfl
theorem Kj(h:zy85 r):sV r=ς r:=by rw[sV,IR h.1,ZY,zy145 h.2];rfl
theorem W3(h:zy87 p):s8 p=ς p:=by
 rw[s8,Y8,cE oaa (by have:=h.1;omega)];rfl
theorem zy146(h:zy88 s):iF s=ς s:=by rw[iF,W3 h.1,ZY,zy145 h.2.1,ZY,vO h.2.2];rfl
theorem yE{d:ax}(h:zy86 d):jJ d=ς d:=by rw[jJ,Kj h];rfl
theorem zy147(h:zy89 a):kB a=ς a:=by
 rw[kB,Y8,cE oaa (by have:=h.1;omega)];rfl
theorem zy148{x:aF}(h:qm x):yY x=ς x:=by
 rw[yY,Y8,cE oaa (by have:=h.1;omega)];rfl
theorem zy149(h:zy91 f):qw f=ς f:=by rw[qw,zy148 h];rfl
theorem map_c(h:zy82 m):oP m=ς m:=by
 rw[oP,zy144 (by_:=32) (L:=jm m) m.bI oaa h.1 (λk x hx hk=>by
  simp[jm,zy65 hk,hx,zy63 (show k<9223372036854775807 by have:=h.1;omega),cE (by_:=8) (n:=x.di.length) oaa (by have:=(h.2 x (Yh hx)).1;omega)]) (by simp[jm])]
 rfl
theorem zy150(h:zy92 n):vQ n=ς n:=by
 obtain⟨h1,h2,h3,h4,h5⟩:=h
 rw[vQ,map_c h1,ZY,
  zy144 (by_:=144) (L:=rD n) n.av oaa h2.1 (λk x hx hk=>by simp[rD,zy65 hk,hx,zy63 (show k<9223372036854775807 by have:=h2.1;omega),yE (h2.2 x (Yh hx))]) (by simp[rD]),ZY,
  zy144 (by_:=288) (L:=rE n) n.aD oaa h3.1 (λk x hx hk=>by simp[rE,zy65 hk,hx,zy63 (show k<9223372036854775807 by have:=h3.1;omega),zy146 (h3.2 x (Yh hx))]) (by simp[rE]),ZY,
  zy144 (by_:=48) (L:=zy11 n) n.bD oaa h4.1 (λk x hx hk=>by simp[zy11,zy65 hk,hx,zy63 (show k<9223372036854775807 by have:=h4.1;omega),zy147 (h4.2 x (Yh hx))]) (by simp[zy11]),ZY,
  zy144 (by_:=176) (L:=zy12 n) n.aV oaa h5.1 (λk x hx hk=>by simp[zy12,zy65 hk,hx,zy63 (show k<9223372036854775807 by have:=h5.1;omega),zy149 (h5.2 x (Yh hx))]) (by simp[zy12])]
 rfl
theorem zy151(n a b:Int):cU n a b=ς (inR n a b):=by unfold cU inR;grind
theorem zy152(x m:Int):(ZX x m)%m=x%m:=by
 have h:=Int.mul_tdiv_add_tmod x m
 have h2:x%m=(m*x.tdiv m+x.tmod m)%m:=by rw[h]
 rw[h2,Int.mul_add_emod_self_left]
theorem zy153{m:Int}(x:Int)(hm:0<m): -m<ZX x m/\ZX x m<m:=⟨Int.lt_tmod_of_pos x hm,Int.tmod_lt_of_pos x hm⟩
theorem zy154(x:Int){m:Int}(h1:1<=m)(h2:m<=1000000000000):Aw x m=ς (x%m):=by
 obtain⟨a,b⟩:=zy153 x (show 0<m by omega)
 have hr:inR m 1 1000000000000=true:=zy73.2 ⟨h1,h2⟩
 have hz:(!eqB m 0)=true:=by simp[eqB];omega
 simp only[Aw,zy151,hr,hz,au]
 rw[bM oaa,Z5 oaa,Int.add_emod_right,zy152]
abbrev zy155:Int:=2147483647
def Em(v x:Int):Int:=(v*1000003+x%zy155+13)%zy155
theorem zy156(v x:Int):0<=Em v x/\Em v x<zy155:=⟨aal _ (by decide),aak _ (by decide)⟩
theorem zy157{v x:Int}(h0:0<=v)(h1:v<zy155):ZX (WR (WR (WR (v*1000003)+x%zy155)+13)) zy155=Em v x:=by
 have a:=aal x (show zy155≠0 by decide)
 have b:=aak x (show 0<zy155 by decide)
 unfold zy155 at*
 rw[bM (n:=v*1000003) oaa,bM (n:=v*1000003+x%2147483647) oaa,bM (n:=v*1000003+x%2147483647+13) oaa,Z5 oaa]
 rfl
def LA(v:Int)(xs:List Int):Int:=xs.foldl Em v
theorem zy158:∀(xs:List Int) (v:Int),0<=v->v<zy155->zy60 (λ(s x:Int)=>ς (cH.next (ρ:=Int) (ZX (WR (WR (WR (s*1000003)+x%zy155)+13)) zy155))) ς xs v=ς (LA v xs)
 |[],v,_,_=>rfl
 |x::xs,v,h0,h1=>by
  rw[zy60,zy157 h0 h1]
  exact zy158 xs _ (zy156 v x).1 (zy156 v x).2
theorem zy159{xs:List Int}(hl:xs.length<=1048576):Mo xs=ς (LA 11 xs):=by
 have:=zy61 (step:=vh xs) xs (λk (s:Int)=>(s,(k:Int))) (λs x=>ς (cH.next (ZX (WR (WR (WR (s*1000003)+x%zy155)+13)) zy155))) ς oaa
  (λk x s hx hk=>by
   simp only[vh,zy65 hk,zy62,hx,zy154 x (m:=2147483647) oaa oaa,WRs (k:=k),au];rfl) (λs=>by simp[vh]) 11
 rw[Mo,show iter (vh xs) FU (11,0)=_ from this,zy158 xs 11 (by decide) (by decide)]
 rfl
def zy160(k:Int)(xs:List Int):Int:=Em (LA (Em 11 k) xs) k
theorem zy161(k:Int)(xs:List Int):0<=zy160 k xs/\zy160 k xs<zy155:=zy156 _ _
theorem dW{xs:List Int}(hl:xs.length<=100000)(k:Int):eF k xs=ς (zy160 k xs):=by
 have a1:cN 8 ([k]++xs).length=true:=cE oaa (by simp;omega)
 have a2:cN 8 (([k]++xs)++[k]).length=true:=cE oaa (by simp;omega)
 rw[eF,a1,a2]
 simp only[cond_true]
 rw[zy159 (by simp;omega)]
 simp[LA,zy160]
def zy162(k x:Int):Int:=if zy160 k [9,x]=0 then 1 else zy160 k [9,x]
theorem zy163(k x:Int):n8 k x=ς (zy162 k x):=by
 have:=(zy161 k [9,x]).1
 rw[n8,dW (by simp)]
 simp only[ZY,zy162,Cr]
 by_cases h:zy160 k [9,x]=0
 .rw[h,show ltB 1 0=η from ltB_f.2 oaa];simp
 by_cases h1:zy160 k [9,x]=1
 .rw[h1];simp
 rw[show ltB 1 (zy160 k [9,x])=ζ from ltB_t.2 oaa];simp[h]
def zy164(k:Int)(xs:List Int):Int:=xs.foldl zy162 k
theorem zy165:∀(xs:List Int) (v:Int),zy60 (λ(s x:Int)=>ς (cH.next (ρ:=Int) (zy162 s x))) ς xs v=ς (zy164 v xs)
 |[],v=>rfl
 |x::xs,v=>by rw[zy60];exact zy165 xs _
theorem zy166{p:kj}(hl:p.Steps.length<=1048576)(k:Int):oI k p=ς (zy164 k p.Steps):=by
 have:=zy61 (step:=ky p) p.Steps (λj (s:Int)=>(s,(j:Int))) (λs x=>ς (cH.next (zy162 s x))) ς oaa
  (λj x s hx hj=>by simp[ky,zy65 hj,hx,WRs (k:=j),zy163]) (λs=>by simp[ky]) k
 rw[oI,show iter (ky p) FU (k,0)=_ from this,zy165]
 rfl
def zy167(k e:Int):Int:=zy164 k [1,3,e]
theorem zy168(k e:Int):pJ k e=ς (zy167 k e):=by
 rw[pJ,rT]
 simp only[ZY]
 rw[zy166 (by simp)];rfl
def okB(xs:List Int):Prop:=∀x∈xs,zy69 x
theorem O8{x:Int}(h:zy69 x):WR x=x:=bM (by simp only[zy69] at h;omega)
theorem D8:∀(xs acc:List Int),okB xs->acc.length+xs.length<=100000->zy60 (λ(s:List Int) (x:Int)=>bif cN 8 (s++[WR x]).length then ς (cH.next (ρ:=List Int) (s++[WR x])) else ξ) ς xs acc=ς (acc++xs)
 |[],acc,_,_=>by simp[zy60]
 |x::xs,acc,h,hl=>by
  simp only[Yk] at hl
  rw[zy60,show cN 8 (acc++[WR x]).length=ζ from dS (by simp;omega) (by simp;omega),O8 (h x (.head _))]
  simp only[cond_true]
  rw[D8 xs (acc++[x]) (λy hy=>h y (.tail _ hy)) (by simp;omega)]
  simp
theorem zy169{xs:List Int}(hb:okB xs)(hl:xs.length<=50000):pm xs=ς ((xs.length:Int)::xs):=by
 have:=zy61 (step:=jD xs) xs (λj (s:List Int)=>((j:Int),s)) (λ(s:List Int) (x:Int)=>bif cN 8 (s++[WR x]).length then ς (cH.next (ρ:=List Int) (s++[WR x])) else ξ) ς oaa
  (λj x s hx hj=>by
   simp only[jD,zy65 hj,zy62,hx,WRs (k:=j),au]
   simp_all) (λs=>by simp[jD]) [(xs.length:Int)]
 rw[pm,show iter (jD xs) FU (0,[(xs.length:Int)])=_ from this,D8 xs _ hb (by simp;omega)]
 rfl
def KU(m:bC):Bool:=inR m.dQ 0 1&&(inR m.eJ 1 100000&&(leB (m.bm.length:Int) 60&&inR m.kf 0 2147483646))
theorem zy170(m:bC):jF m=ς (KU m):=by
 simp only[jF,zy151,ZY,KU]
 grind
def mac(k:Int)(m:bC):Int:=zy160 k ([m.dQ,m.eJ]++((m.bm.length:Int)::m.bm))
theorem zy171{m:bC}(hb:okB m.bm)(hl:m.bm.length<=50000)(k:Int):qp k m=ς (eqB m.kf (mac k m)):=by
 rw[qp,zZ,zy169 hb hl]
 simp only[ZY]
 rw[show cN 8 ([m.dQ,m.eJ]++((m.bm.length:Int)::m.bm)).length=ζ from dS (by simp;omega) (by simp;omega),dW (by simp;omega)]
 rfl
theorem zy172{m:bC}(h:KU m=ζ):m.bm.length<=60:=by
 simp only[KU,hV] at h
 have:=vi h.2.2.1
 omega
def zy173(k:Int)(p:aF):Bool:=KU p.bH&&(eqB p.bH.dQ 1&&eqB p.bH.kf (mac (zy167 k p.aZ) p.bH))
theorem uJ{p:aF}(hb:okB p.bH.bm)(k:Int):nf k p=ς (zy173 k p):=by
 rw[nf,zy170]
 simp only[ZY,zy173,zy168]
 cases hv:KU p.bH
 .rfl
 rw[zy171 hb (Zd (zy172 hv) oaa)]
 grind
def d1(k:Int)(i:Nat)(x:Int):Int:=(x-zy160 k [(i:Int)]%256)%256
def zy174(k:Int)(xs:List Int):List Int:=xs.mapIdx (λi x=>d1 k i x)
theorem zy175(k:Int)(xs:List Int):(zy174 k xs).length=xs.length:=by simp[zy174]
theorem zy176(k:Int)(xs:List Int):okB (zy174 k xs):=by
 intro x hx
 obtain⟨i,hi⟩:=Yr hx
 simp only[zy174,aad] at hi
 cases h:xs[i]? with
 |none=>simp_all
 |some y=>
  rw[h] at hi;simp at hi;subst hi
  simp only[zy69,d1]
  omega
theorem zy177(n:Int):IntKind.u8.wrap n=n%256:=by rfl
theorem IJ{xs:List Int}(hb:okB xs)(hl:xs.length<=50000)(k:Int):yO k xs=ς (zy174 k xs):=by
 have goal:Wp (iter (vf k xs) FU (0,[])) (λr=>r=zy174 k xs):=by
  refine Wp.iterF (λs=>∃i:Nat,i<=xs.length/\s.1=(i:Int)/\s.2=(zy174 k xs).take i) (λs=>((xs.length:Int)-s.1).toNat) ⟨0,by omega,rfl,rfl⟩ (by simp;omega) ?_
  rintro⟨v2,v3⟩ ⟨i,hi,rfl,rfl⟩
  simp only[vf]
  refine Wp.cond (λhlt=>?_) (λhlt=>?_)
  .have hlt:=zy77 hlt
   have hil:i<xs.length:=by omega
   refine Wp.ix oaa oaa λx hx hxi=>?_
   simp only[ZZ] at hxi
   have hx8:=hb x hx
   have hr:=zy161 k [(i:Int)]
   have zy131:ZX (zy160 k [(i:Int)]) 256=zy160 k [(i:Int)]%256:=Z5 hr.1
   have hb8:0<=zy160 k [(i:Int)]%256/\zy160 k [(i:Int)]%256<256:=by omega
   simp only[zy69] at hx8
   refine Wp.eq (dW (by simp) _) (Wp.eq (zy154 _ oaa oaa) ?_)
   have hlen:((zy174 k xs).take i).length=i:=by rw[Zh,zy175];omega
   rw[zy131,O8 (hb x hx),bM oaa,zy177]
   have e4:(x-zy160 k [(i:Int)]%256)%256%256=d1 k i x:=by rw[d1];omega
   rw[e4]
   refine Wp.ok (dS (by grind) (by grind)) (Wp.some ?_)
   have e3:WR ((i:Int)+1)=((i+1:Nat):Int):=by rw[bM oaa];rfl
   rw[e3]
   have hxd:(zy174 k xs)[i]?=ς (d1 k i x):=by simp only[zy174,aad,hxi,aag]
   refine⟨⟨i+1,by omega,rfl,by rw[Z7,hxd];rfl⟩,?_⟩
   omega
  have hlt:=zy78 hlt
  refine Wp.some ?_
  rw[aam (by rw[zy175];omega)]
 obtain⟨r,h1,h2⟩:=goal.ex
 rw[yO,h1,h2];rfl
def zy131(k:Int)(i:Nat)(x:Int):Int:=(x+zy160 k [(i:Int)]%256)%256
def zy178(k:Int)(xs:List Int):List Int:=xs.mapIdx (λi x=>zy131 k i x)
@[simp] theorem encL_len (k:Int) (xs:List Int):(zy178 k xs).length=xs.length:=by simp[zy178]
theorem zy179(k:Int)(xs:List Int):okB (zy178 k xs):=by
 intro x hx
 obtain⟨i,hi⟩:=Yr hx
 simp only[zy178,aad] at hi
 cases h:xs[i]? with
 |none=>simp_all
 |some y=>rw[h] at hi;simp at hi;subst hi;simp only[zy69,zy131];omega
theorem zy180{xs:List Int}(hb:okB xs)(hl:xs.length<=50000)(k:Int):yP k xs=ς (zy178 k xs):=by
 have goal:Wp (iter (vg k xs) FU (0,[])) (λr=>r=zy178 k xs):=by
  refine Wp.iterF (λs=>∃i:Nat,i<=xs.length/\s.1=(i:Int)/\s.2=(zy178 k xs).take i) (λs=>((xs.length:Int)-s.1).toNat) ⟨0,by omega,rfl,rfl⟩ (by simp;omega) ?_
  rintro⟨v2,v3⟩ ⟨i,hi,rfl,rfl⟩
  simp only[vg]
  refine Wp.cond (λhlt=>?_) (λhlt=>?_)
  .have hlt:=zy77 hlt
   have hil:i<xs.length:=by omega
   refine Wp.ix oaa oaa λx hx hxi=>?_
   simp only[ZZ] at hxi
   have hx8:=hb x hx
   have hr:=zy161 k [(i:Int)]
   have t1:ZX (zy160 k [(i:Int)]) 256=zy160 k [(i:Int)]%256:=Z5 hr.1
   have hb8:0<=zy160 k [(i:Int)]%256/\zy160 k [(i:Int)]%256<256:=by omega
   simp only[zy69] at hx8
   refine Wp.eq (dW (by simp) _) ?_
   have hlen:((zy178 k xs).take i).length=i:=by rw[Zh,encL_len];omega
   rw[t1,O8 (hb x hx),bM oaa,Z5 oaa,zy177]
   have t4:(x+zy160 k [(i:Int)]%256)%256%256=zy131 k i x:=by rw[zy131];omega
   rw[t4]
   refine Wp.ok (dS (by grind) (by grind)) (Wp.some ?_)
   have t3:WR ((i:Int)+1)=((i+1:Nat):Int):=by rw[bM oaa];rfl
   rw[t3]
   have hxd:(zy178 k xs)[i]?=ς (zy131 k i x):=by simp only[zy178,aad,hxi,aag]
   refine⟨⟨i+1,by omega,rfl,by rw[Z7,hxd];rfl⟩,?_⟩
   omega
  have hlt:=zy78 hlt
  refine Wp.some ?_
  rw[aam (by simp_all)]
 obtain⟨r,h1,h2⟩:=goal.ex
 rw[yP,h1,h2];rfl
theorem zy181{m:bC}(hb:okB m.bm)(hl:m.bm.length<=50000)(k:Int):zZ k m=ς (mac k m):=by
 rw[zZ,zy169 hb hl]
 simp only[ZY]
 rw[show cN 8 ([m.dQ,m.eJ]++((m.bm.length:Int)::m.bm)).length=ζ from dS (by simp;omega) (by simp;omega),dW (by simp;omega)]
 rfl
def zy182(k c:Int)(b:List Int):bC:=⟨1,c,zy178 (zy162 k (2*c+1)) b,mac k ⟨1,c,zy178 (zy162 k (2*c+1)) b,0⟩⟩
def zy183(root g e:Int)(x:ab):aF:=⟨g,e,zy182 (zy167 root e) x.c9 x.bm⟩
theorem zy184(h0:0<=x.c9)(h1:x.c9<=1000000)(hb:okB x.bm)(hl:x.bm.length<=50000)(root g e:Int):lY root g e x=ς (zy183 root g e x):=by
 simp only[lY,zy168,sO,ZY,bM (n:=2*x.c9) oaa,bM (n:=2*x.c9+1) oaa,zy163,zy180 hb hl,zy181 (m:=⟨1,x.c9,zy178 _ x.bm,0⟩) (zy179 _ _) (by simpa using hl)]
 rfl
def zy185(root g e:Int)(x:aF):ab×Bool:=
 if x.ag=g/\x.aZ=e/\zy173 root x=ζ then(⟨x.bH.eJ,zy174 (zy162 (zy167 root e) (2*x.bH.eJ+1)) x.bH.bm⟩,ζ) else(kV,η)
theorem N4{p:aF}(hb:okB p.bH.bm)(k g e:Int):True/\zy21 k g e p=ς (zy185 k g e p):=by
 simp only[zy21,uJ hb,zy168,ZY,zy185]
 cases hg:eqB p.ag g
 .simp_all
 cases he:eqB p.aZ e
 .simp_all
 cases hv:zy173 k p
 .simp_all
 have he:=zy80 he
 rw[if_pos ⟨zy80 hg,he,rfl⟩]
 simp only[zy173,hV] at hv
 obtain⟨h1,h2,h3⟩:=hv
 have hlen:=zy172 h1
 have hd:=zy80 h2
 have hm:=zy80 h3
 have hcnt:1<=p.bH.eJ/\p.bH.eJ<=100000:=by
  simp only[KU,hV] at h1
  exact zy73.1 h1.2.1
 rw[he] at hm
 have ek:eqB p.bH.kf (mac (zy167 k e) p.bH)=true:=by rw[hm];simp
 simp only[xQ,zy170,zy171 hb (show p.bH.bm.length<=50000 by omega),zy163,IJ hb (show p.bH.bm.length<=50000 by omega),h1,h2,ek,show leB p.bH.eJ 0=η from leB_f.2 oaa,hd,bM (n:=2*p.bH.eJ) oaa,bM (n:=2*p.bH.eJ+1) oaa,au]
 simp_all
def Sg(root:Int)(m:aT):Int:=zy160 (zy164 root [1,2]) [23,m.bp,m.bg,m.ag,m.aZ,m.bZ]
def zy186(root:Int)(m:aT):aT:={m with kf:=Sg root m}
def zy187(root:Int)(m:aT):Bool:=eqB m.kf (Sg root m)
theorem Si(root:Int)(m:aT):qo root m=ς (Sg root m):=by simp[qo,mZ,zy166,dW,Sg]
theorem yh(root:Int)(m:aT):iB root m=ς (zy186 root m):=by simp[iB,Si,zy186]
theorem zy188(root:Int)(m:aT):gK root m=ς (zy187 root m):=by simp[gK,Si,zy187]
@[simp] theorem vSig_sign (root:Int) (m:aT):zy187 root (zy186 root m)=true:=by simp[zy187,zy186,Sg,eqB]
def nX(m:aT):Bool:=inR m.bp 1 8&&(inR m.bg 0 5&&(inR m.ag 0 999999&&(inR m.aZ 0 999999&&inR m.bZ 0 1000000000000)))
theorem zy189(m:aT):kx m=ς (nX m):=by
 simp only[kx,zy97,ZY,nX]
 grind
def msk(k r:Int):Int:=zy160 k [1,r]%1000000
theorem zy190(k r:Int):0<=msk k r/\msk k r<1000000:=by unfold msk;omega
theorem VN(k r:Int):lu k r=ς (msk k r):=by simp[lu,dW,zy154,msk]
def unm(k r a:Int):Int:=(a%1000000-msk k r)%1000000
theorem zy191(k r a:Int):0<=unm k r a/\unm k r a<=999999:=by unfold unm;omega
theorem V5(k r a:Int):jH k r a=ς (unm k r a):=by
 have:=zy190 k r
 simp only[jH,zy154 _ (show(1:Int)<=1000000 by omega) oaa,VN,ZY,unm];rw[bM oaa]
def JZ(x:Int):Int:=if x=0 then 1 else x
def vec(k r q:Int):cY:=bif inR q 0 999999 then⟨r,(q+msk k r)%1000000,zy160 k [2,r,q],zy160 k [3,r],JZ (zy160 k [4,r,q])⟩ else c8
theorem zy192(k:Int)(xs:List Int):1<=JZ (zy160 k xs)/\JZ (zy160 k xs)<=2147483646:=by have:=zy161 k xs;unfold zy155 JZ at*;omega
theorem zy193(k r q:Int):ge k r q=ς (vec k r q):=by
 simp only[ge,zy97,ZY,vec]
 cases hq:inR q 0 999999
 .rfl
 rw[zy73] at hq
 have h1:=zy190 k r
 have h2:=zy161 k [4,r,q]
 simp only[VN,zy154 _ (show(1:Int)<=1000000 by omega) oaa,dW (show [2,r,q].length<=100000 by simp),dW (show [3,r].length<=100000 by simp),dW (show [4,r,q].length<=100000 by simp),Cr,au]
 rw[bM oaa]
 by_cases h:zy160 k [4,r,q]=0
 .rw[show ltB 1 (zy160 k [4,r,q])=η from ltB_f.2 oaa];simp[JZ,h]
 by_cases h':zy160 k [4,r,q]=1
 .rw[h'];simp[ltB,JZ]
 rw[show ltB 1 (zy160 k [4,r,q])=ζ from ltB_t.2 oaa];simp[JZ,h]
def zy194(k last:Int)(v:cY):Int:=
 if v.kf≠zy160 k [2,v.fT,unm k v.fT v.ji] then 1 else if unm k v.fT v.ji<=last then 2 else if last<unm k v.fT v.ji-1000 then 3 else 0
theorem MZ(k last:Int)(v:cY):lv k last v=ς (zy194 k last v):=by
 have hu:=zy191 k v.fT v.ji
 simp only[lv,V5,dW (show [2,v.fT,unm k v.fT v.ji].length<=100000 by simp),ZY,zy194]
 rw[bM oaa]
 by_cases h1:v.kf=zy160 k [2,v.fT,unm k v.fT v.ji]
 .rw[show eqB v.kf (zy160 k [2,v.fT,unm k v.fT v.ji])=ζ from eqB_t.2 h1]
  simp only[ne_eq,h1,not_true_eq_false,if_false,au]
  by_cases h2:unm k v.fT v.ji<=last
  .rw[show leB (unm k v.fT v.ji) last=ζ from leB_t.2 h2,if_pos h2];rfl
  rw[show leB (unm k v.fT v.ji) last=η from leB_f.2 oaa,if_neg h2]
  by_cases h3:last<unm k v.fT v.ji-1000
  .rw[show ltB last (unm k v.fT v.ji-1000)=ζ from ltB_t.2 h3,if_pos h3];rfl
  rw[show ltB last (unm k v.fT v.ji-1000)=η from ltB_f.2 oaa,if_neg h3];rfl
 rw[show eqB v.kf (zy160 k [2,v.fT,unm k v.fT v.ji])=η from eqB_f.2 h1]
 simp[h1]
def JB(id:cG)(q:Int):Int:=zy160 29 [id.dE,id.bZ,q]
theorem zy195(id:cG)(q:Int):i8 id q=ς (JB id q):=by simp[i8,dW,JB]
theorem Ja{α:Type}(p:α->Bool):∀(xs:List α) (i:Nat),i<(xs.takeWhile p).length->∃x,xs[i]?=ς x/\p x=ζ
 |[],i,h=>by simp at h
 |x::xs,i,h=>by
  rw[aab] at h
  cases hp:p x<;>rw[hp] at h
  .simp at h
  cases i with
  |zero=>simp_all
  |succ i=>exact Ja p xs i (by simpa using h)
theorem zy196{α:Type}(p:α->Bool):∀(xs:List α) (x:α),xs[(xs.takeWhile p).length]?=ς x->p x=η
 |[],x,h=>by simp at h
 |y::xs,x,h=>by
  rw[aab] at h
  cases hp:p y<;>rw[hp] at h
  .simp_all
  exact zy196 p xs x (by simpa using h)
theorem zy197(p:α->Bool)(xs:List α):(xs.takeWhile p).length<=xs.length:=(List.takeWhile_prefix p).length_le
theorem zy198{α:Type}(p:α->Bool):∀xs:List α,xs.take (xs.takeWhile p).length=xs.takeWhile p
 |[]=>rfl
 |x::xs=>by
  rw[aab]
  cases p x
  .rfl
  simp[zy198 p xs]
theorem yk{α:Type}(p:α->Bool):∀xs:List α,xs.drop (xs.takeWhile p).length=xs.dropWhile p
 |[]=>rfl
 |x::xs=>by
  rw[aab,aaq]
  cases p x
  .rfl
  simp[yk p xs]
theorem zy199{L:Int->Option (cH Int Int)}(xs:List α)(p:α->Bool)(hl:xs.length<=1048576)(h1:∀(k:Nat) (x:α),xs[k]?=ς x->L k=bif p x then ς (.next (WR ((k:Int)+1))) else ς (.done k))(h0:L xs.length=ς (.done xs.length)):iter L FU 0=ς (((xs.takeWhile p).length:Nat):Int):=by
 have hle:=zy197 p xs
 have:Wp (iter L FU 0) (λr=>r=(((xs.takeWhile p).length:Nat):Int)):=by
  refine Wp.iterF (λs=>∃i:Nat,s=(i:Int)/\i<=(xs.takeWhile p).length) (λs=>((xs.length:Int)-s).toNat) ⟨0,rfl,by omega⟩ oaa ?_
  rintro _ ⟨i,rfl,hi⟩
  by_cases e:i<(xs.takeWhile p).length
  .obtain⟨x,hx,hp⟩:=Ja p xs i e
   rw[h1 i x hx,hp]
   exact⟨⟨i+1,by rw[bM oaa];rfl,by omega⟩,by simp only[bM (show-9223372036854775808<=(i:Int)+1/\(i:Int)+1<=9223372036854775807 by omega)];omega⟩
  have e:i=(xs.takeWhile p).length:=by omega
  by_cases hn:i<xs.length
  .obtain⟨x,hx⟩:∃x,xs[i]?=ς x:=⟨_,Yf hn⟩
   rw[h1 i x hx,zy196 p xs x (by simp_all)]
   subst e;rfl
  have:i=xs.length:=by omega
  subst this
  rw[h0]
  show(xs.length:Int)=_
  omega
 obtain⟨r,hr,rfl⟩:=this.ex
 exact hr
def zy200(q:Int)(x:ab):Bool:=ltB x.c9 q
def zy201(x:ab)(xs:List ab):List ab:=xs.takeWhile (zy200 x.c9)++[x]++xs.dropWhile (zy200 x.c9)
def zy202:List ab->Int->List b8->aX
 |[],n,dl=>⟨n,[],dl⟩
 |x::xs,n,dl=>if x.c9=n/\dl.length<24 then zy202 xs (n+1) (dl++[⟨x.bm⟩]) else⟨n,x::xs,dl⟩
def zy203(r:aX)(x:ab):Bool:=!zy107 r||(ltB 60 (x.bm.length:Int)||(!inR x.c9 r.bF (r.bF+7)||(r.aA.any (λy=>eqB y.c9 x.c9)||leB 24 (r.a8.length:Int))))
def o4(r:aX)(x:ab):aX:=
 bif zy203 r x then r else
  let o:=zy202 (zy201 x r.aA) r.bF r.a8
  bif leB 24 (o.a8.length:Int) then {o with aA:=[]} else o
theorem zX:∀(xs:List ab) (n:Int) (dl:List b8),dl.length<=24->(zy202 xs n dl).a8.length<=24
 |[],n,dl,h=>h
 |x::xs,n,dl,h=>by
  rw[zy202];split
  .exact zX xs _ _ (by simp;omega)
  exact h
theorem zy204{L:aX->Option (cH aX aX)}(hL:∀v:aX,v.aA.length<=1000->v.a8.length<=24->0<=v.bF->v.bF<=2000000->L v=match v.aA with
  |[]=>ς (.done v)
  |x::xs=>if x.c9=v.bF/\v.a8.length<24 then ς (.next ⟨v.bF+1,xs,v.a8++[⟨x.bm⟩]⟩) else ς (.done v)):
 ∀(xs:List ab) (n:Int) (dl:List b8) (fu:Nat),xs.length<=1000->dl.length<=24->0<=n->n+xs.length<=2000000->xs.length<fu->iter L fu ⟨n,xs,dl⟩=ς (zy202 xs n dl)
 |[],n,dl,fu,h1,h2,h3,h4,h5=>by
  cases fu with
  |zero=>omega
  |succ fu=>rw[iter,hL _ h1 h2 h3 (by simp_all)];rfl
 |x::xs,n,dl,fu,h1,h2,h3,h4,h5=>by
  simp only[Yk] at h1 h4 h5
  cases fu with
  |zero=>omega
  |succ fu=>
   rw[iter,hL ⟨n,x::xs,dl⟩ oaa h2 h3 (by grind),zy202]
   simp only
   by_cases e:x.c9=n/\dl.length<24
   .rw[if_pos e,if_pos e]
    exact zy204 hL xs (n+1) _ fu oaa (by simp;omega) oaa oaa oaa
   grind
theorem zy205{xs:List ab}(h:xs.length<=1048576)(q:Int):∃r,yX xs q=ς r/\leB 0 r=xs.any (λy=>eqB y.c9 q):=by
 refine⟨_,zy70 (L:=rp xs q) xs (λy=>eqB y.c9 q) oaa (λk x hx hk=>?_) ?_,?_⟩
 .simp[rp,zy65 hk,hx];cases eqB x.c9 q<;>simp[WRs (k:=k)]
 .simp[rp]
 rcases zy71 (λy:ab=>eqB y.c9 q) xs 0 with⟨e,ha⟩|⟨j,e,x,hx,hp,_⟩
 .rw[show((0:Nat):Int)=0 from rfl] at e
  rw[e,show xs.any (λy=>eqB y.c9 q)=η from by simp_all];simp[leB]
 rw[show((0:Nat):Int)=0 from rfl] at e
 rw[e,show xs.any (λy=>eqB y.c9 q)=ζ from YJ.2 ⟨x,Yh hx,hp⟩,leB_t];omega
theorem zy206(h:zy107 r=ζ):r.bF=(r.a8.length:Int)+1/\r.a8.length<=24/\r.aA.length<=8:=by
 simp only[zy107,hV] at h
 obtain⟨h1,h2,h3,h4,h5⟩:=h
 have h2:=vi h2
 have h4:=vi h4
 have h1:=zy80 h1
 rw[bM oaa] at h1
 omega
theorem zy207(x:ab)(xs:List ab):(zy201 x xs).length=xs.length+1:=by
 have:(xs.takeWhile (zy200 x.c9)).length+(xs.dropWhile (zy200 x.c9)).length=xs.length:=by rw[<-YF,aai]
 simp[zy201];omega
theorem L2_s:∀v:aX,v.aA.length<=1000->v.a8.length<=24->0<=v.bF->v.bF<=2000000->qX v=match v.aA with
 |[]=>ς (.done v)
 |x::xs=>if x.c9=v.bF/\v.a8.length<24 then ς (.next ⟨v.bF+1,xs,v.a8++[⟨x.bm⟩]⟩) else ς (.done v):=by
 rintro⟨n,p,dl⟩ h1 h2 h3 h4
 cases p with
 |nil=>simp[qX]
 |cons x xs=>
  simp only[Yk] at h1 h2
  have i0:ix (x::xs) 0=ς x:=by simp[ix,leB]
  have hlt:ltB 0 (((x::xs).length:Nat):Int)=true:=ltB_t.2 (by simp_all)
  simp only[qX,i0,hlt,au]
  by_cases e:x.c9=n
  .by_cases e2:dl.length<24
   .rw[if_pos ⟨e,e2⟩,eqB_t.2 e,show ltB (dl.length:Int) 24=ζ from ltB_t.2 oaa]
    have a1:cN 24 (dl++[(⟨x.bm⟩:b8)]).length=true:=cE oaa (by simp;omega)
    have a2:fa (x::xs) 1 (((x::xs).length:Nat):Int)=true:=by simp[fa];omega
    simp only[a1,a2,bM (n:=n+1) (by grind),au]
    rfl
   rw[if_neg (λh=>e2 h.2),eqB_t.2 e,show ltB (dl.length:Int) 24=η from ltB_f.2 oaa];rfl
  rw[if_neg (λh=>e h.1),eqB_f.2 e];rfl
theorem zy208(b:Bool)(x y:α):(bif b then ς x else ς y)=ς (bif b then x else y):=by grind
theorem zy209(a b c d e:Bool):(bif !a then ς ζ else bif b then ς ζ else bif !c then ς ζ else bif d then ς ζ else ς e)=ς (!a||(b||(!c||(d||e)))):=by grind
theorem zy210(h:zy85 r) :mX r x=ς (o4 r x):=by
 obtain⟨q,hq,hq2⟩:=zy205 h.1.1 x.c9
 have hw:zy107 r=ζ->inR x.c9 r.bF (WR (WR (r.bF+8)-1))=inR x.c9 r.bF (r.bF+7):=λhv=>by
  have:=zy206 hv
  rw[bM (n:=r.bF+8) oaa,bM oaa,show r.bF+8-1=r.bF+7 by omega]
 have hl:(bif !zy107 r then ς ζ else(bif ltB 60 (x.bm.length:Int) then ς ζ else(bif !(inR x.c9 r.bF (WR (WR (r.bF+8)-1))) then ς ζ else(bif leB 0 q then ς ζ else ς (leB 24 (r.a8.length:Int))))))=ς (zy203 r x):=by
  rw[hq2,zy209]
  cases hv:zy107 r
  .simp[zy203,hv]
  rw[hw hv];simp[zy203,hv]
 simp only[mX,Kj h,zy109 h.2.1 h.1.1,zy97,hq,ZY,hl]
 rw[o4]
 cases hlt:zy203 r x
 .simp only[zy203,Yt,Z3] at hlt
  obtain⟨l1,l2,l3,l4,l5⟩:=hlt
  have hv:=zy206 l1
  have l2:=zy78 l2
  have l5:=zy79 l5
  have hw2:=zy197 (zy200 x.c9) r.aA
  have hrun:=zy199 (L:=eK x r) r.aA (zy200 x.c9) oaa (λk y hy=>by
   have hk:=(Yg.1 hy).1
   simp[eK,zy65 hk,hy,zy200]) (by simp[eK])
  have hxs:([]:List ab)++r.aA.take ((((r.aA.takeWhile (zy200 x.c9)).length:Nat):Int)).toNat++[(⟨x.c9,[]++x.bm⟩:ab)]++r.aA.drop ((((r.aA.takeWhile (zy200 x.c9)).length:Nat):Int)).toNat=zy201 x r.aA:=by
   simp[zy198,yk,zy201]
  have a1:fa r.aA 0 (((r.aA.takeWhile (zy200 x.c9)).length:Nat):Int)=true:=by simp[fa];omega
  have a2:fa r.aA (((r.aA.takeWhile (zy200 x.c9)).length:Nat):Int) (r.aA.length:Int)=true:=by simp[fa];omega
  have a3:cN 1 (([]:List Int)++x.bm).length=true:=cE oaa (by simp;omega)
  have a4:cN 32 (([]:List ab)++r.aA.take ((((r.aA.takeWhile (zy200 x.c9)).length:Nat):Int)).toNat).length=true:=cE oaa (by simp;omega)
  have a5:cN 32 (([]:List ab)++r.aA.take ((((r.aA.takeWhile (zy200 x.c9)).length:Nat):Int)).toNat++[(⟨x.c9,[]++x.bm⟩:ab)]).length=true:=cE oaa (by simp;omega)
  simp only[hrun,a1,a2,a3,a4,a5,au]
  rw[hxs,cE oaa (show(zy201 x r.aA).length<=1048577 by grind),zy204 L2_s (zy201 x r.aA) r.bF r.a8 FU (by grind) oaa oaa (by grind) (by have:=jU;grind)]
  have hd:=zX (zy201 x r.aA) r.bF r.a8 oaa
  simp only[zy208,au]
  rw[show eqB (((zy202 (zy201 x r.aA) r.bF r.a8).a8.length:Nat):Int) 24=leB 24 (((zy202 (zy201 x r.aA) r.bF r.a8).a8.length:Nat):Int) from by rw[Z1];simp[eqB,leB];omega]
  cases leB 24 (((zy202 (zy201 x r.aA) r.bF r.a8).a8.length:Nat):Int)<;>rfl
 rfl
def zy211(d:ax):aT:=zy186 d.bj ⟨5,d.bg,d.ag,d.aZ,0,c8,0⟩
def zy212(d:ax):aT:={eB with bp:=1,bg:=d.bg}
def nW(d:ax):bv:=
 bif ltB 0 d.hP then⟨{d with hP:=d.hP-1},[]⟩ else bif eqB d.bB 1 then⟨{d with hP:=3},[zy212 d]⟩ else bif eqB d.bB 2&&!d.dx then⟨{d with hP:=3},[zy211 d]⟩ else⟨d,[]⟩
def dOn(d:ax):bv:=bif eqB d.bB 0 then⟨{d with bB:=1,hP:=3},[zy212 d]⟩ else⟨d,[]⟩
def xM(d:ax):bv:=⟨{d with dx:=η,hP:=3},[zy211 d]⟩
def uz(d:ax)(c:Int):bv:=
 bif eqB c d.bg||!inR c 0 5 then⟨d,[]⟩ else bif eqB d.bB 2&&ltB d.aZ 999999 then xM {d with bg:=c,aZ:=d.aZ+1} else⟨{d with bg:=c},[]⟩
def zy213(d:ax)(m:aT):bv:=
 bif eqB (zy194 d.dZ.gS d.dZ.dq m.cj) 0 then
  ⟨{d with dZ:={d.dZ with dq:=unm d.dZ.gS m.cj.fT m.cj.ji},ag:=m.ag,bj:=(vec d.dZ.gS m.cj.fT (unm d.dZ.gS m.cj.fT m.cj.ji)).gS},
   [⟨3,d.bg,m.ag,0,zy160 d.dZ.gS [3,m.cj.fT],c8,0⟩]⟩
 else⟨d,[]⟩
def xO(d:ax)(m:aT):bv:=
 bif !nX m||(!eqB m.bg d.bg||eqB d.bB 0) then⟨d,[]⟩ else
 bif eqB m.bp 2&&eqB d.bB 1 then zy213 d m else
 bif eqB m.bp 4&&(eqB d.bB 1&&(zy98 d.bj&&(eqB m.ag d.ag&&zy187 d.bj m))) then⟨{d with bB:=2,aZ:=m.aZ,dx:=ζ},[]⟩ else
 bif eqB m.bp 6&&(eqB d.bB 2&&(eqB m.ag d.ag&&(eqB m.aZ d.aZ&&zy187 d.bj m))) then⟨{d with dx:=ζ},[]⟩ else
 bif eqB m.bp 7&&(eqB d.bB 3&&ltB d.aZ 999999) then xM {d with bB:=2,aZ:=d.aZ+1} else
 bif eqB m.bp 7&&eqB d.bB 2 then xM d else⟨d,[]⟩
def TY(d:ax)(r:aX):aT:=zy186 d.bj ⟨8,d.bg,d.ag,d.aZ,r.bF,c8,0⟩
def xN(d:ax)(x:aF):bv:=
 let o:=zy185 d.bj d.ag d.aZ x
 bif eqB d.bB 2&&o.2 then⟨{d with bL:=o4 d.bL o.1},[TY d (o4 d.bL o.1)]⟩ else⟨d,[]⟩
def zy214(d:ax):ax:=bif eqB d.bB 2 then {d with bB:=3} else d
theorem zy215{d:ax}(h:zy86 d):qs d=ς ⟨d,[]⟩:=by simp[qs,yE h]
theorem zy216(d:ax):sY d=ς (zy211 d):=by simp[sY,yh,zy211]
theorem Sz{d:ax}(h:zy86 d)(hw:d.hP<=3):oN d=ς (nW d):=by
 simp only[oN,yE h,ZY,qr,lx,zy216,nW]
 cases hb:ltB 0 d.hP
 .cases eqB d.bB 1<;>cases eqB d.bB 2<;>cases hp:d.dx<;>rfl
 have:=zy77 hb
 rw[bM oaa];rfl
theorem WY{d:ax}(h:zy86 d):sN d=ς (dOn d):=by
 simp only[sN,zy215 h,yE h,ZY,qr,lx,dOn]
 cases eqB d.bB 0<;>rfl
theorem zy217{d:ax}(he:0<=d.aZ/\d.aZ<=999999):vJ d=ς (xM {d with aZ:=d.aZ+1}):=by
 simp only[vJ,zy216,ZY,lx]
 rw[bM oaa];rfl
theorem zy218{d:ax}(h:zy86 d)(he:0<=d.aZ/\d.aZ<=999999)(c:Int):oJ d c=ς (uz d c):=by
 simp only[oJ,zy215 h,yE h,ZY,zy97,zy217 (d:={d with bg:=c}) he,uz]
 grind
theorem tok_s(k r last:Int):∃t,px k r last=ς t:=by
 simp only[px,zy97,ZY,dW (show [5,r,last].length<=100000 by simp),zy154 _ (show(1:Int)<=1000 by omega) oaa]
 cases inR last 0 999999<;>exact⟨_,rfl⟩
theorem ask_s{d:ax}(h:zy86 d)(hc:xH d.dZ=ζ)(m:aT):wz d m=ς (zy213 d m):=by
 obtain⟨t,ht⟩:=tok_s d.dZ.gS m.cj.fT d.dZ.dq
 simp only[wz,lg,zy100,hc,MZ,V5,zy193,dW (show [3,m.cj.fT].length<=100000 by simp),ht,yE h,zy213,au]
 cases h0:eqB (zy194 d.dZ.gS d.dZ.dq m.cj) 0
 .grind
 simp[kF]
theorem Sj{d:ax}(h:zy86 d)(hc:xH d.dZ=ζ)(he:0<=d.aZ/\d.aZ<=999999)(m:aT):je d m=ς (xO d m):=by
 simp only[je,zy189,zy215 h,yE h,ask_s h hc,Ie,zy188,zy217 (d:={d with bB:=2}) he,zy216,lx,ZY,xO]
 cases nX m<;>cases eqB m.bg d.bg<;>cases eqB d.bB 0<;>try rfl
 simp only[aac,au]
 cases eqB m.bp 2<;>cases eqB d.bB 1<;>try rfl
 all_goals cases eqB m.bp 4<;>cases zy98 d.bj<;>cases eqB m.ag d.ag<;>cases zy187 d.bj m<;>cases eqB m.bp 6<;>cases eqB d.bB 2<;>cases eqB m.aZ d.aZ<;>cases eqB m.bp 7<;>cases eqB d.bB 3<;>cases ltB d.aZ 999999<;>rfl
def zy219(x:aF):Prop:=okB x.bH.bm
theorem VR{d:ax}(h:zy86 d){x:aF}(hx:zy219 x):zy22 d x=ς (xN d x):=by
 simp only[zy22,(N4 hx _ _ _).2,zy215 h,yE h,zy210 h,yh,ZY,xN]
 cases eqB d.bB 2<;>cases(zy185 d.bj d.ag d.aZ x).2<;>rfl
theorem zy220(h:zy85 r)(x:ab):zy85 (o4 r x):=by
 rw[o4]
 cases hlt:zy203 r x
 .simp only[zy203,Yt,Z3] at hlt
  obtain⟨l1,l2,l3,l4,l5⟩:=hlt
  have hv:=zy206 l1
  have l2:=zy78 l2
  have hi:okL zy83 (zy201 x r.aA):=by
   refine⟨by rw[zy207];omega,λy hy=>?_⟩
   simp only[zy201,Yi,Y9] at hy
   rcases hy with(hy|hy)|hy
   .exact h.1.2 y (aap _ hy)
   .subst hy;exact⟨by omega,λ_ _=>trivial⟩
   exact h.1.2 y (aaj _ hy)
  have hd:∀(xs:List ab) (n:Int) (dl:List b8),okL zy83 xs->(∀p∈dl,zy84 p)->dl.length<=24->zy85 (zy202 xs n dl):=by
   intro xs
   induction xs with
   |nil=>exact λn dl h1 h2 h3=>⟨h1,by show dl.length<=1048576;omega,h2⟩
   |cons y ys ih=>
    intro n dl h1 h2 h3
    rw[zy202];split
    .exact ih _ _ ⟨by have:=h1.1;grind,λz hz=>h1.2 z (by simp[hz])⟩ (λp hp=>by
      rcases Yi.1 hp with hp|hp
      .exact h2 p hp
      simp at hp;subst hp;exact h1.2 y (by simp)) (by simp;omega)
    exact⟨h1,by grind,h2⟩
  have:=hd _ r.bF r.a8 hi h.2.2 oaa
  simp only[cond_false]
  cases leB 24 (((zy202 (zy201 x r.aA) r.bF r.a8).a8.length:Nat):Int)
  .exact this
  exact⟨⟨by simp,by simp⟩,this.2⟩
 exact h
theorem zy221{d:ax}(h:zy86 d):qj d=ς (zy214 d):=by
 simp only[qj,yE h,ZY,zy214];cases eqB d.bB 2<;>rfl
theorem zy222{α:Type}(p:α->Bool)(x:α)(d:List α)(hx:p x=ζ):∀(t:List α) (i:Nat),(∀y∈t,p y=η)->nT p (i:Int) (t++x::d)=((i+t.length:Nat):Int)
 |[],i,_=>by simp[nT,hx]
 |y::t,i,h=>by
  rw[Yz,nT,h y (by simp),cond_false]
  have:=zy222 p x d hx t (i+1) (λz hz=>h z (by simp[hz]))
  grind
theorem zy223{α:Type}(p:α->Bool):∀(t:List α) (i:Int),(∀y∈t,p y=η)->nT p i t= -1
 |[],i,_=>rfl
 |y::t,i,h=>by rw[nT,h y (by simp),cond_false];exact zy223 p t _ λz hz=>h z (by simp[hz])
def zy224:List aG->Int->Int->List aG
 |[],i,n=>[⟨i,n⟩]
 |x::xs,i,n=>if x.aH<i then x::zy224 xs i n else if x.aH=i then⟨i,x.dV+n⟩::xs else⟨i,n⟩::x::xs
def zy225:List aG->Int->Int->List aG
 |[],i,n=>[]
 |x::xs,i,n=>if x.aH=i then(if n<x.dV then⟨i,x.dV-n⟩::xs else xs) else x::zy225 xs i n
def zy226(h:List aG):Int:=(h.map aG.dV).sum
structure zy227(a:an):Prop where
 t:0<=a.fL/\a.fL<=100000
 v:0<=a.bN/\a.bN<=a.fL
 s:0<=a.fj/\a.fj<=a.fL
 l:a.aC.length<=8
 r:∀x∈a.aC,0<=x.aH/\1<=x.dV/\x.dV<=100000
 o:a.aC.Pairwise λx y=>x.aH<y.aH
 e:a.bN+a.fj+zy226 a.aC=a.fL
theorem Ew{α:Type}{key:α->Int}:∀{xs:List α},(∀(k:Nat) (x y:α),xs[k]?=ς x->xs[k+1]?=ς y->key x<key y)->xs.Pairwise λx y=>key x<key y
 |[],_=>.nil
 |[x],_=>by simp
 |x::y::xs,h=>by
  have ih:=Ew (xs:=y::xs) (key:=key) λk a b h1 h2=>h (k+1) a b (by simp_all) (by simp_all)
  have hxy:=h 0 x y rfl rfl
  refine List.Pairwise.cons (λz hz=>?_) ih
  rcases Yl.1 hz with e|hz
  .simp_all
  exact Int.lt_trans hxy (aao ih hz)
theorem zy228{key:α->Int}{xs:List α}(h:∀(k:Nat) (x:α),xs[k]?=ς x->nZ key xs k x=ζ):xs.Pairwise λx y=>key x<key y:=by
 refine Ew λk x y h1 h2=>?_
 have:=h (k+1) y h2
 simp only[nZ,h1,YD] at this
 simp_all
theorem Bg{key:α->Int}{xs:List α}(h:xs.Pairwise λx y=>key x<key y){x:α}(hx:xs[k]?=ς x):nZ key xs k x=true:=by
 cases k with
 |zero=>rfl
 |succ k=>
  have hl:=(Yg.1 hx).1
  simp only[nZ,Yf (show k<xs.length by omega),YD]
  rw[leB_f]
  have:=List.pairwise_iff_getElem.1 h k (k+1) oaa hl oaa
  simp_all
theorem VI:∀(h:List aG) (s:Int),(∀x∈h,0<=x.dV/\x.dV<=100000)->0<=s->s+100000*h.length<=9000000000000->h.foldl (λs x=>WR (s+x.dV)) s=s+zy226 h
 |[],s,_,_,_=>by simp[zy226]
 |x::h,s,hx,h0,h1=>by
  have hh:=hx x (by simp)
  simp only[Yk] at h1
  rw[aaa,bM oaa,VI h _ (λy hy=>hx y (by simp[hy])) oaa oaa]
  simp[zy226];omega
theorem zy229(l:a.aC.length<=8)(r:∀x∈a.aC,0<=x.aH/\1<=x.dV/\x.dV<=100000):GV a=zy226 a.aC:=by
 rw[GV,VI _ _ (λx hx=>by grind) oaa oaa];omega
theorem nP:∀{h:List aG},(∀x∈h,0<=x.aH/\1<=x.dV/\x.dV<=100000)->0<=zy226 h/\zy226 h<=100000*h.length/\∀x∈h,x.dV<=zy226 h
 |[],_=>by simp[zy226]
 |x::h,r=>by
  have ih:=nP (h:=h) λy hy=>r y (by simp[hy])
  have hx:=r x (by simp)
  have e:zy226 (x::h)=x.dV+zy226 h:=by simp[zy226]
  grind
theorem yr:zy127 a=ζ↔zy227 a:=by
 constructor
 .intro h
  simp only[zy127,hV,zy73,zy94] at h
  obtain⟨h1,h2,h3,h4,h5,h6⟩:=h
  have h4:=vi h4
  have r:∀x∈a.aC,0<=x.aH/\1<=x.dV/\x.dV<=100000:=λx hx=>by
   obtain⟨k,hk⟩:=Yr hx
   have:=h5 k x hk
   simp only[zy126,hV,YD,zy73] at this
   simp_all
  have hs:=nP r
  refine⟨h1,h2,h3,by omega,r,zy228 λk x hk=>?_,?_⟩
  .have:=h5 k x hk
   simp only[zy126,hV] at this
   simp_all
  have h6:=zy80 h6
  rw[zy229 oaa r,bM (n:=a.bN+a.fj) oaa,bM oaa] at h6
  exact h6
 rintro⟨h1,h2,h3,h4,r,h5,h6⟩
 have hs:=nP r
 simp only[zy127,hV,zy73,zy94]
 refine⟨h1,h2,h3,leB_t.2 oaa,λk x hk=>?_,eqB_t.2 ?_⟩
 .have hx:=r x (Yh hk)
  simp only[zy126,hV,YD,zy73]
  exact⟨ltB_f.2 oaa,by omega,Bg h5 hk⟩
 rw[zy229 oaa r,bM (n:=a.bN+a.fj) oaa,bM oaa]
 exact h6
theorem zy227.ok(h:zy227 a):zy89 a:=⟨by have:=h.l;omega,λ_ _=>trivial⟩
theorem zy230{h:List aG}(o:h.Pairwise λx y=>x.aH<y.aH)(i:Int):
 (∃t m d,h=t++⟨i,m⟩::d/\(∀x∈t,x.aH<i)/\∀x∈d,i<x.aH)\/(∃t d,h=t++d/\(∀x∈t,x.aH<i)/\∀x∈d,i<x.aH):=by
 induction h with
 |nil=>exact .inr ⟨[],[],rfl,by simp,by simp⟩
 |cons x h ih=>
  have hx:=λy hy=>aao o (a':=y) hy
  by_cases h1:x.aH<i
  .grind
  by_cases h2:x.aH=i
  .exact .inl ⟨[],x.dV,h,by rw[<-h2];rfl,by simp,λy hy=>by simp_all⟩
  refine .inr ⟨[],x::h,rfl,by simp,λy hy=>?_⟩
  grind
theorem K3{d:List aG}{i m n:Int}(h:∀x∈t,x.aH<i):zy224 (t++⟨i,m⟩::d) i n=t++⟨i,m+n⟩::d:=by
 induction t with
 |nil=>simp[zy224]
 |cons x t ih=>rw[Yz,zy224,if_pos (h x (by simp)),ih λy hy=>h y (by simp[hy])];rfl
theorem K4{d:List aG}{i n:Int}(h:∀x∈t,x.aH<i)(h2:∀x∈d,i<x.aH):zy224 (t++d) i n=t++⟨i,n⟩::d:=by
 induction t with
 |nil=>cases d with
  |nil=>rfl
  |cons y d=>have:=h2 y (by simp);rw[Y8,zy224,if_neg oaa,if_neg oaa];rfl
 |cons x t ih=>rw[Yz,zy224,if_pos (h x (by simp)),ih λy hy=>h y (by simp[hy])];rfl
theorem zy231{d:List aG}{i m n:Int}(h:∀x∈t,x.aH<i):zy225 (t++⟨i,m⟩::d) i n=t++(if n<m then⟨i,m-n⟩::d else d):=by
 induction t with
 |nil=>simp[zy225]
 |cons x t ih=>rw[Yz,zy225,if_neg (by grind),ih λy hy=>h y (by simp[hy])];rfl
theorem zy232{d:List aG}{i m:Int}(e:a.aC=t++⟨i,m⟩::d)(h:∀x∈t,x.aH<i):zy129 a i=m:=by
 rw[zy129,e,List.find?_append,show t.find? (λx=>eqB x.aH i)=ξ from by rw[List.find?_eq_none];intro x hx;have:=h x hx;simp[eqB];omega]
 simp[eqB]
theorem zy233{i:Int}(h:∀x∈a.aC,x.aH≠i):zy129 a i=0:=by
 rw[zy129,show a.aC.find? (λx=>eqB x.aH i)=ξ from by simp_all]
theorem V4{d:List aG}{i:Int}(h:∀x∈t,x.aH<i)(h2:∀x∈d,i<=x.aH):((t++d).takeWhile λx=>ltB x.aH i)=t:=by
 rw[List.takeWhile_append_of_pos (λx hx=>ltB_t.2 (h x hx))]
 cases d with
 |nil=>simp
 |cons y d=>simp_all
theorem zy234{L:Int->Option (cH Int Int)}{i:Int}(ok:zy227 a)(hL:∀v1,L v1=bif ltB v1 (a.aC.length:Int) then(ZW (ix a.aC v1) λx2=>bif eqB x2.aH i then(dn (ς v1)) else(ς (.next (WR (v1+1))))) else(dn (ς (-1)))):
 iter L FU 0=ς (nT (λx=>eqB x.aH i) 0 a.aC):=by
 have:=ok.l
 exact zy70 (L:=L) a.aC (λx=>eqB x.aH i) oaa (λk x hx hk=>by
  simp only[hL,zy65 hk,zy62,hx,WRs (k:=k),au]
  rfl) (by simp[hL,dn])
theorem zy235(ok:zy227 a){i n:Int}(h0:0<=n/\n<=100000):AU a.aC i n=ς (zy224 a.aC i n):=by
 have hl:=ok.l
 have hrun:=zy199 (L:=tX a.aC i) a.aC (λx=>ltB x.aH i) oaa (λk x hx=>by
  have hk:=(Yg.1 hx).1
  simp[tX,zy65 hk,hx]) (by simp[tX])
 rw[AU,hrun]
 rcases zy230 ok.o i with⟨t,m,d,e,h1,h2⟩|⟨t,d,e,h1,h2⟩
 .have hm:m<=100000/\1<=m:=by have:=ok.r ⟨i,m⟩ (by rw[e];simp);simp only at this;omega
  have htl:t.length+1<=8:=by have:=congrArg aah e;simp at this;omega
  rw[e,V4 h1 (λx hx=>by grind),K3 h1]
  have hx:(t++(⟨i,m⟩:aG)::d)[t.length]?=ς ⟨i,m⟩:=by simp
  have a1:cN 16 (t++(⟨i,m⟩:aG)::d).length=true:=cE oaa (by grind)
  simp only[zy65 (show t.length<(t++(⟨i,m⟩:aG)::d).length by simp),zy62,hx,Y8,a1,bz,ZZ,bM (n:=m+n) oaa,au]
  simp
 have htl:t.length<=8/\d.length<=8:=by have:=congrArg aah e;simp at this;omega
 rw[e,V4 h1 (λx hx=>by grind),K4 h1 h2]
 have hc:(bif ltB (t.length:Int) (((t++d).length:Nat):Int) then(ZW (ix (t++d) (t.length:Int)) λx8=>ς (eqB x8.aH i)) else ς η)=ς false:=by
  cases d with
  |nil=>simp
  |cons y d=>
   have:=h2 y (by simp)
   rw[zy65 (show t.length<(t++y::d).length by simp),zy62,show(t++y::d)[t.length]?=ς y by simp,ZY,eqB_f.2 (show y.aH≠i by omega)];rfl
 have a1:fa (t++d) 0 (t.length:Int)=true:=by simp[fa];omega
 have a2:fa (t++d) (t.length:Int) (((t++d).length:Nat):Int)=true:=by simp[fa];omega
 have a3:cN 16 t.length=true:=cE oaa oaa
 have a4:cN 16 (t++[(⟨i,n⟩:aG)]).length=true:=cE oaa (by simp;omega)
 have a5:cN 16 (t++[(⟨i,n⟩:aG)]++d).length=true:=cE oaa (by simp;omega)
 simp_all
theorem zy236{d:List aG}{i m:Int}(h1:∀x∈t,x.aH<i):nT (λx=>eqB x.aH i) 0 (t++(⟨i,m⟩:aG)::d)=(t.length:Int):=by
 have:=zy222 (λx:aG=>eqB x.aH i) ⟨i,m⟩ d (by simp) t 0 (λy hy=>eqB_f.2 (by grind))
 simp_all
theorem zy237{d:List aG}{i:Int}(h1:∀x∈t,x.aH<i)(h2:∀x∈d,i<x.aH):nT (λx=>eqB x.aH i) 0 (t++d)= -1:=
 zy223 _ _ _ λy hy=>eqB_f.2 (by grind)
theorem zy238(ok:zy227 a){d:List aG}{i m n:Int}(e:a.aC=t++⟨i,m⟩::d)(h1:∀x∈t,x.aH<i)(hn:0<=n/\n<=m):yV a.aC (t.length:Int) n=ς (zy225 a.aC i n):=by
 have hl:=ok.l
 have hm:m<=100000/\1<=m:=by have:=ok.r ⟨i,m⟩ (by rw[e];simp);simp only at this;omega
 have htl:t.length+1+d.length<=8:=by have:=congrArg aah e;simp at this;omega
 rw[e,zy231 h1]
 have hx:(t++(⟨i,m⟩:aG)::d)[t.length]?=ς ⟨i,m⟩:=by simp
 have a1:cN 16 (t++(⟨i,m⟩:aG)::d).length=true:=cE oaa (by grind)
 simp only[yV,Y8,a1,zy62,hx,ZZ,au]
 by_cases hb:n<m
 .rw[ltB_t.2 hb,if_pos hb]
  simp only[cond_true,bM (n:=m-n) oaa]
  simp
 rw[ltB_f.2 oaa,if_neg hb]
 have a2:fa (t++(⟨i,m⟩:aG)::d) 0 (t.length:Int)=true:=by simp[fa];omega
 have a3:fa (t++(⟨i,m⟩:aG)::d) ((t.length+1:Nat):Int) (((t++(⟨i,m⟩:aG)::d).length:Nat):Int)=true:=by simp[fa];omega
 have e2:(t++(⟨i,m⟩:aG)::d).drop (t.length+1)=d:=by rw[<-List.drop_drop,List.drop_left];rfl
 have a4:cN 16 (t++d).length=true:=cE oaa (by simp;omega)
 simp only[a2,WRs (k:=t.length),a3,ZZ,e2,List.take_left,a4,au]
def zy239(a:an)(i:Int):Bool:=leB 8 (a.aC.length:Int)&&!a.aC.any λx=>eqB x.aH i
def zy240(x y:Int):Int:=if y<x then y else x
def zy241(a:an)(i n:Int):an×Int:=
 bif ltB i 0||(!inR n 1 100000||(eqB a.bN 0||zy239 a i)) then(a,0) else({a with bN:=a.bN-zy240 n a.bN,aC:=zy224 a.aC i (zy240 n a.bN)},zy240 n a.bN)
def yC(a:an)(i n:Int):an:=bif ltB 0 n then {a with fj:=a.fj+n,aC:=zy225 a.aC i n} else a
theorem zy242(x y:Int):Cs x y=ς (zy240 x y):=by
 rw[Cs,zy240];by_cases h:y<x
 .rw[ltB_t.2 h,if_pos h];rfl
 rw[ltB_f.2 oaa,if_neg h];rfl
def zy243(x y:Int):Int:=if x<y then y else x
theorem L0(x y:Int):Cr x y=ς (zy243 x y):=by
 rw[Cr,zy243];by_cases h:x<y
 .rw[ltB_t.2 h,if_pos h];rfl
 rw[ltB_f.2 oaa,if_neg h];rfl
theorem any_A{d:List aG}{i m:Int}:((t++(⟨i,m⟩:aG)::d).any λx=>eqB x.aH i)=true:=by simp
theorem VA{d:List aG}{i:Int}(h1:∀x∈t,x.aH<i)(h2:∀x∈d,i<x.aH):((t++d).any λx=>eqB x.aH i)=false:=by
 rw[List.any_eq_false];intro y hy
 rcases Yi.1 hy with hy|hy
 .have:=h1 y hy;simp[eqB];omega
 have:=h2 y hy;simp[eqB];omega
theorem zy244(ok:zy227 a)(i n:Int):vl a i n=ς (zy241 a i n):=by
 have hv:=yr.2 ok
 have hd:=ok.v
 have ht:=ok.t
 have hfind:kC a i=ς (nT (λx=>eqB x.aH i) 0 a.aC):=zy234 ok λv=>rfl
 have hf:(bif leB 8 (a.aC.length:Int) then(ZW (kC a i) λr5=>ς (ltB r5 0)) else ς η)=ς (zy239 a i):=by
  rw[hfind,zy239]
  cases leB 8 (a.aC.length:Int)
  .rfl
  rcases zy230 ok.o i with⟨t,m,d,e,h1,h2⟩|⟨t,d,e,h1,h2⟩
  .rw[e,zy236 h1,any_A];simp[ltB]
  rw[e,zy237 h1 h2,VA h1 h2];simp[ltB]
 simp only[vl,zy147 ok.ok,zy128 ok.ok,hv,hf,zy97,zy242,zy241,au]
 cases h1:ltB i 0<;>cases h2:inR n 1 100000<;>cases h3:eqB a.bN 0<;>cases h4:zy239 a i<;>try rfl
 rw[zy73] at h2
 have h3:=zy81 h3
 have hmin:1<=zy240 n a.bN/\zy240 n a.bN<=100000/\zy240 n a.bN<=a.bN:=by unfold zy240;split<;>omega
 simp only[zy235 ok (show 0<=zy240 n a.bN/\zy240 n a.bN<=100000 by omega),bM (n:=a.bN-zy240 n a.bN) oaa,aac,au]
theorem Ak(ok:zy227 a)(i:Int):0<=zy129 a i/\zy129 a i<=100000:=by
 rcases zy230 ok.o i with⟨t,m,d,e,h1,h2⟩|⟨t,d,e,h1,h2⟩
 .rw[zy232 e h1];have:=ok.r ⟨i,m⟩ (by rw[e];simp);grind
 rw[zy233 (λx hx=>by grind)];omega
theorem zy245(ok:zy227 a){i n:Int}(hn:0<=n/\n<=zy129 a i):Co a i n=ς (yC a i n,ζ):=by
 have hv:=yr.2 ok
 have ht:=ok.t
 have hs:=ok.s
 have hr:=Ak ok i
 have hfind:kC a i=ς (nT (λx=>eqB x.aH i) 0 a.aC):=zy234 ok λv=>rfl
 have hin:inR n 0 (zy129 a i)=true:=zy73.2 hn
 simp only[Co,zy147 ok.ok,zy128 ok.ok,hv,hfind,zy130 ok.ok,zy97,hin,yC,au]
 cases h0:ltB 0 n
 .rfl
 have h0:=zy77 h0
 rcases zy230 ok.o i with⟨t,m,d,e,h1,h2⟩|⟨t,d,e,h1,h2⟩
 .rw[zy232 e h1] at hn hr
  have hc:=zy238 ok e h1 hn
  rw[show nT (λx=>eqB x.aH i) 0 a.aC=(t.length:Int) by rw[e];exact zy236 h1]
  simp only[hc,bM (n:=a.fj+n) oaa,au]
 rw[zy233 (λx hx=>by grind)] at hn
 omega
structure WOK(w:be):Prop where
 n:1<=w.bF/\w.bF<=100000
 l:w.aM.length<=8
 f:1<=w.bF-w.aM.length
 u:∀(k:Nat) (x:ab),w.aM[k]?=ς x->x.c9=w.bF-w.aM.length+k/\x.bm.length<=60
theorem WOK.ok(h:WOK w):iL w:=⟨by have:=h.l;omega,λx hx=>by
 obtain⟨k,hk⟩:=Yr hx
 exact⟨by have:=(h.u k x hk).2;omega,λ_ _=>trivial⟩⟩
theorem zy246{n:Nat}:zy106 n=ζ↔n<=60:=by simp[zy106,ltB];omega
theorem zy247:zy115 w=ζ↔WOK w:=by
 constructor
 .intro h
  simp only[zy115,hV,zy73,zy94,unB,zy246] at h
  obtain⟨h1,h2,h3,h4⟩:=h
  have h2:=vi h2
  have h3:=vi h3
  rw[bM oaa] at h3
  refine⟨h1,by omega,h3,λk x hx=>?_⟩
  have hk:=(Yg.1 hx).1
  have:=h4 k x hx
  have e:=zy80 this.1
  rw[bM (n:=w.bF-(w.aM.length:Int)) oaa,bM oaa] at e
  omega
 rintro⟨h1,h2,h3,h4⟩
 simp only[zy115,hV,zy73,zy94,unB,zy246]
 refine⟨h1,leB_t.2 oaa,leB_t.2 (by rw[bM oaa];omega),λk x hx=>?_⟩
 have hk:=(Yg.1 hx).1
 have:=h4 k x hx
 exact⟨eqB_t.2 (by rw[bM (n:=w.bF-(w.aM.length:Int)) oaa,bM oaa];exact this.1),this.2⟩
def zy248(xs:List ab):Int:=(xs.map λx=>(x.bm.length:Int)).sum
theorem w6:∀{xs:List ab},(∀x∈xs,x.bm.length<=60)->0<=zy248 xs/\zy248 xs<=60*xs.length
 |[],_=>by simp[zy248]
 |x::xs,h=>by
  have ih:=w6 (xs:=xs) λy hy=>h y (by simp[hy])
  have:=h x (by simp)
  have e:zy248 (x::xs)=x.bm.length+zy248 xs:=by simp[zy248]
  grind
theorem Io{xs:List ab}(h:∀x∈xs,x.bm.length<=60)(hl:xs.length<=1000):zy111 xs=zy248 xs:=by
 have key:∀(xs:List ab) (s:Int),(∀x∈xs,x.bm.length<=60)->0<=s->s+60*xs.length<=9000000000->xs.foldl (λa x=>WR (a+(x.bm.length:Int))) s=s+zy248 xs:=by
  intro xs
  induction xs with
  |nil=>intro s _ _ _;simp[zy248]
  |cons x xs ih=>
   intro s h h0 h1
   have hx:=h x (by simp)
   simp only[Yk] at h1
   rw[aaa,bM oaa,ih _ (λy hy=>h y (by simp[hy])) oaa oaa]
   simp[zy248];omega
 have:=key xs 0 h oaa oaa
 rw[zy111,this];omega
theorem WOK.d(h:WOK w):∀x∈w.aM,x.bm.length<=60:=λx hx=>by
 obtain⟨k,hk⟩:=Yr hx;exact(h.u k x hk).2
structure QOK(q:dy):Prop where
 i:0<=q.aH
 u:0<=q.fK
 g:q.fK<=q.cV
 m:q.cV<=100000
theorem zy249:zy105 q=ζ↔QOK q:=by
 simp only[zy105,hV,leB_t]
 exact⟨λ⟨a,b,c,d⟩=>⟨a,b,c,d⟩,λ⟨a,b,c,d⟩=>⟨a,b,c,d⟩⟩
theorem Gt(h:QOK q):Kn q=q.cV-q.fK:=by
 rw[Kn,zy249.2 h];obtain⟨a,b,c,d⟩:=h
 simp only[cond_true];rw[bM oaa]
structure SP(s:ah):Prop where
 ok:zy88 s
 rcd:zy101 s.b7=ζ
 plan:qQ s.jj=ζ
 page:zy102 s.jn=ζ
 win:WOK s.aK
 q:QOK s.ci
 st:0<=s.bB/\s.bB<=1
 k1:s.bB=1->zy98 s.bj=ζ
 k2:0<s.bO->zy98 s.aA.gS=ζ
 ps:0<=s.bO/\s.bO<=999999
 gn:0<=s.ag/\s.ag<=999999
 ep:0<=s.aZ/\s.aZ<=999999
 rk:0<=s.bj/\s.bj<=2147483646
 ce:0<=s.bg/\s.bg<=5
 qu:0<=s.eg/\s.eg<=5
 zy64:0<=s.d9/\s.d9<=3
 sl:s.aU.length<=24
 sd:∀p∈s.aU,p.bm.length<=60
 nx:s.aK.bF<=s.aU.length+1
 un:∀x∈s.aK.aM,DX s x=ζ
 pd:zy248 s.aK.aM<=s.ci.cV-s.ci.fK
theorem zy250(ok:zy88 s):zy121 s=ζ↔SP s:=by
 constructor
 .intro h
  simp only[zy121,hV,zy73,zy247,zy249,Ym,zJ,zy246,zy119,zy120] at h
  obtain⟨h1,h2,h3,h4,h5,h6,⟨h7,h8⟩,h9,h10,h11,h12,h13,h14,h15,h16,h17,h18,h19,h20⟩:=h
  have h16:=vi h16
  have h18:=vi h18
  have h20:=vi h20
  rw[bM oaa] at h18
  rw[Gt h5,Io h4.d (by have:=h4.l;omega)] at h20
  refine⟨ok,h1,h2,h3,h4,h5,h6,λe=>?_,λe=>?_,h9,h10,h11,h12,h13,h14,h15,by omega,h17,h18,h19,h20⟩
  .simp_all
  rw[ltB_t.2 e] at h8;simp_all
 rintro⟨_,h1,h2,h3,h4,h5,h6,h7,h8,h9,h10,h11,h12,h13,h14,h15,h16,h17,h18,h19,h20⟩
 simp only[zy121,hV,zy73,zy247,zy249,Ym,zJ,zy246,zy119,zy120]
 refine⟨h1,h2,h3,h4,h5,h6,⟨?_,?_⟩,h9,h10,h11,h12,h13,h14,h15,leB_t.2 oaa,h17,leB_t.2 (by rw[bM oaa];omega),h19,leB_t.2 (by rw[Gt h5,Io h4.d (by have:=h4.l;omega)];omega)⟩
 .cases e:eqB s.bB 1
  .rfl
  simp_all
 cases e:ltB 0 s.bO
 .rfl
 simp_all
def zy251(s:ah)(b:List Int):ah×Bool:=bif leB 24 (s.aU.length:Int)||ltB 60 (b.length:Int) then(s,η) else({s with aU:=s.aU++[⟨b⟩]},ζ)
theorem Sp(h:zy88 s){b:List Int}:jP s b=ς (zy251 s b):=by
 simp only[jP,zy146 h,ZY,zy251,CJ,Y8]
 cases h1:leB 24 (s.aU.length:Int)<;>cases h2:ltB 60 (b.length:Int)<;>try rfl
 have h1:=zy79 h1
 have h2:=zy78 h2
 simp only[aac,cE (by_:=1) (n:=b.length) oaa oaa,cE (by_:=24) (n:=(s.aU++[(⟨b⟩:b8)]).length) oaa (by simp;omega),au]
def zy252(s:ah)(m:aT):bU:=
 let q:=s.b7.c9+1
 let v:=vec s.b7.gS (JB s.b7.ID q) q
 bif eqB s.b7.c9 999999 then⟨s,[]⟩ else⟨{s with b7:={s.b7 with c9:=q},aA:=v,bO:=q},[⟨2,m.bg,q,0,0,v,0⟩]⟩
def wP(s:ah)(k:Int):aT:=zy186 s.bj ⟨k,s.bg,s.ag,s.aZ,0,c8,0⟩
def zy253(s:ah)(c:Int):ah:=⟨s.b7,s.jj,1,c8,0,s.bO,s.aA.gS,s.aZ+1,c,0,gM,s.aU,s.aK,s.d9,s.ci⟩
def zy254(s:ah)(m:aT):bU:=
 bif leB s.bO 0||(!eqB m.ag s.bO||(!eqB m.bZ s.aA.uH||leB 999999 s.aZ)) then⟨s,[]⟩ else⟨zy253 s m.bg,[wP (zy253 s m.bg) 4]⟩
def uE(s:ah)(m:aT):Bool:=eqB s.bB 1&&(eqB m.ag s.ag&&zy187 s.bj m)
def zy255(s:ah)(m:aT):ah:={s with aZ:=m.aZ,bg:=m.bg,eg:=0,jn:=gM,d9:=0}
def zy256(s:ah)(m:aT):bU:=
 bif !uE s m||(ltB m.aZ s.aZ||(eqB m.aZ s.aZ&&!eqB m.bg s.bg)) then⟨s,[]⟩ else⟨zy255 s m,[wP (zy255 s m) 6]⟩
def zy257(w:be)(k:Int):be:=bif ltB w.bF k then w else⟨w.bF,w.aM.filter λx=>leB k x.c9⟩
def zy258(q:dy)(n:Int):dy:=bif inR n 0 (q.cV-q.fK) then {q with fK:=q.fK+n} else q
def zy259(s:ah)(k:Int):ah:={s with eg:=0,aK:=zy257 s.aK k,ci:=zy258 s.ci (zy248 s.aK.aM-zy248 (zy257 s.aK k).aM)}
def zy260(s:ah)(m:aT):bU:=bif !uE s m||ltB s.aK.bF m.bZ then⟨s,[]⟩ else⟨zy259 s m.bZ,[]⟩
def sUp(s:ah)(m:aT):bU:=
 bif !nX m then⟨s,[]⟩ else bif eqB m.bp 1 then zy252 s m else bif eqB m.bp 3 then zy254 s m else bif eqB m.bp 5 then zy256 s m else bif eqB m.bp 8 then zy260 s m else⟨s,[]⟩
def zy261(s:ah):ah:={s with aA:=c8,bO:=0,eg:=0,jn:=gM,d9:=0}
theorem zy262(h:zy88 s):nr s=ς ⟨s,[]⟩:=by simp[nr,zy146 h]
theorem Wr(h:zy88 s):wv s=ς (zy261 s):=by simp[wv,zy146 h,zy261]
theorem zy263{r:aP}(h:zy101 r=ζ):0<=r.c9/\r.c9<=999999:=by
 simp only[zy101,hV,zy73] at h;omega
theorem zy264(h:SP s)(m:aT):kz s m=ς (zy252 s m):=by
 have hr:=zy263 h.rcd
 simp only[kz,zy195,oY,Rx,h.rcd,zy193,zy262 h.ok,zy146 h.ok,bM (n:=s.b7.c9+1) oaa,zy252,au]
 cases he:eqB s.b7.c9 999999
 .simp only[bz,eqB_f.2 (show s.b7.c9+1≠s.b7.c9 by omega),Z6,Zz,au]
 simp_all
theorem zy265(h:SP s)(m:aT):i9 s m=ς (zy254 s m):=by
 have he:=h.ep
 simp only[i9,n9,zy262 h.ok,zy146 h.ok,qt,yh,ZY,bM (n:=s.aZ+1) oaa,zy254]
 cases leB s.bO 0<;>cases eqB m.ag s.bO<;>cases eqB m.bZ s.aA.uH<;>cases leB 999999 s.aZ<;>rfl
theorem LP(s:ah)(m:aT):sZ s m=ς (uE s m):=by
 simp only[sZ,zy188,ZY,uE];grind
theorem UI(h:SP s)(m:aT):jv s m=ς (zy256 s m):=by
 simp only[jv,LP,zy262 h.ok,zy146 h.ok,qt,yh,ZY,zy256]
 cases uE s m<;>cases ltB m.aZ s.aZ<;>cases eqB m.aZ s.aZ<;>cases eqB m.bg s.bg<;>rfl
theorem Pb(h:WOK w)(k:Int):iw w k=ς (zy257 w k):=by
 have hl:=h.l
 simp only[iw,vO h.ok,ZY,zy257]
 cases ltB w.bF k
 .have:=zy61 (step:=iy w k) w.aM (λi s=>((i:Int),s)) (zy67 32 (λx=>leB k x.c9) (λx=>x)) ς oaa
   (λi x s hx hi=>by
    have hd:=h.d x (Yh hx)
    simp only[iy,zy65 hi,zy62,hx,Y8,cE (by_:=1) (n:=x.bm.length) oaa oaa,WRs (k:=i),zy67,au]
    cases leB k x.c9<;>simp
    cases cN 32 (s.length+1)<;>rfl) (λs=>by simp[iy]) ([]:List ab)
  rw[zy68 oaa _ _ _ _ (by simp;omega)] at this
  simp_all
 rfl
theorem Nl(h:QOK q)(n:Int):∃b,ol q n=ς (zy258 q n,b):=by
 obtain⟨a,b,c,d⟩:=h
 simp only[ol,y4,zy249.2 ⟨a,b,c,d⟩,zy97,bM (n:=q.cV-q.fK) oaa,zy258,au]
 cases hn:inR n 0 (q.cV-q.fK)
 .simp_all
 rw[zy73] at hn
 simp only[bM (n:=q.fK+n) oaa,au];simp_all
theorem zy266(p:ab->Bool):∀xs:List ab,zy248 xs=zy248 (xs.filter p)+zy248 (xs.filter λx=>!p x)
 |[]=>rfl
 |x::xs=>by
  have ih:=zy266 p xs
  have e:∀ys,zy248 (x::ys)=x.bm.length+zy248 ys:=λys=>by simp[zy248]
  grind
theorem zy267(h:WOK w){k:Int}(hk:ltB w.bF k=η):zy248 w.aM-zy248 (zy257 w k).aM=zy248 (w.aM.filter λx=>ltB x.c9 k):=by
 rw[zy257,hk,zy266 (λx=>leB k x.c9) w.aM]
 simp only[cond_false]
 have:(λx:ab=>ltB x.c9 k)=λx=>!leB k x.c9:=by funext x;rw[zy108]
 grind
theorem ack_s(h:SP s)(m:aT):zy5 s m=ς (zy260 s m):=by
 obtain⟨b,hb⟩:=Nl h.q (zy248 s.aK.aM-zy248 (zy257 s.aK m.bZ).aM)
 have hu:=h.win.d
 have hl:=h.win.l
 have hu2:∀x∈(zy257 s.aK m.bZ).aM,x.bm.length<=60:=λx hx=>by
  rw[zy257] at hx;grind
 have hl2:(zy257 s.aK m.bZ).aM.length<=8:=by
  rw[zy257];cases ltB s.aK.bF m.bZ
  .grind
  exact hl
 have s1:=w6 hu
 have s2:=w6 hu2
 have zy131:WR (zy111 s.aK.aM-zy111 (zy257 s.aK m.bZ).aM)=zy248 s.aK.aM-zy248 (zy257 s.aK m.bZ).aM:=by
  rw[Io hu oaa,Io hu2 oaa,bM oaa]
 simp only[zy5,LP,zy262 h.ok,zy146 h.ok,Pb h.win,zy112 (show s.aK.aM.length<=1048576 by omega),zy112 (show(zy257 s.aK m.bZ).aM.length<=1048576 by omega),ZY,zy131,hb,zy260]
 cases uE s m<;>cases ltB s.aK.bF m.bZ<;>rfl
theorem up_s(h:SP s)(m:aT):zy28 s m=ς (sUp s m):=by
 simp only[zy28,zy189,zy262 h.ok,zy264 h,zy265 h,UI h,ack_s h,ZY,sUp]
 grind
theorem nO(t d:List aG):zy226 (t++d)=zy226 t+zy226 d:=by simp[zy226,List.sum_append]
@[simp] theorem sumR_cons (x:aG) (d:List aG):zy226 (x::d)=x.dV+zy226 d:=by simp[zy226]
theorem zy268{d:List aG}{i m m':Int}(h:(t++⟨i,m⟩::d).Pairwise λx y=>x.aH<y.aH):(t++⟨i,m'⟩::d).Pairwise λx y=>x.aH<y.aH:=by
 rw[Z9,Z2] at h ⊢
 simp_all
theorem W6{d:List aG}{i m:Int}(h:(t++d).Pairwise λx y=>x.aH<y.aH)(h1:∀x∈t,x.aH<i)(h2:∀x∈d,i<x.aH):(t++(⟨i,m⟩:aG)::d).Pairwise λx y=>x.aH<y.aH:=by
 rw[Z9] at h ⊢
 simp_all
theorem zy269{d:List aG}{i:Int}(h1:∀x∈t,x.aH<i)(h2:∀x∈d,i<x.aH):∀x∈t++d,x.aH≠i:=λx hx=>by
 grind
theorem zy270(ok:zy227 a)(i n:Int):
 zy227 (zy241 a i n).1/\zy129 (zy241 a i n).1 i=zy129 a i+(zy241 a i n).2/\0<=(zy241 a i n).2/\(zy241 a i n).2<=a.bN/\(zy241 a i n).1.bN=a.bN-(zy241 a i n).2/\(zy241 a i n).1.fj=a.fj/\(zy241 a i n).1.fL=a.fL:=by
 have hv:=ok.v
 have ht:=ok.t
 have hs:=ok.s
 have hl:=ok.l
 have he:=ok.e
 rw[zy241]
 cases h1:ltB i 0<;>cases h2:inR n 1 100000<;>cases h3:eqB a.bN 0<;>cases h4:zy239 a i<;>simp only[Bool.or_false,Bool.or_true,Bool.true_or,Zy,au]<;>try exact⟨ok,by omega,by omega,by omega,by omega,by simp,by simp⟩
 rw[zy73] at h2
 have h1:=zy78 h1
 have h3:=zy81 h3
 have hmin:1<=zy240 n a.bN/\zy240 n a.bN<=100000/\zy240 n a.bN<=a.bN:=by unfold zy240;split<;>omega
 generalize zy240 n a.bN=g at*
 rcases zy230 ok.o i with⟨t,m,d,e,k1,k2⟩|⟨t,d,e,k1,k2⟩
 .have hm:=ok.r ⟨i,m⟩ (by rw[e];simp)
  have hsum:=(nP ok.r).2.2 ⟨i,m⟩ (by rw[e];simp)
  simp only at hm hsum
  rw[e,nO,sumR_cons] at he
  simp only at he
  have hs1:=nP (h:=t) λx hx=>ok.r x (by simp_all)
  have hs2:=nP (h:=d) λx hx=>ok.r x (by simp_all)
  have ho:=ok.o
  rw[e] at ho
  rw[zy232 e k1]
  simp only[e,K3 k1]
  have hll:(t++(⟨i,m+g⟩:aG)::d).length=a.aC.length:=by rw[e];simp
  refine⟨⟨ht,by grind,hs,by simp_all,λx hx=>?_,zy268 ho,by simp only[nO,sumR_cons];omega⟩,zy232 (t:=t) (d:=d) rfl k1,by omega,by omega,θ,θ,θ⟩
  rcases Yi.1 hx with hx|hx
  .exact ok.r x (by simp_all)
  rcases Yl.1 hx with e'|hx
  .grind
  exact ok.r x (by simp_all)
 rw[zy233 (a:=a) (λx hx=>by grind)]
 have hb:a.aC.length<8:=by
  rw[zy239,e,VA k1 k2] at h4
  simp only[Bool.not_false,Zz] at h4
  have:=zy79 h4
  rw[e];omega
 rw[e,nO] at he
 have ho:=ok.o
 rw[e] at ho
 simp only[e,K4 k1 k2]
 refine⟨⟨ht,by grind,hs,by grind,λx hx=>?_,W6 ho k1 k2,by simp only[nO,sumR_cons];omega⟩,Eq.trans (zy232 (t:=t) (d:=d) rfl k1) oaa,by omega,by omega,θ,θ,θ⟩
 rcases Yi.1 hx with hx|hx
 .exact ok.r x (by simp_all)
 rcases Yl.1 hx with e'|hx
 .simp_all
 exact ok.r x (by simp_all)
theorem zy271(ok:zy227 a){i n:Int}(hn:0<=n/\n<=zy129 a i):
 zy227 (yC a i n)/\zy129 (yC a i n) i=zy129 a i-n/\(yC a i n).fj=a.fj+n/\(yC a i n).bN=a.bN/\(yC a i n).fL=a.fL:=by
 have hv:=ok.v
 have ht:=ok.t
 have hs:=ok.s
 have hl:=ok.l
 have he:=ok.e
 rw[yC]
 cases h0:ltB 0 n
 .have h0:=zy78 h0
  grind
 have h0:=zy77 h0
 simp only[cond_true]
 rcases zy230 ok.o i with⟨t,m,d,e,k1,k2⟩|⟨t,d,e,k1,k2⟩
 .rw[zy232 e k1] at hn ⊢
  have hm:=ok.r ⟨i,m⟩ (by rw[e];simp)
  simp only at hm
  rw[e,nO,sumR_cons] at he
  have hs1:=nP (h:=t) λx hx=>ok.r x (by simp_all)
  have hs2:=nP (h:=d) λx hx=>ok.r x (by simp_all)
  have ho:=ok.o
  rw[e] at ho
  have hll:t.length+1+d.length=a.aC.length:=by rw[e];simp;omega
  simp only at he
  simp only[e,zy231 k1]
  by_cases hb:n<m
  .simp only[if_pos hb]
   refine⟨⟨ht,by omega,by grind,by simp;omega,λx hx=>?_,zy268 ho,by simp only[nO,sumR_cons];omega⟩,zy232 (t:=t) (d:=d) rfl k1,θ,θ,θ⟩
   rcases Yi.1 hx with hx|hx
   .exact ok.r x (by simp_all)
   rcases Yl.1 hx with e'|hx
   .grind
   exact ok.r x (by simp_all)
  simp only[if_neg hb]
  have ho2:(t++d).Pairwise λx y=>x.aH<y.aH:=ho.sublist (by simp)
  refine⟨⟨ht,by omega,by grind,by simp;omega,λx hx=>ok.r x (by grind),ho2,by simp only[nO];omega⟩,?_,θ,θ,θ⟩
  rw[zy233 (a:={a with fj:=a.fj+n,aC:=t++d}) (zy269 k1 k2)];omega
 rw[zy233 (λx hx=>by grind)] at hn
 omega
structure MOK(a:an)(q:dy):Prop where
 acc:zy227 a
 quo:QOK q
 res:zy129 a q.aH=q.cV
theorem zy272:wi a q=ζ↔MOK a q:=by
 simp only[wi,hV,yr,zy249,eqB_t]
 exact⟨λ⟨x,y,z⟩=>⟨x,y,z⟩,λ⟨x,y,z⟩=>⟨x,y,z⟩⟩
def zy273(a:an)(q:dy)(n:Int):an×dy:=
 let r:=zy241 a q.aH n
 (r.1,{q with cV:=q.cV+r.2})
theorem CE(h:MOK a q)(n:Int):MOK (zy273 a q n).1 (zy273 a q n).2/\q.cV<=(zy273 a q n).2.cV:=by
 obtain⟨h1,h2,h3,h4,h5,h6,h7⟩:=zy270 h.acc q.aH n
 have:=Ak h1 q.aH
 have hr:=h.res
 obtain⟨a1,a2,a3,a4⟩:=h.quo
 exact⟨⟨h1,⟨a1,a2,by simp only[zy273];omega,by simp only[zy273];omega⟩,by simp only[zy273];omega⟩,by simp only[zy273];omega⟩
theorem zy274(h:MOK a q)(n:Int):oo a q n=ς (zy273 a q n):=by
 have h0:=(CE h n).1.quo
 have hq:=h.quo
 simp only[zy273] at h0
 have hg:=h0.m
 have hg2:=h0.g
 simp only at hg hg2
 simp only[oo,zy244 h.acc,zy132 h.acc.ok,zy272.2 h,y4,bM (n:=q.cV+(zy241 a q.aH n).2) (by have:=hq.u;omega),zy249.2 h0,zy273,au]
def zy275(a:an)(q:dy):an×dy:=(yC a q.aH q.fK,⟨q.aH,q.cV-q.fK,0⟩)
theorem zy276(h:MOK a q):MOK (zy275 a q).1 (zy275 a q).2/\(zy275 a q).1.fj=a.fj+q.fK/\(zy275 a q).1.fL=a.fL/\(zy275 a q).1.bN=a.bN:=by
 obtain⟨a1,a2,a3,a4⟩:=h.quo
 have hr:=h.res
 obtain⟨h1,h2,h3,h4,h5⟩:=zy271 h.acc (i:=q.aH) (n:=q.fK) oaa
 exact⟨⟨h1,⟨a1,by simp[zy275],by simp only[zy275];omega,by simp only[zy275];omega⟩,by simp only[zy275];omega⟩,h3,h5,h4⟩
theorem zy277(h:MOK a q):pw a q=ς (zy275 a q):=by
 obtain⟨a1,a2,a3,a4⟩:=h.quo
 have hr:=h.res
 simp only[pw,zy132 h.acc.ok,zy272.2 h,zy245 h.acc (i:=q.aH) (n:=q.fK) oaa,bM (n:=q.cV-q.fK) oaa,zy275,au]
def zy278(s:ah)(n:Int):Int:=zy243 0 (zy248 s.aK.aM+n-(s.ci.cV-s.ci.fK))
theorem zy279(hw:WOK s.aK)(hq:QOK s.ci){n:Int}(hn:0<=n/\n<=1000):mW s n=ς (zy278 s n):=by
 have hs:=w6 hw.d
 have hl:=hw.l
 obtain⟨a1,a2,a3,a4⟩:=hq
 simp only[mW,mV,zy112 (show s.aK.aM.length<=1048576 by omega),Io hw.d (show s.aK.aM.length<=1000 by omega),zy113,Gt ⟨a1,a2,a3,a4⟩,L0,ZY,zy278,bM (n:=zy248 s.aK.aM+n) oaa,bM (n:=zy248 s.aK.aM+n-(s.ci.cV-s.ci.fK)) oaa]
def em(s:ah)(a:an)(n:Int):ah×an:=
 bif leB (zy278 s n) 0 then(s,a) else
  let r:=zy273 a s.ci (zy243 (zy278 s n) s.jj.fF)
  ({s with ci:=r.2},r.1)
theorem zy280(h:SP s)(hm:MOK a s.ci){n:Int}(hn:0<=n/\n<=1000):pt s a n=ς (em s a n):=by
 simp only[pt,zy146 h.ok,zy279 h.win h.q hn,zy147 hm.acc.ok,L0,zy274 hm,ZY,em]
 grind
def zj(w:be)(b:List Int):be:=⟨w.bF+1,w.aM++[⟨w.bF,b⟩]⟩
theorem zy281(h:WOK w){b:List Int}(hn:w.bF<100000)(hl:w.aM.length<8)(hb:b.length<=60):WOK (zj w b):=by
 have h1:=h.n
 have h3:=h.f
 refine⟨by simp only[zj];omega,by simp[zj];omega,by simp[zj];omega,λk x hx=>?_⟩
 simp only[zj] at hx ⊢
 rw[YF,List.length_singleton]
 by_cases hk:k<w.aM.length
 .rw[Yx hk] at hx
  have:=h.u k x hx
  omega
 grind
theorem Xm(h:WOK w){b:List Int}(hn:w.bF<100000)(hl:w.aM.length<8)(hb:b.length<=60):iA w b=ς (zj w b,⟨w.bF,b⟩,ζ):=by
 have h1:=h.n
 have hs:=zy281 h hn hl hb
 have e:(⟨WR (w.bF+1),w.aM++[(⟨w.bF,b⟩:ab)]⟩:be)=zj w b:=by rw[bM oaa];rfl
 simp only[iA,vO h.ok,Y8,cE (by_:=1) (n:=b.length) oaa oaa,cE (by_:=32) (n:=(w.aM++[(⟨w.bF,b⟩:ab)]).length) oaa (by simp;omega),e,zy116 hs.ok,zy247.2 hs,au]
structure SG(s:ah)(a:an):Prop where
 sp:SP s
 b1:∀p∈s.aU,okB p.bm
 b2:∀x∈s.aK.aM,okB x.bm
 mo:MOK a s.ci
def uF(s:ah):Option b8:=bif leB s.aK.bF (s.aU.length:Int)&&ltB (s.aK.aM.length:Int) 8 then s.aU[(s.aK.bF-1).toNat]? else ξ
def jK:Nat->ah->an->List aF->ah×an×List aF
 |0,s,a,r=>(s,a,r)
 |k+1,s,a,r=>match uF s with
  |none=>(s,a,r)
  |some x=>
   let e:=em s a (x.bm.length:Int)
   bif ltB 0 (zy278 e.1 (x.bm.length:Int)) then(e.1,e.2,r)
   else jK k {e.1 with aK:=zj e.1.aK x.bm} e.2 (r++[zy183 e.1.bj e.1.ag e.1.aZ ⟨e.1.aK.bF,x.bm⟩])
theorem zy282(h:SP s){x:b8}(e:uF s=ς x):x∈s.aU/\ix s.aU (WR (s.aK.bF-1))=ς x/\s.aU[(s.aK.bF-1).toNat]?=ς x/\s.aK.bF<=s.aU.length/\s.aK.aM.length<8/\x.bm.length<=60:=by
 have hn:=h.win.n
 rw[uF] at e
 cases h1:leB s.aK.bF (s.aU.length:Int)<;>cases h2:ltB (s.aK.aM.length:Int) 8<;>rw[h1,h2] at e<;>try cases e
 have h1:=vi h1
 have h2:=zy77 h2
 have e:s.aU[(s.aK.bF-1).toNat]?=ς x:=e
 have hm:=Yh e
 refine⟨hm,?_,e,h1,by omega,h.sd x hm⟩
 rw[bM oaa,ix,leB_t.2 (show 0<=s.aK.bF-1 by omega)]
 exact e
theorem J9(h:SP s)(e:uF s=ξ):(leB s.aK.bF (s.aU.length:Int)&&ltB (s.aK.aM.length:Int) 8)=false:=by
 have hn:=h.win.n
 cases h1:leB s.aK.bF (s.aU.length:Int)&&ltB (s.aK.aM.length:Int) 8
 .rfl
 rw[uF,h1] at e
 rw[hV] at h1
 have h1:=vi h1.1
 have e:s.aU[(s.aK.bF-1).toNat]?=none:=e
 rw[List.getElem?_eq_none_iff] at e
 omega
theorem zy283(h:SG s a){n:Int}(hn:0<=n/\n<=60):SG (em s a n).1 (em s a n).2:=by
 rw[em]
 cases leB (zy278 s n) 0
 .obtain⟨h1,h2⟩:=CE h.mo (zy243 (zy278 s n) s.jj.fF)
  have hp:=h.sp.pd
  have hu:(zy273 a s.ci (zy243 (zy278 s n) s.jj.fF)).2.fK=s.ci.fK:=rfl
  exact⟨{h.sp with q:=h1.quo,pd:=by grind},h.b1,h.b2,h1⟩
 exact h
theorem zy284(x:ByteArray):strB x x=true:=by simp[strB]
theorem Bh(h:SG s a){x:b8}(e:uF s=ς x)(hq:ltB 0 (zy278 s (x.bm.length:Int))=η):SG {s with aK:=zj s.aK x.bm} a:=by
 obtain⟨hm,_,hx,hn,hl,hb⟩:=zy282 h.sp e
 have hs:=h.sp.sl
 have hq:=zy78 hq
 have hnn:=h.sp.win.n
 have hpd:zy248 (s.aK.aM++[⟨s.aK.bF,x.bm⟩])<=s.ci.cV-s.ci.fK:=by
  have zy131:zy248 (s.aK.aM++[⟨s.aK.bF,x.bm⟩])=zy248 s.aK.aM+x.bm.length:=by simp[zy248]
  rw[zy278,zy243] at hq
  rw[zy131]
  split at hq<;>omega
 refine⟨{h.sp with ok:=⟨h.sp.ok.1,h.sp.ok.2.1,(zy281 h.sp.win oaa hl hb).ok⟩,win:=zy281 h.sp.win oaa hl hb,nx:=by simp only[zj];omega,un:=λy hy=>?_,pd:=hpd},h.b1,λy hy=>?_,h.mo⟩
 .simp only[zj,Yi,Y9] at hy
  rcases hy with hy|rfl
  .exact h.sp.un y hy
  simp only[DX,hx,zy117];simp_all
 simp only[zj,Yi,Y9] at hy
 rcases hy with hy|rfl
 .exact h.b2 y hy
 exact h.b1 x hm
theorem zy285(s:ah)(a:an)(n:Int):∃q,(em s a n).1={s with ci:=q}:=by
 rw[em];cases leB (zy278 s n) 0
 .simp_all
 grind
theorem zy286(s0:ah):∀(k fu:Nat) (s:ah) (a:an) (g:List aT) (r:List aF),SG s a->s.aU=s0.aU->s.bj=s0.bj->s.ag=s0.ag->s.aZ=s0.aZ->k<=2->k<fu->r.length+k<=1000->
 iter (zy7 s0) fu ((2:Int)-(k:Nat),⟨s,a,g,r⟩)=ς ⟨(jK k s a r).1,(jK k s a r).2.1,g,(jK k s a r).2.2⟩
 |0,fu,s,a,g,r,h,c1,c2,c3,c4,h1,h2,h3=>by
  cases fu with
  |zero=>omega
  |succ fu=>rw[iter];simp[zy7,jK]
 |k+1,fu,s,a,g,r,h,c1,c2,c3,c4,h1,h2,h3=>by
  cases fu with
  |zero=>omega
  |succ fu=>
   have hlt:ltB ((2:Int)-((k+1:Nat):Int)) 2=true:=ltB_t.2 oaa
   have hc:(bif leB s.aK.bF (s0.aU.length:Int) then ς (ltB (s.aK.aM.length:Int) 8) else ς η)=ς (leB s.aK.bF (s.aU.length:Int)&&ltB (s.aK.aM.length:Int) 8):=by
    rw[<-c1]
    cases leB s.aK.bF (s.aU.length:Int)<;>rfl
   rw[iter]
   simp only[zy7,hlt,hc,jK,au]
   cases e:uF s with
   |none=>rw[J9 h.sp e];rfl
   |some x=>
    obtain⟨hm,hx,_,hn,hl,hb⟩:=zy282 h.sp e
    have hcc:(leB s.aK.bF (s.aU.length:Int)&&ltB (s.aK.aM.length:Int) 8)=true:=by rw[leB_t.2 hn,ltB_t.2 oaa];rfl
    have he:=zy283 h (n:=(x.bm.length:Int)) oaa
    have hsl:=h.sp.sl
    have hnn:=h.sp.win.n
    rw[c1] at hx
    simp only[hcc,hx,zy280 h.sp h.mo (n:=(x.bm.length:Int)) oaa,zy279 he.sp.win he.sp.q (n:=(x.bm.length:Int)) oaa,au]
    cases hq:ltB 0 (zy278 (em s a (x.bm.length:Int)).1 (x.bm.length:Int))
    .obtain⟨q,hk⟩:=zy285 s a (x.bm.length:Int)
     have e2:uF (em s a (x.bm.length:Int)).1=ς x:=by rw[hk];exact e
     have hg:=Bh he e2 hq
     have hw:(em s a (x.bm.length:Int)).1.aK=s.aK:=by rw[hk]
     have hww:=he.sp.win
     have d1:(em s a (x.bm.length:Int)).1.bj=s0.bj:=by rw[hk];exact c2
     have d2:(em s a (x.bm.length:Int)).1.ag=s0.ag:=by rw[hk];exact c3
     have d3:(em s a (x.bm.length:Int)).1.aZ=s0.aZ:=by rw[hk];exact c4
     simp only[Xm hww (b:=x.bm) (by grind) (by simp_all) hb,vM,zy184 (x:=⟨(em s a (x.bm.length:Int)).1.aK.bF,x.bm⟩) (by grind) (by grind) (h.b1 x hm) (by grind),<-d1,<-d2,<-d3,cE (by_:=64) (n:=(r++[zy183 (em s a (x.bm.length:Int)).1.bj (em s a (x.bm.length:Int)).1.ag (em s a (x.bm.length:Int)).1.aZ ⟨(em s a (x.bm.length:Int)).1.aK.bF,x.bm⟩]).length) oaa (by simp;omega),bM (n:=(2:Int)-((k+1:Nat):Int)+1) oaa,au]
     rw[show(2:Int)-((k+1:Nat):Int)+1=2-(k:Nat) by omega]
     exact zy286 s0 k fu _ _ _ _ hg (by simp_all) d1 d2 d3 oaa oaa (by simp;omega)
    rfl
theorem zy287(h:SG s a)(hs:s.bB=1):zy8 s a=ς ⟨(jK 2 s a []).1,(jK 2 s a []).2.1,[],(jK 2 s a []).2.2⟩:=by
 have:=zy286 s 2 FU s a [] [] h rfl rfl rfl rfl oaa (by have:=jU;omega) (by simp)
 rw[show(2:Int)-((2:Nat):Int)=0 by omega] at this
 have hz:({dT with bb:=s,fk:=a}:cp)=⟨s,a,[],[]⟩:=rfl
 simp only[zy8,qv,vK,zy146 h.sp.ok,zy147 h.mo.acc.ok,zy124 h.sp.ok,(zy250 h.sp.ok).2 h.sp,eqB_t.2 hs,hz,this,au]
theorem IQ:∀(k:Nat) (s:ah) (a:an) (r:List aF),SG s a->SG (jK k s a r).1 (jK k s a r).2.1
 |0,s,a,r,h=>h
 |k+1,s,a,r,h=>by
  rw[jK]
  cases e:uF s with
  |none=>exact h
  |some x=>
   obtain⟨hm,hx,_,hn,hl,hb⟩:=zy282 h.sp e
   have he:=zy283 h (n:=(x.bm.length:Int)) oaa
   simp only
   cases hq:ltB 0 (zy278 (em s a (x.bm.length:Int)).1 (x.bm.length:Int))
   .obtain⟨q,hk⟩:=zy285 s a (x.bm.length:Int)
    exact IQ k _ _ _ (Bh he (by rw[hk];exact e) hq)
   exact he
theorem zy288(xs:List α):(xs.filter λ_=>ζ)=xs:=List.filter_eq_self.2 (by simp)
def zy289(s:ah):List aF:=bif eqB s.bB 1 then(s.aK.aM.take 2).map λx=>zy183 s.bj s.ag s.aZ x else []
theorem zy290(h:WOK s.aK)(hx:x∈s.aK.aM):1<=x.c9/\x.c9<s.aK.bF/\x.c9<=100000/\x.bm.length<=60:=by
 obtain⟨k,hk⟩:=Yr hx
 have hl:=(Yg.1 hk).1
 have:=h.u k x hk
 have h1:=h.f
 have h2:=h.n
 omega
theorem zy291(h:SG s a):ml s=ς (zy289 s):=by
 have key:∀(n:Nat) (fu k:Nat) (r:List aF),n=(s.aK.aM.take 2).length-k->k<=(s.aK.aM.take 2).length->n<fu->r.length+n<=100->eqB s.bB 1=ζ->
  iter (jf s) fu ((k:Int),r)=ς (r++((s.aK.aM.take 2).drop k).map λx=>zy183 s.bj s.ag s.aZ x):=by
  intro n
  have hle:(s.aK.aM.take 2).length=min 2 s.aK.aM.length:=by simp
  induction n with
  |zero=>
   intro fu k r hn hk hf hr hs
   cases fu with
   |zero=>omega
   |succ fu=>
    have hk':k=(s.aK.aM.take 2).length:=by omega
    have hc:(bif ltB (k:Int) (s.aK.aM.length:Int) then(bif ltB (k:Int) 2 then ς (eqB s.bB 1) else ς η) else ς η)=ς false:=by
     by_cases h2:k<s.aK.aM.length
     .rw[zy65 h2,ltB_f.2 (show(2:Int)<=k by omega)];rfl
     rw[ltB_f.2 (show(s.aK.aM.length:Int)<=k by omega)];rfl
    rw[iter]
    simp only[jf,hc,au]
    simp_all
  |succ n ih=>
   intro fu k r hn hk hf hr hs
   cases fu with
   |zero=>omega
   |succ fu=>
    have hlt:k<(s.aK.aM.take 2).length:=by omega
    have hc:(bif ltB (k:Int) (s.aK.aM.length:Int) then(bif ltB (k:Int) 2 then ς (eqB s.bB 1) else ς η) else ς η)=ς true:=by
     rw[zy65 (show k<s.aK.aM.length by omega),ltB_t.2 (show(k:Int)<2 by omega),hs];rfl
    obtain⟨x,hx⟩:∃x,s.aK.aM[k]?=ς x:=⟨_,Yf (show k<s.aK.aM.length by omega)⟩
    have hxm:=Yh hx
    have hu:=zy290 h.sp.win hxm
    have hd:(s.aK.aM.take 2).drop k=x::(s.aK.aM.take 2).drop (k+1):=by
     rw[YW hlt];congr 1
     have:=(Yg.1 hx).2
     simpa using this
    rw[iter]
    simp only[jf,hc,zy62,hx,vM,zy184 (x:=x) oaa oaa (h.b2 x hxm) oaa,cE (by_:=64) (n:=(r++[zy183 s.bj s.ag s.aZ x]).length) oaa (by simp;omega),WRs (k:=k),au]
    rw[ih fu (k+1) _ oaa oaa oaa (by simp;omega) hs,hd]
    simp
 rw[ml,zy289]
 cases hs:eqB s.bB 1
 .have h0:iter (jf s) FU (0,[])=ς []:=by
   have:FU=(FU-1)+1:=by have:=jU;omega
   rw[this,iter]
   have hc:(bif ltB 0 (s.aK.aM.length:Int) then(bif ltB 0 2 then ς (eqB s.bB 1) else ς η) else ς η)=ς false:=by
    rw[hs];cases ltB 0 (s.aK.aM.length:Int)<;>cases ltB 0 2<;>rfl
   simp only[jf,hc,au]
  rw[h0];rfl
 have:=key _ FU 0 [] rfl oaa (by have:=jU;simp;omega) (by simp;omega) hs
 simp_all
def tJ(m:bi)(a:Int):List Int:=(m.bI.zipIdx.filter λy=>eqB y.1.g9 a).map λy=>(y.2:Int)
def zy292(m:bi):List Int:=(v0 m.bI.length).map λ(k:Nat)=>(k:Int)
def Ev(m:bi)(a t:Int):List Int:=bif eqB t 1&&ltB 0 (((tJ m a).length:Nat):Int) then tJ m a else bif inR t 1 4 then zy292 m else []
theorem M8{xs:List α}{y:α×Nat}(h:xs.zipIdx[k]?=ς y):xs[k]?=ς y.1/\y.2=k:=by
 grind
theorem zy293(h:m.bI.length<=1000)(a:Int):pp m a=ς (tJ m a):=by
 have hrun:=zy61 (step:=jE m a) m.bI.zipIdx (λi r=>((i:Int),r)) (zy67 8 (λy=>eqB y.1.g9 a) (λy=>(y.2:Int))) ς (by simp;omega)
  (λi y r hy hi=>by
   obtain⟨hx,e⟩:=M8 hy
   have hi:i<m.bI.length:=by simpa using hi
   simp only[jE,zy65 hi,zy62,hx,WRs (k:=i),zy67,e,au]
   cases eqB y.1.g9 a
   .rfl
   cases cN 8 (r++[(i:Int)]).length<;>rfl) (λr=>by simp[jE]) ([]:List Int)
 rw[zy68 oaa _ _ _ _ (by simp;omega)] at hrun
 rw[pp,show iter (jE m a) FU (0,[])=_ from hrun]
 rfl
theorem Qp(n:Nat):∀(v:List Int),v.length=n->(∀k:Nat,k<n->v[k]?=ς (k:Int))->v=(v0 n).map λ(k:Nat)=>(k:Int):=by
 intro v hv h
 apply aaf
 grind
theorem UG(h:m.bI.length<=1000)(a t:Int):pu m a t=ς (Ev m a t):=by
 simp only[pu,zy293 h,ZY,Ev,zy292]
 cases hb:inR t 1 4
 .have h0:iter (ij m t) FU (0,[])=ς []:=by
   have:FU=(FU-1)+1:=by have:=jU;omega
   rw[this,iter]
   simp only[ij,zy97,hb,ZY]
   cases ltB 0 (m.bI.length:Int)<;>rfl
  grind
 have hrun:=zy61 (step:=ij m t) m.bI.zipIdx (λi r=>((i:Int),r)) (zy67 8 (λ_=>ζ) (λy=>(y.2:Int))) ς (by simp;omega)
  (λi y r hy hi=>by
   obtain⟨hx,e⟩:=M8 hy
   have hi:i<m.bI.length:=by simpa using hi
   simp only[ij,zy65 hi,zy97,hb,WRs (k:=i),zy67,e,au]
   simp_all) (λr=>by simp[ij]) ([]:List Int)
 rw[zy68 oaa _ _ _ _ (by simp;omega)] at hrun
 have hall:(m.bI.zipIdx.filter λ_=>ζ).map (λy:d6×Nat=>(y.2:Int))=(v0 m.bI.length).map λ(k:Nat)=>(k:Int):=by
  rw[zy288]
  refine Qp _ _ (by simp) λk hk=>?_
  simp[List.getElem?_zipIdx,Yf hk]
 grind
def zH(p:dr)(m:bi):dr×List Int:=
 bif ltB 0 p.hP then({p with hP:=p.hP-1},[]) else
  let t:=bif ltB p.fR 4 then p.fR+1 else 1
  (⟨p.g9,t,3⟩,Ev m p.g9 t)
structure POK(p:dr):Prop where
 a:0<=p.fR/\p.fR<=4
 w:0<=p.hP/\p.hP<=3
theorem zy294{p:dr}(hp:POK p)(h:m.bI.length<=1000):qZ p m=ς (zH p m):=by
 have h1:=hp.a
 have h2:=hp.w
 simp only[qZ,UG h,ZY,zH,bM (n:=p.hP-1) oaa,bM (n:=p.fR+1) oaa,zy208]
def zy295(m:bi)(c:Int):Int:=bif zy134 m c then(match m.bI[c.toNat]? with|some x=>x.g9|none=>0) else 0
def zy296(c:Int):aT:={eB with bp:=7,bg:=c}
def IL(s:ah)(a:an)(m:bi):cp:=
 let r:=zH {s.jn with g9:=zy295 m s.bg} m
 ⟨{s with jn:=r.1},a,r.2.map zy296,[]⟩
theorem zy297{L:Int×List aT->Option (cH (Int×List aT) (List aT))}(xs:List Int)(hl:xs.length<=10000)(hL:∀(v:Int) (r:List aT),L (v,r)=bif ltB v (xs.length:Int) then(ZW (ix xs v) λx10=>bif cN 88 (r++[{eB with bp:=7,bg:=x10}]).length then(ς (.next (WR (v+1),(r++[{eB with bp:=7,bg:=x10}])))) else ξ) else(ς (.done r))):
 iter L FU (0,[])=ς (xs.map zy296):=by
 have hrun:=zy61 (step:=L) xs (λi r=>((i:Int),r)) (zy67 88 (λ_=>ζ) zy296) ς oaa
  (λi x r hx hi=>by
   simp only[hL,zy65 hi,zy62,hx,WRs (k:=i),zy67,zy296,au]
   simp_all) (λr=>by simp[hL]) ([]:List aT)
 rw[zy68 oaa _ _ _ _ (by simp;omega)] at hrun
 refine Eq.trans (show iter L FU (0,[])=_ from hrun) (by rw[zy288,Y8])
theorem EY{p:dr}(h:m.bI.length<=1000):(zH p m).2.length<=1000:=by
 have hc:(tJ m p.g9).length<=1000:=by
  simp only[tJ,List.length_map]
  have:=List.length_filter_le (λy:d6×Nat=>eqB y.1.g9 p.g9) m.bI.zipIdx
  simp at this;omega
 rw[zH];cases ltB 0 p.hP
 .simp only[cond_false,Ev]
  cases eqB (bif ltB p.fR 4 then p.fR+1 else 1) 1&&ltB 0 (((tJ m p.g9).length:Nat):Int)
  .cases inR (bif ltB p.fR 4 then p.fR+1 else 1) 1 4<;>simp[zy292];omega
  exact hc
 simp
theorem zy298(h:SP s)(ha:zy227 a)(hp:POK s.jn)(hm:1<=m.bI.length/\m.bI.length<=1000):vL s a m=ς (IL s a m):=by
 have hz:({dT with bb:=s,fk:=a}:cp)=⟨s,a,[],[]⟩:=rfl
 have hin:(bif zy134 m s.bg then(ZW (ix m.bI s.bg) λx4=>ς x4.g9) else ς 0)=ς (zy295 m s.bg):=by
  rw[zy295]
  cases hc:zy134 m s.bg
  .rfl
  obtain⟨d,_,h1,h2⟩:=zy137 hc
  simp_all
 have hpp:POK {s.jn with g9:=zy295 m s.bg}:=⟨hp.a,hp.w⟩
 have hr:=zy297 (L:=Al (zH {s.jn with g9:=zy295 m s.bg} m)) _ (by have:=EY (p:={s.jn with g9:=zy295 m s.bg}) hm.2;omega) (λv r=>rfl)
 simp only[vL,qv,zy146 h.ok,zy147 ha.ok,zy97,ZY,bM (n:=(m.bI.length:Int)-1) oaa,hz]
 rw[show inR s.bg 0 ((m.bI.length:Int)-1)=zy134 m s.bg from rfl,hin]
 simp only[ZY,zy294 hpp hm.2,hr,IL]
def zy299(s:ah)(a:an):an×dy:=bif leB s.jj.fF s.ci.fK then zy275 a s.ci else(a,s.ci)
def Ft(s:ah):Bool:=ltB 0 (s.aK.aM.length:Int)
def zy300(s:ah):Int:=bif Ft s then zy240 5 (s.eg+1) else 0
def zy301(s:ah):List aF×Int:=bif Ft s&&ltB 0 s.d9 then([],s.d9-1) else bif Ft s then(zy289 s,3) else([],s.d9)
def MI(s:ah)(a:an)(m:bi):cp:=
 let g:=zy299 s a
 let t:=jK 2 {s with eg:=zy300 s,d9:=(zy301 s).2,ci:=g.2} g.1 []
 ⟨t.1,t.2.1,[],(zy301 s).1++t.2.2⟩
def zy302(s:ah)(a:an)(m:bi):cp:=
 bif !eqB s.bB 1 then⟨s,a,[],[]⟩ else bif ltB 4 (zy300 s) then IL {s with eg:=zy300 s,ci:=(zy299 s a).2} (zy299 s a).1 m else MI s a m
theorem zy303(h:SG s a):MOK (zy299 s a).1 (zy299 s a).2/\(zy299 s a).2.cV-(zy299 s a).2.fK=s.ci.cV-s.ci.fK/\(zy299 s a).2.aH=s.ci.aH/\(zy299 s a).1.fj+(zy299 s a).2.fK=a.fj+s.ci.fK/\(zy299 s a).1.fL=a.fL/\(zy299 s a).1.bN=a.bN:=by
 rw[zy299]
 cases leB s.jj.fF s.ci.fK
 .exact⟨h.mo,rfl,rfl,rfl,rfl,rfl⟩
 obtain⟨h1,h2,h3,h4⟩:=zy276 h.mo
 simp only[cond_true]
 exact⟨h1,by simp[zy275],rfl,by rw[h2];simp[zy275],h3,h4⟩
theorem y3(h:SP s):0<=zy300 s/\zy300 s<=5:=by
 have:=h.qu
 rw[zy300];cases Ft s
 .simp
 simp only[cond_true,zy240];omega
theorem zy304(h:SP s):0<=(zy301 s).2/\(zy301 s).2<=3:=by
 have:=h.zy64
 rw[zy301];cases Ft s
 .exact this
 cases hb:ltB 0 s.d9
 .simp
 have:=zy77 hb
 simp;omega
theorem SG.upd(h:SG s a){q r:Int}(hq:0<=q/\q<=5)(hr:0<=r/\r<=3):SG {s with eg:=q,d9:=r,ci:=(zy299 s a).2} (zy299 s a).1:=by
 obtain⟨h1,h2,_⟩:=zy303 h
 have hp:=h.sp.pd
 exact⟨{h.sp with q:=h1.quo,qu:=hq,zy64:=hr,pd:=by simp_all},h.b1,h.b2,h1⟩
theorem zy305(s:ah):(zy289 s).length<=2:=by
 rw[zy289];grind
theorem zy306(s:ah):(zy301 s).1.length<=2:=by
 have:=zy305 s
 rw[zy301];grind
theorem zy307:∀(k:Nat) (s:ah) (a:an) (r:List aF),(jK k s a r).2.2.length<=r.length+k
 |0,s,a,r=>by simp[jK]
 |k+1,s,a,r=>by
  rw[jK]
  cases uF s with
  |none=>simp
  |some x=>
   simp only
   cases ltB 0 (zy278 (em s a (x.bm.length:Int)).1 (x.bm.length:Int))
   .have:=zy307 k {(em s a (x.bm.length:Int)).1 with aK:=zj (em s a (x.bm.length:Int)).1.aK x.bm} (em s a (x.bm.length:Int)).2 (r++[zy183 (em s a (x.bm.length:Int)).1.bj (em s a (x.bm.length:Int)).1.ag (em s a (x.bm.length:Int)).1.aZ ⟨(em s a (x.bm.length:Int)).1.aK.bF,x.bm⟩])
    grind
   simp_all
theorem Vm(h:SG s a)(hm:1<=m.bI.length/\m.bI.length<=1000)(hp:POK s.jn):pD s a m=ς (zy302 s a m):=by
 have hz:({dT with bb:=s,fk:=a}:cp)=⟨s,a,[],[]⟩:=rfl
 have hqu:=h.sp.qu
 have hrt:=h.sp.zy64
 simp only[pD,vK,qv,zy146 h.sp.ok,zy147 h.mo.acc.ok,zy124 h.sp.ok,(zy250 h.sp.ok).2 h.sp,ZY,hz,zy302]
 cases hs:eqB s.bB 1
 .rfl
 have hst:=zy80 hs
 have hq:=y3 h.sp
 have hr:=zy304 h.sp
 have hqq:∀(k:Int->Option cp),(ZW (bif ltB 0 (s.aK.aM.length:Int) then(ZW (Cs 5 (WR (s.eg+1))) λr9=>ς r9) else ς 0) k)=k (zy300 s):=λk=>by
  rw[zy300,Ft,bM (n:=s.eg+1) oaa,zy242]
  grind
 have hrr:∀(u:dy) (k:List aF×Int->Option cp),SG {s with eg:=zy300 s,d9:=3,ci:=u} (zy299 s a).1->
  (ZW (bif ltB 0 (s.aK.aM.length:Int) then ς (ltB 0 s.d9) else ς η) λ(v11:Bool)=>ZW (bif v11 then(ς (([]:List aF),WR (s.d9-1))) else(ZW (bif ltB 0 (s.aK.aM.length:Int) then(ZW (ml {s with eg:=zy300 s,d9:=3,ci:=u}) λr16=>ς (r16,3)) else(ς (([]:List aF),s.d9))) λx=>ς (x.1,x.2))) k)=k ((zy301 s).1,(zy301 s).2):=λu k hu=>by
  rw[zy301,Ft,bM (n:=s.d9-1) oaa,zy291 hu]
  cases ltB 0 (s.aK.aM.length:Int)<;>cases ltB 0 s.d9<;>rfl
 have hl:cN 64 ((zy301 s).1++(jK 2 {s with eg:=zy300 s,d9:=(zy301 s).2,ci:=(zy299 s a).2} (zy299 s a).1 []).2.2).length=true:=by
  have h1:=zy306 s
  have h2:=zy307 2 {s with eg:=zy300 s,d9:=(zy301 s).2,ci:=(zy299 s a).2} (zy299 s a).1 []
  simp only[Z0] at h2
  exact cE oaa (by simp;omega)
 have hu:=h.upd hq (show(0:Int)<=3/\(3:Int)<=3 by omega)
 have hv:=h.upd hq hr
 have hw:=h.upd hq h.sp.zy64
 have hpp:POK ({s with eg:=zy300 s,ci:=(zy299 s a).2}:ah).jn:=hp
 have zy131:=zy298 (s:={s with eg:=zy300 s,ci:=(zy299 s a).2}) hw.sp hw.mo.acc hpp hm
 have e2:=zy287 hv hst
 rw[zy299] at hu zy131 e2 hl
 simp only[au]
 rw[MI,zy299]
 cases hg:leB s.jj.fF s.ci.fK
 .rw[hg] at hu zy131 e2 hl
  simp only[cond_false] at hu zy131 e2 hl ⊢
  have hu':=hrr s.ci
  rw[zy299,hg] at hu'
  rw[hqq]
  cases ltB 4 (zy300 s)
  .simp_all
  simp_all
 rw[hg] at hu zy131 e2 hl
 simp only[cond_true] at hu zy131 e2 hl ⊢
 have hu':=hrr (zy275 a s.ci).2
 rw[zy299,hg] at hu'
 simp only[zy277 h.mo,ZY]
 rw[hqq]
 cases ltB 4 (zy300 s)
 .simp_all
 simp_all
structure RP(r:aX):Prop where
 ok:zy85 r
 v:zy107 r=ζ
 b1:∀x∈r.aA,okB x.bm
 b2:∀p∈r.a8,okB p.bm
structure DP(d:ax):Prop where
 card:xH d.dZ=ζ
 st:0<=d.bB/\d.bB<=3
 ce:0<=d.bg/\d.bg<=5
 gn:0<=d.ag/\d.ag<=999999
 ep:0<=d.aZ/\d.aZ<=999999
 rk:0<=d.bj/\d.bj<=2147483646
 k:2<=d.bB->zy98 d.bj=ζ
 wt:0<=d.hP/\d.hP<=3
 rc:RP d.bL
theorem DP.ok{d:ax}(h:DP d):zy86 d:=h.rc.ok
theorem DP.v{d:ax}(h:DP d):nQ d=true:=by
 have:=h.st
 simp only[nQ,hV,zy73]
 refine⟨h.card,h.st,h.ce,h.gn,h.ep,h.rk,?_,h.wt,h.rc.v⟩
 cases e:inR d.bB 2 3
 .rfl
 rw[zy73] at e;rw[h.k e.1];rfl
theorem DP.of{d:ax}(h:nQ d=ζ)(ok:zy86 d)(b1:∀x∈d.bL.aA,okB x.bm)(b2:∀p∈d.bL.a8,okB p.bm):DP d:=by
 simp only[nQ,hV,zy73] at h
 obtain⟨h1,h2,h3,h4,h5,h6,h7,h8,h9⟩:=h
 refine⟨h1,h2,h3,h4,h5,h6,λe=>?_,h8,⟨ok,h9,b1,b2⟩⟩
 rw[zy73.2 ⟨e,h2.2⟩] at h7;simp_all
theorem zy308{d:ax}(h:DP d):DP (nW d).bk:=by
 have hw:=h.wt
 rw[nW]
 cases hb:ltB 0 d.hP
 .cases eqB d.bB 1
  .cases eqB d.bB 2&&!d.dx
   .exact h
   exact {h with wt:=⟨by simp,by simp⟩}
  exact {h with wt:=⟨by simp,by simp⟩}
 have:=zy77 hb
 exact {h with wt:=⟨by grind,by grind⟩}
theorem PC{d:ax}(h:DP d):DP (dOn d).bk:=by
 rw[dOn]
 cases eqB d.bB 0
 .exact h
 exact {h with st:=⟨by simp,by simp⟩,wt:=⟨by simp,by simp⟩,k:=λe=>by simp at e}
theorem zy309{d:ax}(h:DP d):DP (xM d).bk:={h with wt:=⟨by simp[xM],by simp[xM]⟩}
theorem BW{d:ax}(h:DP d)(c:Int):DP (uz d c).bk:=by
 have he:=h.ep
 rw[uz]
 cases h1:eqB c d.bg||!inR c 0 5
 .simp only[Yt,Z3] at h1
  have hc:=zy73.1 h1.2
  cases h2:eqB d.bB 2&&ltB d.aZ 999999
  .exact {h with ce:=hc}
  rw[hV] at h2
  have:=zy77 h2.2
  exact zy309 {h with ce:=hc,ep:=⟨by grind,by grind⟩}
 exact h
theorem Hy{d:ax}(h:DP d):DP (zy214 d):=by
 rw[zy214]
 cases e:eqB d.bB 2
 .exact h
 have e:=zy80 e
 exact {h with st:=⟨by simp,by simp⟩,k:=λ_=>h.k (by omega)}
theorem M1{k r q:Int}(h0:0<=q)(h1:q<=999999):1<=(vec k r q).gS/\(vec k r q).gS<=2147483646:=by
 rw[vec,zy73.2 ⟨h0,h1⟩];exact zy192 _ _
theorem zy310{m:aT}(h:nX m=ζ):(1<=m.bp/\m.bp<=8)/\(0<=m.bg/\m.bg<=5)/\(0<=m.ag/\m.ag<=999999)/\(0<=m.aZ/\m.aZ<=999999)/\0<=m.bZ/\m.bZ<=1000000000000:=by
 simp only[nX,hV,zy73] at h;exact h
theorem zy311{d:ax}(h:DP d){m:aT}(hm:nX m=ζ)(h1:d.bB=1):DP (zy213 d m).bk:=by
 obtain⟨_,_,hg,_⟩:=zy310 hm
 have hu:=zy191 d.dZ.gS m.cj.fT m.cj.ji
 have hk:=M1 (k:=d.dZ.gS) (r:=m.cj.fT) hu.1 hu.2
 rw[zy213]
 cases eqB (zy194 d.dZ.gS d.dZ.dq m.cj) 0
 .exact h
 refine {h with card:=?_,gn:=hg,rk:=⟨by grind,by simp_all⟩,k:=λe=>by simp_all}
 have hc:=h.card
 simp only[xH,hV] at hc ⊢
 exact⟨hc.1,hc.2.1,zy73.2 hu⟩
theorem zy312{d:ax}(h:DP d)(m:aT):DP (xO d m).bk:=by
 have he:=h.ep
 rw[xO]
 cases h1:!nX m||(!eqB m.bg d.bg||eqB d.bB 0)
 .have hm:nX m=true:=by revert h1;cases nX m<;>simp
  obtain⟨_,_,hg,hep,_⟩:=zy310 hm
  simp only[cond_false]
  cases h2:eqB m.bp 2&&eqB d.bB 1
  .simp only[cond_false]
   cases h4:eqB m.bp 4&&(eqB d.bB 1&&(zy98 d.bj&&(eqB m.ag d.ag&&zy187 d.bj m)))
   .simp only[cond_false]
    cases h6:eqB m.bp 6&&(eqB d.bB 2&&(eqB m.ag d.ag&&(eqB m.aZ d.aZ&&zy187 d.bj m)))
    .simp only[cond_false]
     cases h7:eqB m.bp 7&&(eqB d.bB 3&&ltB d.aZ 999999)
     .simp only[cond_false]
      cases h8:eqB m.bp 7&&eqB d.bB 2
      .exact h
      exact zy309 h
     simp only[hV] at h7
     have h3:=zy80 h7.2.1
     have:=zy77 h7.2.2
     exact zy309 {h with st:=⟨by simp,by simp⟩,ep:=⟨by grind,by grind⟩,k:=λ_=>h.k (by omega)}
    exact {h with}
   simp only[hV] at h4
   exact {h with st:=⟨by simp,by simp⟩,ep:=hep,k:=λ_=>h4.2.2.1}
  rw[hV] at h2
  exact zy311 h hm (zy80 h2.2)
 exact h
theorem zy313:∀(xs:List ab) (n:Int) (dl:List b8),∃t d,xs=t++d/\zy202 xs n dl=⟨n+t.length,d,dl++t.map λx=>⟨x.bm⟩⟩/\(∀(k:Nat) (x:ab),t[k]?=ς x->x.c9=n+k)/\((∃y ys,d=y::ys/\(y.c9≠n+t.length\/24<=dl.length+t.length))\/d=[])/\(t≠[]->dl.length+t.length<=24)
 |[],n,dl=>⟨[],[],rfl,by simp[zy202],by simp,.inr rfl,by simp⟩
 |x::xs,n,dl=>by
  rw[zy202]
  by_cases h:x.c9=n/\dl.length<24
  .rw[if_pos h]
   obtain⟨t,d,zy131,e2,e3,e4,e5⟩:=zy313 xs (n+1) (dl++[⟨x.bm⟩])
   refine⟨x::t,d,by rw[zy131];rfl,?_,λk y hy=>?_,?_,λ_=>?_⟩
   .rw[e2];simp;omega
   .cases k with
    |zero=>simp_all
    |succ k=>grind
   .grind
   simp only[Yk]
   by_cases ht:t=[]
   .grind
   grind
  rw[if_neg h]
  refine⟨[],x::xs,rfl,by simp,by simp,.inl ⟨x,xs,rfl,?_⟩,by simp⟩
  grind
structure RcV(r:aX):Prop where
 n:r.bF=(r.a8.length:Int)+1
 l:r.a8.length<=24
 d:∀p∈r.a8,p.bm.length<=60
 pl:r.aA.length<=8
 pr:∀x∈r.aA,r.bF+1<=x.c9/\x.c9<=r.bF+7/\x.bm.length<=60
 po:r.aA.Pairwise λx y=>x.c9<y.c9
theorem zy314:zy107 r=ζ↔RcV r:=by
 constructor
 .intro h
  have hl:=zy206 h
  simp only[zy107,hV,zJ,Ym,zy246,zy94] at h
  obtain⟨h1,h2,h3,h4,h5⟩:=h
  have hp:∀(k:Nat) (x:ab),r.aA[k]?=ς x->(r.bF+1<=x.c9/\x.c9<=r.bF+7)/\nZ ab.c9 r.aA k x=ζ/\x.bm.length<=60:=λk x hx=>by
   have:=h5 k x hx
   simp only[Ex,hV,zy73,zy246] at this
   rw[bM (n:=r.bF+1) oaa,bM (n:=r.bF+8) oaa,bM (n:=r.bF+8-1) oaa] at this
   grind
  refine⟨hl.1,hl.2.1,h3,hl.2.2,λx hx=>?_,zy228 λk x hx=>(hp k x hx).2.1⟩
  obtain⟨k,hk⟩:=Yr hx
  grind
 rintro⟨h1,h2,h3,h4,h5,h6⟩
 simp only[zy107,hV,zJ,Ym,zy246,zy94]
 refine⟨eqB_t.2 (by rw[bM oaa];exact h1),leB_t.2 oaa,h3,leB_t.2 oaa,λk x hx=>?_⟩
 have:=h5 x (Yh hx)
 simp only[Ex,hV,zy73,zy246]
 rw[bM (n:=r.bF+1) oaa,bM (n:=r.bF+8) oaa,bM (n:=r.bF+8-1) oaa]
 exact⟨by omega,Bg h6 hx,this.2.2⟩
theorem zy315{α:Type}{key:α->Int}:∀{xs:List α} {a b:Int},(xs.Pairwise λx y=>key x<key y)->(∀x∈xs,a<=key x/\key x<=b)->(xs.length:Int)<=max 0 (b-a+1)
 |[],a,b,_,_=>by simp;omega
 |x::xs,a,b,h,hr=>by
  have hx:=hr x (by simp)
  have ih:=zy315 (xs:=xs) (a:=key x+1) (b:=b) (Z2.1 h).2 λy hy=>⟨by have:=(Z2.1 h).1 y hy;omega,(hr y (by simp[hy])).2⟩
  grind
theorem VE{x:ab}:∀{xs:List ab},(xs.Pairwise λa b=>a.c9<b.c9)->∀y∈xs.dropWhile (zy200 x.c9),x.c9<=y.c9
 |[],_,y,hy=>by simp at hy
 |z::xs,h,y,hy=>by
  rw[aaq] at hy
  cases hb:zy200 x.c9 z<;>rw[hb] at hy
  .have hz:=zy78 hb
   rcases Yl.1 hy with e|hy
   .simp_all
   have:=(Z2.1 h).1 y hy;omega
  exact VE (Z2.1 h).2 y hy
theorem zy316{α:Type}(p:α->Bool):∀(xs:List α) (y:α),y∈xs.takeWhile p->p y=ζ
 |[],y,h=>by simp at h
 |x::xs,y,h=>by
  rw[aab] at h
  cases hp:p x<;>rw[hp] at h
  .simp at h
  rcases Yl.1 h with e|h
  .simp_all
  exact zy316 p xs y h
theorem tw_lt{q:Int}{xs:List ab}:∀y∈xs.takeWhile (zy200 q),y.c9<q:=λy hy=>zy77 (show ltB y.c9 q=ζ from zy316 (zy200 q) xs y hy)
theorem Qt{xs:List ab}(h:xs.Pairwise λa b=>a.c9<b.c9)(hn:∀y∈xs,y.c9≠x.c9):(zy201 x xs).Pairwise λa b=>a.c9<b.c9:=by
 have e:=aai (p:=zy200 x.c9) (l:=xs)
 rw[<-e,Z9] at h
 obtain⟨h1,h2,h3⟩:=h
 rw[zy201,List.append_assoc,Z9]
 refine⟨h1,Z2.2 ⟨λy hy=>?_,h2⟩,λa ha b hb=>?_⟩
 .have hm:y∈xs:=aaj _ hy
  have:=hn y hm
  have hge:x.c9<=y.c9:=by
   have hs:xs.Pairwise λa b=>a.c9<b.c9:=by rw[<-e,Z9];exact⟨h1,h2,h3⟩
   exact VE hs y hy
  omega
 rcases Yi.1 hb with hb|hb
 .simp at hb;subst hb;exact tw_lt a ha
 simp_all
theorem Ci{y:ab}{xs:List ab}:y∈zy201 x xs↔y=x\/y∈xs:=by
 rw[zy201]
 constructor
 .intro h
  simp only[Yi,Y9] at h
  rcases h with(h|h)|h
  .exact .inr (aap _ h)
  .exact .inl h
  exact .inr (aaj _ h)
 rintro(h|h)
 .simp[h]
 rw[<-aai (p:=zy200 x.c9) (l:=xs)] at h
 grind
theorem KQ(h:RcV r)(hl:zy203 r x=η):
 ∃t d,zy201 x r.aA=t++d/\(∀(k:Nat) (y:ab),t[k]?=ς y->y.c9=r.bF+k)/\(o4 r x).bF=r.bF+t.length/\(o4 r x).a8=r.a8++t.map (λy=>⟨y.bm⟩)/\RcV (o4 r x)/\
  ((o4 r x).aA=d\/(o4 r x).aA=[])/\r.a8.length+t.length<=24/\(x.c9=r.bF->t≠[]):=by
 obtain⟨t,d,zy131,e2,e3,e4,e5⟩:=zy313 (zy201 x r.aA) r.bF r.a8
 have hl2:=hl
 simp only[zy203,Yt,Z3] at hl
 obtain⟨l1,l2,l3,l4,l5⟩:=hl
 have l2:=zy78 l2
 rw[zy73] at l3
 have l5:=zy79 l5
 have hn:∀y∈r.aA,y.c9≠x.c9:=λy hy=>by
  simp_all
 have hasc:=Qt h.po hn
 have hrng:∀y∈zy201 x r.aA,r.bF<=y.c9/\y.c9<=r.bF+7/\y.bm.length<=60:=λy hy=>by
  rcases Ci.1 hy with rfl|hy
  .omega
  have:=h.pr y hy;omega
 have hlen:=zy315 (key:=ab.c9) hasc (a:=r.bF) (b:=r.bF+7) λy hy=>⟨(hrng y hy).1,(hrng y hy).2.1⟩
 have htl:r.a8.length+t.length<=24:=by
  by_cases ht:t=[]
  .grind
  exact e5 ht
 have hd:∀y∈d,r.bF+t.length<=y.c9:=λy hy=>by
  by_cases ht:t=[]
  .simp_all
  obtain⟨k,hk⟩:∃k,t.length=k+1:=⟨t.length-1,by have:=aan.2 ht;omega⟩
  grind
 have hdl:(r.a8++t.map λy=>(⟨y.bm⟩:b8)).length=r.a8.length+t.length:=by simp
 have hdata:∀p∈r.a8++t.map λy=>(⟨y.bm⟩:b8),p.bm.length<=60:=λp hp=>by
  rcases Yi.1 hp with hp|hp
  .exact h.d p hp
  obtain⟨y,hy,rfl⟩:=Y7.1 hp
  simp_all
 have hnx:=h.n
 have hsome:x.c9=r.bF->t≠[]:=λe ht=>by
  subst ht
  simp only[Y8] at zy131
  rcases e4 with⟨y,ys,e,h4⟩|e
  .simp only[Z0] at h4
   have hy:y.c9<=x.c9:=by
    have hx:x∈d:=by rw[<-zy131];exact Ci.2 (.inl rfl)
    rw[e] at hx
    rcases Yl.1 hx with e'|hx
    .simp_all
    rw[zy131,e] at hasc
    have:=(Z2.1 hasc).1 x hx
    omega
   grind
  have:(zy201 x r.aA).length=0:=by rw[zy131,e];rfl
  rw[zy207] at this;omega
 refine⟨t,d,zy131,e3,?_⟩
 rw[o4,hl2]
 simp only[cond_false,e2,hdl]
 cases h24:leB 24 ((r.a8.length+t.length:Nat):Int)
 .have h24:=zy79 h24
  simp only[cond_false]
  refine⟨θ,θ,⟨by grind,by simp_all,hdata,?_,λy hy=>?_,?_⟩,.inl trivial,htl,hsome⟩
  .grind
  .have h1:=hrng y (by simp_all)
   have h2:=hd y hy
   refine⟨?_,by grind,h1.2.2⟩
   simp only
   rcases e4 with⟨z,zs,e,h4⟩|e
   .have hz:=hd z (by rw[e];simp)
    have hzn:z.c9≠r.bF+t.length:=by rcases h4 with h4|h4;exact h4;omega
    rw[e] at hy
    rcases Yl.1 hy with e'|hy'
    .grind
    rw[zy131,e,Z9] at hasc
    have:=(Z2.1 hasc.2.1).1 y hy'
    omega
   simp_all
  grind
 have h24:=vi h24
 simp only[cond_true]
 exact⟨θ,θ,⟨by grind,by simp_all,hdata,by simp,by simp,.nil⟩,.inr trivial,htl,hsome⟩
theorem zy317(h:RP r)(hx:okB x.bm):RP (o4 r x):=by
 cases hl:zy203 r x
 .have hv:=zy314.1 h.v
  obtain⟨t,d,zy131,e3,e4,e5,e6,e7,e8,e9⟩:=KQ hv hl
  have hb:∀y∈t++d,okB y.bm:=λy hy=>by
   rw[<-zy131] at hy
   rcases Ci.1 hy with rfl|hy
   .exact hx
   exact h.b1 y hy
  refine⟨zy220 h.ok x,zy314.2 e6,λy hy=>?_,λp hp=>?_⟩
  .grind
  rw[e5] at hp
  rcases Yi.1 hp with hp|hp
  .exact h.b2 p hp
  grind
 rw[o4,hl];exact h
theorem Ri(root g e:Int)(x:aF):okB (zy185 root g e x).1.bm:=by
 rw[zy185];split
 .exact zy176 _ _
 intro y hy;simp[kV] at hy
theorem zy318{d:ax}(h:DP d)(x:aF):DP (xN d x).bk:=by
 simp only[xN]
 cases eqB d.bB 2&&(zy185 d.bj d.ag d.aZ x).2
 .exact h
 exact {h with rc:=zy317 h.rc (Ri _ _ _ _)}
theorem zy319:zy102 gM=true:=by decide+kernel
theorem zy320{k:Int}:∀{xs:List ab} {f:Int},(∀(i:Nat) (x:ab),xs[i]?=ς x->x.c9=f+i)->(xs.filter λx=>leB k x.c9)=xs.drop (k-f).toNat
 |[],f,_=>by simp
 |x::xs,f,h=>by
  have hx:x.c9=f:=by have:=h 0 x rfl;simpa using this
  have ih:=zy320 (k:=k) (xs:=xs) (f:=f+1) λi y hy=>by have:=h (i+1) y (by simp_all);omega
  rw[List.filter_cons,hx]
  by_cases hk:k<=f
  .rw[leB_t.2 hk,if_pos rfl,ih,show(k-f).toNat=0 by omega,show(k-(f+1)).toNat=0 by omega];rfl
  rw[leB_f.2 oaa,if_neg (by simp),ih,show(k-f).toNat=(k-(f+1)).toNat+1 by omega];rfl
theorem zy321(h:WOK w){k:Int}(hk:ltB w.bF k=η):zy257 w k=⟨w.bF,w.aM.drop (k-(w.bF-w.aM.length)).toNat⟩:=by
 rw[zy257,hk,zy320 (f:=w.bF-w.aM.length) λi x hx=>(h.u i x hx).1];rfl
theorem BA(h:WOK w)(k:Int):WOK (zy257 w k):=by
 cases hk:ltB w.bF k
 .have hl:=h.l
  have hf:=h.f
  have hn:=h.n
  rw[zy321 h hk]
  generalize (k-(w.bF-w.aM.length)).toNat=m
  refine⟨hn,by simp;omega,by simp;omega,λi x hx=>?_⟩
  simp only at hx ⊢
  rw[List.getElem?_drop] at hx
  have hi:=(Yg.1 hx).1
  have:=h.u _ x hx
  grind
 rw[zy257,hk];exact h
theorem BB(w:be)(k:Int):∀x∈(zy257 w k).aM,x∈w.aM:=λx hx=>by
 rw[zy257] at hx;grind
theorem Pc(h:WOK w)(k:Int):0<=zy248 (zy257 w k).aM/\zy248 (zy257 w k).aM<=zy248 w.aM:=by
 have h1:=w6 λx hx=>h.d x (BB w k x hx)
 refine⟨h1.1,?_⟩
 cases hk:ltB w.bF k
 .have:=zy267 h hk
  have h2:=w6 (xs:=w.aM.filter λx=>ltB x.c9 k) λx hx=>h.d x (List.mem_filter.1 hx).1
  omega
 rw[zy257,hk];simp_all
theorem JE{n:Int}(h:0<=n/\n<=q.cV-q.fK):zy258 q n={q with fK:=q.fK+n}:=by rw[zy258,zy73.2 h];rfl
theorem zy322(h:SG s a)(k:Int):SG (zy259 s k) a/\(zy259 s k).ci={s.ci with fK:=s.ci.fK+(zy248 s.aK.aM-zy248 (zy257 s.aK k).aM)}:=by
 have hs:=Pc h.sp.win k
 have hp:=h.sp.pd
 have hq:=h.sp.q
 have e:(zy259 s k).ci={s.ci with fK:=s.ci.fK+(zy248 s.aK.aM-zy248 (zy257 s.aK k).aM)}:=JE ⟨by omega,by omega⟩
 have hu:=hq.u
 have hg:=hq.g
 have hq':QOK (zy259 s k).ci:=by rw[e];exact⟨hq.i,by grind,by grind,hq.m⟩
 refine⟨⟨{h.sp with ok:=⟨h.sp.ok.1,h.sp.ok.2.1,(BA h.sp.win k).ok⟩,win:=BA h.sp.win k,q:=hq',qu:=⟨by simp[zy259],by simp[zy259]⟩,nx:=?_,un:=λx hx=>h.sp.un x (BB _ _ x hx),pd:=?_},h.b1,λx hx=>h.b2 x (BB _ _ x hx),⟨h.mo.acc,hq',?_⟩⟩,e⟩
 .have:(zy259 s k).aK.bF=s.aK.bF:=by simp only[zy259,zy257];cases ltB s.aK.bF k<;>rfl
  rw[this];exact h.sp.nx
 .rw[e];simp only[zy259];omega
 rw[e];exact h.mo.res
theorem zy323(h:SG s a)(m:aT):SG (zy252 s m).bb a:=by
 have hr:=zy263 h.sp.rcd
 simp only[zy252]
 cases he:eqB s.b7.c9 999999
 .have he:=zy81 he
  have hk:=M1 (k:=s.b7.gS) (r:=JB s.b7.ID (s.b7.c9+1)) (q:=s.b7.c9+1) oaa oaa
  refine⟨{h.sp with rcd:=?_,k2:=λ_=>?_,ps:=⟨by grind,by grind⟩},h.b1,h.b2,h.mo⟩
  .have hc:=h.sp.rcd
   simp only[zy101,hV] at hc
   simp only[cond_false,zy101,hV]
   exact⟨hc.1,hc.2.1,zy73.2 oaa⟩
  exact zy73.2 hk
 exact h
theorem zy324(h:SG s a){c:Int}(hc:0<=c/\c<=5)(hp:0<s.bO)(he:s.aZ<999999):SG (zy253 s c) a:=by
 have hk:=h.sp.k2 hp
 have hkr:=zy73.1 hk
 have hep:=h.sp.ep
 exact⟨{h.sp with page:=zy319,st:=⟨by simp[zy253],by simp[zy253]⟩,k1:=λ_=>hk,k2:=λe=>by simp[zy253] at e,ps:=⟨by simp[zy253],by simp[zy253]⟩,gn:=h.sp.ps,ep:=⟨by simp only[zy253];omega,by simp only[zy253];omega⟩,rk:=⟨by simp only[zy253];omega,by simp only[zy253];omega⟩,ce:=hc,qu:=⟨by simp[zy253],by simp[zy253]⟩},h.b1,h.b2,h.mo⟩
theorem R5(h:SG s a){m:aT}(hm:nX m=ζ):SG (zy254 s m).bb a:=by
 obtain⟨_,hc,_⟩:=zy310 hm
 rw[zy254]
 cases hb:leB s.bO 0||(!eqB m.ag s.bO||(!eqB m.bZ s.aA.uH||leB 999999 s.aZ))
 .simp only[Yt] at hb
  exact zy324 h hc (zy79 hb.1) (zy79 hb.2.2.2)
 exact h
theorem R3(h:SG s a){m:aT}(hm:nX m=ζ):SG (zy256 s m).bb a:=by
 obtain⟨_,hc,_,he,_⟩:=zy310 hm
 rw[zy256]
 cases !uE s m||(ltB m.aZ s.aZ||(eqB m.aZ s.aZ&&!eqB m.bg s.bg))
 .exact⟨{h.sp with page:=zy319,ep:=he,ce:=hc,qu:=⟨by simp[zy255],by simp[zy255]⟩,zy64:=⟨by simp[zy255],by simp[zy255]⟩},h.b1,h.b2,h.mo⟩
 exact h
theorem UV(h:SG s a)(m:aT):SG (zy260 s m).bb a:=by
 rw[zy260]
 cases !uE s m||ltB s.aK.bF m.bZ
 .exact(zy322 h m.bZ).1
 exact h
theorem Xk(h:SG s a)(m:aT):SG (sUp s m).bb a:=by
 rw[sUp]
 cases hm:nX m
 .exact h
 cases eqB m.bp 1
 .cases eqB m.bp 3
  .cases eqB m.bp 5
   .cases eqB m.bp 8
    .exact h
    exact UV h m
   exact R3 h hm
  exact R5 h hm
 exact zy323 h m
theorem RS(h:SG s a):SG (zy261 s) a:=
 ⟨{h.sp with page:=zy319,k2:=λe=>by simp[zy261] at e,ps:=⟨by simp[zy261],by simp[zy261]⟩,qu:=⟨by simp[zy261],by simp[zy261]⟩,zy64:=⟨by simp[zy261],by simp[zy261]⟩},h.b1,h.b2,h.mo⟩
theorem zy325(h:SG s a){b:List Int}(hb:okB b):SG (zy251 s b).1 a:=by
 rw[zy251]
 cases h1:leB 24 (s.aU.length:Int)||ltB 60 (b.length:Int)
 .simp only[Yt] at h1
  have h2:=zy79 h1.1
  have h3:=zy78 h1.2
  have hnx:=h.sp.nx
  refine⟨{h.sp with ok:=⟨h.sp.ok.1,⟨by simp;omega,λp hp=>?_⟩,h.sp.ok.2.2⟩,sl:=by simp;omega,sd:=λp hp=>?_,nx:=by simp;omega,un:=λx hx=>?_},λp hp=>?_,h.b2,h.mo⟩
  .rcases Yi.1 hp with hp|hp
   .exact h.sp.ok.2.1.2 p hp
   simp at hp;subst hp;exact⟨by grind,λ_ _=>trivial⟩
  .rcases Yi.1 hp with hp|hp
   .exact h.sp.sd p hp
   grind
  .have hu:=h.sp.un x hx
   have hs:=zy290 h.sp.win hx
   simp only[DX,cond_false] at hu ⊢
   rw[Yx oaa]
   exact hu
  rcases Yi.1 hp with hp|hp
  .exact h.b1 p hp
  simp_all
 exact h
theorem zy326{p:dr}(ha:0<=p.g9/\p.g9<=2)(hp:POK p)(m:bi):zy102 (zH p m).1=true:=by
 have h1:=hp.a
 have h2:=hp.w
 rw[zH]
 simp only[zy102,hV,zy73]
 cases hb:ltB 0 p.hP
 .simp only[cond_false]
  refine⟨ha,?_,by omega⟩
  cases hc:ltB p.fR 4
  .simp
  have:=zy77 hc
  grind
 have:=zy77 hb
 grind
theorem It{p:dr}(h:zy102 p=ζ):POK p:=by
 simp only[zy102,hV,zy73] at h;exact⟨h.2.1,h.2.2⟩
theorem Ng(h:pP m=ζ)(c:Int):0<=zy295 m c/\zy295 m c<=2:=by
 rw[zy295]
 cases hc:zy134 m c
 .simp
 obtain⟨d,_,_,h2⟩:=zy137 hc
 simp only[pP,hV,zy94] at h
 have:=h.2 _ d h2
 simp only[zy136,hV,zy73] at this
 simp_all
theorem zy327(h:SG s a)(hm:pP m=ζ):SG (zy302 s a m).bb (zy302 s a m).fk:=by
 rw[zy302]
 cases eqB s.bB 1
 .exact h
 simp only[au]
 have hq:=y3 h.sp
 cases ltB 4 (zy300 s)
 .exact IQ 2 _ _ _ (h.upd hq (zy304 h.sp))
 have h1:=h.upd hq h.sp.zy64
 have hp:=It h.sp.page
 exact⟨{h1.sp with page:=zy326 (p:={s.jn with g9:=zy295 m s.bg}) (Ng hm _) ⟨hp.a,hp.w⟩ m},h1.b1,h1.b2,h1.mo⟩
structure FP(nd nc:Nat)(f:bJ):Prop where
 d:0<=f.bk/\f.bk<nd
 c:0<=f.bg/\f.bg<nc
 b:okB f.cA.bH.bm
 ok:zy91 f
structure MP(nc:Nat)(i:Nat)(d:ax)(s:ah)(a:an):Prop where
 dp:DP d
 dc:d.bg<nc
 sg:SG s a
 sc:s.bg<nc
 si:s.ci.aH=i
 ids:zy139 d s=ζ
structure NP(B:Int)(n:ae):Prop where
 map:pP n.d5=ζ
 mok:zy82 n.d5
 core:zy104 n.gT=ζ
 up:n.gT.fZ≠0
 ld:n.av.length<=4
 ls:n.aD.length=n.av.length
 la:n.bD.length=n.av.length
 m:∀(i:Nat) d s a,n.av[i]?=ς d->n.aD[i]?=ς s->n.bD[i]?=ς a->MP n.d5.bI.length i d s a
 fl:n.aV.length<=200
 fs:∀f∈n.aV,FP n.av.length n.d5.bI.length f
 dn:inR n.cP 0 (WR ((my .i64 1 (n.d5.bI.length:Int))-1))=ζ
 nw:0<=n.lI/\n.lI<=100000
 lo:0<=n.Lost/\n.Lost<=B
theorem zy328(h:pP m=ζ):1<=m.bI.length/\m.bI.length<=6:=by
 simp only[pP,hV,zy73] at h;omega
theorem NP.at_(h:NP B n)(hi:i<n.av.length):∃d s a,n.av[i]?=ς d/\n.aD[i]?=ς s/\n.bD[i]?=ς a/\MP n.d5.bI.length i d s a:=by
 have h1:=h.ls
 have h2:=h.la
 obtain⟨d,hd⟩:∃d,n.av[i]?=ς d:=⟨_,Yf hi⟩
 obtain⟨s,hs⟩:∃s,n.aD[i]?=ς s:=⟨_,Yf (show i<n.aD.length by omega)⟩
 obtain⟨a,ha⟩:∃a,n.bD[i]?=ς a:=⟨_,Yf (show i<n.bD.length by omega)⟩
 exact⟨d,s,a,hd,hs,ha,h.m i d s a hd hs ha⟩
theorem NP.mono{B':Int}(h:NP B n)(hb:B<=B'):NP B' n:={h with lo:=⟨h.lo.1,by have:=h.lo.2;omega⟩}
def zy329(n:ae)(f:bJ):ae:=bif leB 200 (n.aV.length:Int) then {n with Lost:=WR (n.Lost+1)} else {n with aV:=n.aV++[f]}
theorem zy330(hf:zy91 f):g8 n f=ς (zy329 n f):=by
 simp only[g8,zy149 hf,ZY,zy329]
 cases hb:leB 200 (n.aV.length:Int)
 .have:=zy79 hb
  rw[cE oaa (by simp;omega)];rfl
 rfl
theorem zy331(h:NP B n)(hf:FP n.av.length n.d5.bI.length f)(hB:B<4611686018427387904):NP (B+1) (zy329 n f):=by
 have hl:=h.lo
 rw[zy329]
 cases hb:leB 200 (n.aV.length:Int)
 .have hb:=zy79 hb
  refine {h.mono (show B<=B+1 by omega) with fl:=by simp;omega,fs:=λg hg=>?_}
  rcases Yi.1 hg with hg|hg
  .exact h.fs g hg
  simp_all
 exact {h.mono (show B<=B+1 by omega) with lo:=by simp only[cond_true];rw[bM oaa];omega}
theorem zy332(n:ae)(f:bJ):(zy329 n f).av=n.av/\(zy329 n f).aD=n.aD/\(zy329 n f).bD=n.bD/\(zy329 n f).d5=n.d5/\(zy329 n f).cP=n.cP/\(zy329 n f).gT=n.gT/\(zy329 n f).lI=n.lI:=by
 rw[zy329];grind
def sends(n:ae)(l:List bJ):ae:=l.foldl zy329 n
theorem zy333:∀(l:List bJ) (n:ae),(sends n l).av=n.av/\(sends n l).aD=n.aD/\(sends n l).bD=n.bD/\(sends n l).d5=n.d5/\(sends n l).cP=n.cP/\(sends n l).gT=n.gT/\(sends n l).lI=n.lI
 |[],n=>⟨rfl,rfl,rfl,rfl,rfl,rfl,rfl⟩
 |f::l,n=>by
  have h1:=zy332 n f
  have h2:=zy333 l (zy329 n f)
  have e:sends n (f::l)=sends (zy329 n f) l:=rfl
  simp_all
theorem zy334:∀(l:List bJ) {B:Int} {n:ae},NP B n->(∀f∈l,FP n.av.length n.d5.bI.length f)->B+l.length<4611686018427387904->NP (B+l.length) (sends n l)
 |[],B,n,h,_,_=>by simpa [sends] using h
 |f::l,B,n,h,hf,hB=>by
  simp only[Yk] at hB ⊢
  have h1:=zy331 h (hf f (by simp)) oaa
  have hk:=zy332 n f
  have:=zy334 l h1 (λg hg=>by simp_all) oaa
  rw[show B+((l.length+1:Nat):Int)=B+1+(l.length:Int) by omega]
  exact this
theorem zy335(g:ae->bJ->Option ae){α:Type}(mk:α->bJ)(hg:∀n x,g n (mk x)=ς (zy329 n (mk x))):∀(l:List α) (n:ae),zy60 (λ(n:ae) x=>ZW (g n (mk x)) λr=>ς (cH.next (ρ:=ae) r)) ς l n=ς (sends n (l.map mk))
 |[],n=>rfl
 |x::l,n=>by rw[zy60,hg];exact zy335 g mk hg l _
def iM(i:Int)(up:Bool)(m:aT):bJ:=⟨i,up,η,m.bg,m,ez⟩
def sB(i c:Int)(x:aF):bJ:=⟨i,η,ζ,c,eB,x⟩
theorem zy336:qm ez:=⟨by decide,λ_ _=>trivial⟩
theorem zy337(i:Int)(up:Bool)(m:aT):zy91 (iM i up m):=zy336
theorem zy338(n:ae)(i:Int)(up:Bool){l:List aT}(hl:l.length<=1048576):kD n i up l=ς (sends n (l.map (iM i up))):=by
 have:=zy61 (step:=kE i up l) l (λk n=>((k:Int),n)) (λn x=>ZW (g8 n (iM i up x)) λr=>ς (.next r)) ς oaa
  (λk x n hx hk=>by
   simp only[kE,zy65 hk,zy62,hx,WRs (k:=k),iM,au]
   simp_all) (λn=>by simp[kE]) n
 rw[zy335 g8 (iM i up) (λn x=>zy330 (zy337 i up x))] at this
 rw[kD,show iter (kE i up l) FU (0,n)=_ from this];rfl
def zy339(n:ae)(i:Nat)(r:bv):ae:=sends {n with av:=n.av.set i r.bk} (r.cT.map (iM i ζ))
theorem vr(hi:i<n.av.length){r:bv}(hr:r.cT.length<=1048576):iK n (i:Int) r=ς (zy339 n i r):=by
 simp only[iK,zy62,Yf hi,ZY,ZZ,zy338 _ _ _ hr,zy339]
theorem zy340{nd nc:Nat}(hi:i<nd){up:Bool}{m:aT}(hm:0<=m.bg/\m.bg<nc):FP nd nc (iM i up m):=
 ⟨by simp only[iM];omega,hm,λx hx=>by simp[iM,ez,fQ] at hx,zy337 _ _ _⟩
theorem zy341{xs:List α}{j:Nat}{x y:α}(h:(xs.set i x)[j]?=ς y):(i=j/\x=y)\/(i≠j/\xs[j]?=ς y):=by
 grind
theorem NP.setM(h:NP B n){d:ax}(hm:MP n.d5.bI.length i d s a):
 NP B {n with av:=n.av.set i d,aD:=n.aD.set i s,bD:=n.bD.set i a}:=by
 have h1:=h.ls
 have h2:=h.la
 refine {h with ld:=by simpa using h.ld,ls:=by simp_all,la:=by simp_all,m:=λj d' s' a' hd hs ha=>?_,fs:=λf hf=>by rw[List.length_set];exact h.fs f hf}
 rcases zy341 hd with⟨zy131,e2⟩|⟨zy131,e2⟩<;>rcases zy341 hs with⟨e3,e4⟩|⟨e3,e4⟩<;>rcases zy341 ha with⟨e5,e6⟩|⟨e5,e6⟩<;>first|omega|skip
 .simp_all
 exact h.m j d' s' a' e2 e4 e6
theorem zy342{xs:List α}{x:α}(h:xs[i]?=ς x):xs.set i x=xs:=by
 apply aaf
 grind
theorem NP.setD(h:NP B n){d:ax}(hs:n.aD[i]?=ς s)(ha:n.bD[i]?=ς a)(hm:MP n.d5.bI.length i d s a):NP B {n with av:=n.av.set i d}:=by
 have:=h.setM hm
 rwa [zy342 hs,zy342 ha] at this
theorem NP.setS(h:NP B n){d:ax}(hd:n.av[i]?=ς d)(ha:n.bD[i]?=ς a)(hm:MP n.d5.bI.length i d s a):NP B {n with aD:=n.aD.set i s}:=by
 have:=h.setM hm
 rwa [zy342 hd,zy342 ha] at this
structure DK(c:Int)(d:ax)(r:bv):Prop where
 id:r.bk.dZ.ID=d.dZ.ID
 key:r.bk.dZ.gS=d.dZ.gS
 cell:r.bk.bg=c
 sg:∀m∈r.cT,m.bg=c
 len:r.cT.length<=1
theorem DK.none(d:ax):DK d.bg d ⟨d,[]⟩:=⟨rfl,rfl,rfl,by simp,by simp⟩
theorem TZ(d:ax):DK d.bg d (xM d):=⟨rfl,rfl,rfl,by simp[xM,zy211,zy186],by simp[xM]⟩
theorem zy343{d d':ax}(h:d'.dZ=d.dZ):DK d'.bg d (xM d'):=⟨by rw[<-h];rfl,by rw[<-h];rfl,rfl,by simp[xM,zy211,zy186],by simp[xM]⟩
theorem yB(d:ax):DK d.bg d (nW d):=by
 rw[nW]
 cases ltB 0 d.hP<;>cases eqB d.bB 1<;>cases eqB d.bB 2&&!d.dx<;>exact⟨rfl,rfl,rfl,by simp[zy212,zy211,zy186],by simp⟩
theorem FB(d:ax):DK d.bg d (dOn d):=by
 rw[dOn];cases eqB d.bB 0<;>exact⟨rfl,rfl,rfl,by simp[zy212],by simp⟩
theorem zy344(d:ax)(m:aT):DK d.bg d (xO d m):=by
 rw[xO]
 cases !nX m||(!eqB m.bg d.bg||eqB d.bB 0)
 .simp only[cond_false]
  cases eqB m.bp 2&&eqB d.bB 1
  .simp only[cond_false]
   cases eqB m.bp 4&&(eqB d.bB 1&&(zy98 d.bj&&(eqB m.ag d.ag&&zy187 d.bj m)))
   .simp only[cond_false]
    cases eqB m.bp 6&&(eqB d.bB 2&&(eqB m.ag d.ag&&(eqB m.aZ d.aZ&&zy187 d.bj m)))
    .simp only[cond_false]
     cases eqB m.bp 7&&(eqB d.bB 3&&ltB d.aZ 999999)
     .simp only[cond_false]
      cases eqB m.bp 7&&eqB d.bB 2
      .exact .none d
      exact TZ d
     exact zy343 (d:=d) (d':={d with bB:=2,aZ:=d.aZ+1}) rfl
    exact⟨rfl,rfl,rfl,by simp,by simp⟩
   exact⟨rfl,rfl,rfl,by simp,by simp⟩
  simp only[cond_true,zy213]
  cases eqB (zy194 d.dZ.gS d.dZ.dq m.cj) 0<;>exact⟨rfl,rfl,rfl,by simp,by simp⟩
 exact .none d
theorem FD(d:ax)(x:aF):DK d.bg d (xN d x):=by
 simp only[xN]
 cases eqB d.bB 2&&(zy185 d.bj d.ag d.aZ x).2
 .exact .none d
 exact⟨rfl,rfl,rfl,by simp[TY,zy186],by simp⟩
theorem BV(d:ax)(c:Int):DK d.bg d (uz d c)\/(0<=c/\c<=5)/\DK c d (uz d c):=by
 rw[uz]
 cases h:eqB c d.bg||!inR c 0 5
 .simp only[Yt,Z3] at h
  right;refine⟨zy73.1 h.2,?_⟩
  simp only[cond_false]
  cases eqB d.bB 2&&ltB d.aZ 999999
  .exact⟨rfl,rfl,rfl,by simp,by simp⟩
  exact zy343 (d:=d) (d':={d with bg:=c,aZ:=d.aZ+1}) rfl
 exact .inl (.none d)
structure SK(c:Int)(s:ah)(r:bU):Prop where
 id:r.bb.b7.ID=s.b7.ID
 key:r.bb.b7.gS=s.b7.gS
 si:r.bb.ci.aH=s.ci.aH
 cell:r.bb.bg=s.bg\/r.bb.bg=c
 sg:∀m∈r.cT,m.bg=c
 len:r.cT.length<=1
 sub:r.bb.aU=s.aU
theorem SK.none(c:Int)(s:ah):SK c s ⟨s,[]⟩:=⟨rfl,rfl,rfl,.inl rfl,by simp,by simp,rfl⟩
theorem zy345(s:ah)(m:aT):SK m.bg s (sUp s m):=by
 rw[sUp]
 cases nX m
 .exact .none _ s
 simp only[au]
 cases eqB m.bp 1
 .simp only[cond_false]
  cases eqB m.bp 3
  .simp only[cond_false]
   cases eqB m.bp 5
   .simp only[cond_false]
    cases eqB m.bp 8
    .exact .none _ s
    simp only[cond_true,zy260]
    cases !uE s m||ltB s.aK.bF m.bZ
    .refine⟨rfl,rfl,?_,.inl rfl,by simp,by simp,rfl⟩
     simp only[cond_false,zy259,zy258]
     grind
    exact .none _ s
   simp only[cond_true,zy256]
   cases !uE s m||(ltB m.aZ s.aZ||(eqB m.aZ s.aZ&&!eqB m.bg s.bg))
   .exact⟨rfl,rfl,rfl,.inr rfl,by simp[wP,zy186,zy255],by simp,rfl⟩
   exact .none _ s
  simp only[cond_true,zy254]
  cases leB s.bO 0||(!eqB m.ag s.bO||(!eqB m.bZ s.aA.uH||leB 999999 s.aZ))
  .exact⟨rfl,rfl,rfl,.inr rfl,by simp[wP,zy186,zy253],by simp,rfl⟩
  exact .none _ s
 simp only[cond_true,zy252]
 cases eqB s.b7.c9 999999
 .exact⟨rfl,rfl,rfl,.inl rfl,by simp,by simp,rfl⟩
 exact .none _ s
theorem MP.dev{nc:Nat}{d:ax}(h:MP nc i d s a){c:Int}{r:bv}(hk:DK c d r)(hd:DP r.bk)(hc:c<nc):MP nc i r.bk s a:=by
 refine⟨hd,by rw[hk.cell];exact hc,h.sg,h.sc,h.si,?_⟩
 have:=h.ids
 simp only[zy139,hk.id,hk.key] at this ⊢;exact this
theorem MP.ses{nc:Nat}{d:ax}(h:MP nc i d s a){c:Int}{r:bU}(hk:SK c s r)(hs:SG r.bb a)(hc:c<nc):MP nc i d r.bb a:=by
 refine⟨h.dp,h.dc,hs,?_,by rw[hk.si];exact h.si,?_⟩
 .rcases hk.cell with e|e<;>rw[e]
  .exact h.sc
  exact hc
 have:=h.ids
 simp only[zy139,hk.id,hk.key] at this ⊢;exact this
theorem om(h:NP B n){d:ax}(hd:n.av[i]?=ς d){c:Int}{r:bv}(hk:DK c d r)(hr:DP r.bk)(hc:c<n.d5.bI.length)(hB:B+1<4611686018427387904):NP (B+1) (zy339 n i r):=by
 have hi:=(Yg.1 hd).1
 obtain⟨d',s,a,h1,h2,h3,hm⟩:=h.at_ hi
 rw[hd] at h1;cases h1
 have hn:=h.setD h2 h3 (hm.dev hk hr hc)
 have hl:=hk.len
 have:=zy334 (r.cT.map (iM i ζ)) hn (λf hf=>by
  obtain⟨m,hm',rfl⟩:=Y7.1 hf
  rw[show({n with av:=n.av.set i r.bk}:ae).av.length=n.av.length by simp]
  refine zy340 hi ?_
  rw[hk.sg m hm',<-hk.cell];exact⟨hr.ce.1,by rw[hk.cell];exact hc⟩) (by simp;omega)
 exact this.mono (by simp;omega)
def Ag(n:ae)(i:Nat)(r:bU):ae:=sends {n with aD:=n.aD.set i r.bb} (r.cT.map (iM i η))
theorem zy346(h:NP B n)(hs:n.aD[i]?=ς s){c:Int}{r:bU}(hk:SK c s r)(hr:∀a,SG s a->SG r.bb a)(hc:0<=c/\c<n.d5.bI.length)(hB:B+1<4611686018427387904):NP (B+1) (Ag n i r):=by
 have hi:=(Yg.1 hs).1
 have hls:=h.ls
 obtain⟨d,s',a,h1,h2,h3,hm⟩:=h.at_ (show i<n.av.length by omega)
 rw[hs] at h2;cases h2
 have hn:=h.setS h1 h3 (hm.ses hk (hr a hm.sg) hc.2)
 have hl:=hk.len
 have:=zy334 (r.cT.map (iM i η)) hn (λf hf=>by
  obtain⟨m,hm',rfl⟩:=Y7.1 hf
  refine zy340 (show i<n.av.length by omega) ?_
  rw[hk.sg m hm'];exact hc) (by simp;omega)
 exact this.mono (by simp;omega)
def zy347(n:ae)(k:Nat):ae:={n with aV:=n.aV.take k++n.aV.drop (k+1)}
theorem zy348(h:NP B n)(k:Nat):NP B (zy347 n k):=by
 have:=h.fl
 refine {h with fl:=by simp[zy347];omega,fs:=λf hf=>?_}
 have:f∈n.aV:=by
  simp only[zy347,Yi] at hf
  rcases hf with hf|hf
  .grind
  grind
 exact h.fs f this
theorem MV(hl:n.aV.length<=200)(hf:n.aV[k]?=ς f):vP n (k:Int)=ς (f,zy347 n k):=by
 have hk:=(Yg.1 hf).1
 have a1:fa n.aV 0 (k:Int)=true:=by simp[fa];omega
 have a2:fa n.aV ((k+1:Nat):Int) (n.aV.length:Int)=true:=by simp[fa];omega
 have a3:cN 176 (n.aV.take k).length=true:=cE oaa (by simp;omega)
 have a4:cN 176 (n.aV.take k++n.aV.drop (k+1)).length=true:=cE oaa (by simp;omega)
 simp only[vP,zy62,hf,a1,WRs (k:=k),a2,Y8,ZZ,a3,a4,zy347,au]
def zy349(n:ae)(c:Int):Bool:=zy134 n.d5 c&&eqB (uL .i64 (Ap .i64 n.cP c) 1) 0
theorem zy350(hm:1<=n.d5.bI.length/\n.d5.bI.length<=6)(c:Int):sL n c=ς (zy349 n c):=by
 have hmin:zy240 (n.d5.bI.length:Int) 6=(n.d5.bI.length:Int):=by unfold zy240;split<;>omega
 simp only[sL,zy242,hmin,zy97,ZY,bM (n:=(n.d5.bI.length:Int)-1) oaa,zy349]
 rw[show inR c 0 ((n.d5.bI.length:Int)-1)=zy134 n.d5 c from rfl]
 cases hc:zy134 n.d5 c
 .rfl
 have:=zy73.1 (show inR c 0 ((n.d5.bI.length:Int)-1)=ζ from hc)
 rw[leB_t.2 this.1];rfl
def zy351(n:ae):ae:={n with Lost:=WR (n.Lost+1)}
theorem F4(h:NP B n)(hB:B<4611686018427387904):NP (B+1) (zy351 n):=by
 have hl:=h.lo
 exact {h.mono (show B<=B+1 by omega) with lo:=by simp only[zy351];rw[bM oaa];omega}
def zy352(n:ae)(k:Nat):ae:=match n.aV[k]? with
 |none=>n
 |some f=>
  let n1:=zy347 n k
  let i:=f.bk.toNat
  bif !zy349 n1 f.bg then zy351 n1 else
  bif f.dm then(bif f.cS||!eqB f.bh.bg f.bg then n1 else match n1.aD[i]? with
   |none=>n1
   |some s=>Ag n1 i (sUp s f.bh))
  else match n1.av[i]? with
   |none=>n1
   |some d=>bif !eqB d.bg f.bg then zy351 n1 else zy339 n1 i (bif f.cS then xN d f.cA else xO d f.bh)
theorem JI(h:NP B n)(k:Nat)(hB:B+1<4611686018427387904):NP (B+1) (zy352 n k):=by
 rw[zy352]
 cases hf:n.aV[k]? with
 |none=>exact h.mono oaa
 |some f=>
  have hp:=h.fs f (Yh hf)
  have h1:=zy348 h k
  simp only
  cases zy349 (zy347 n k) f.bg
  .exact F4 h1 oaa
  simp only[au]
  cases f.dm
  .simp only[cond_false]
   cases hd:(zy347 n k).av[f.bk.toNat]? with
   |none=>exact h1.mono oaa
   |some d=>
    have hdi:=(Yg.1 hd).1
    obtain⟨d',s,a,zy131,e2,e3,hm⟩:=h1.at_ hdi
    rw[hd] at zy131;cases zy131
    simp only
    cases eqB d.bg f.bg
    .exact F4 h1 oaa
    simp only[au]
    cases f.cS
    .exact om h1 hd (zy344 d f.bh) (zy312 hm.dp _) hm.dc hB
    exact om h1 hd (FD d f.cA) (zy318 hm.dp _) hm.dc hB
  simp only[cond_true]
  cases he:f.cS||!eqB f.bh.bg f.bg
  .simp only[cond_false]
   simp only[Yt,Z3] at he
   have he:=zy80 he.2
   cases hs:(zy347 n k).aD[f.bk.toNat]? with
   |none=>exact h1.mono oaa
   |some s=>exact zy346 h1 hs (zy345 s f.bh) (λa ha=>Xk ha _) (by rw[he];exact hp.c) hB
  exact h1.mono oaa
theorem zy353(i:Int)(h:0<=i):i=(i.toNat:Int):=by omega
theorem zy354(h:NP B n)(hk:k<n.aV.length):zy29 n (k:Int)=ς (zy352 n k):=by
 obtain⟨f,hf⟩:∃f,n.aV[k]?=ς f:=⟨_,Yf hk⟩
 have hp:=h.fs f (Yh hf)
 have h1:=zy348 h k
 have hls:=h1.ls
 have hdd:=hp.d
 obtain⟨d,s,a,zy131,e2,e3,hm⟩:=h1.at_ (show f.bk.toNat<(zy347 n k).av.length by simp only[zy347];omega)
 have hdev:=zy353 f.bk hdd.1
 have hix:ix (zy347 n k).aD f.bk=ς s:=by rw[hdev,zy62];exact e2
 have hixd:ix (zy347 n k).av f.bk=ς d:=by rw[hdev,zy62];exact zy131
 have hdl:=(Yg.1 zy131).1
 have hp1:iK (zy347 n k) f.bk (xN d f.cA)=ς (zy339 (zy347 n k) f.bk.toNat (xN d f.cA)):=by
  rw[hdev];exact vr oaa (by have:=(FD d f.cA).len;omega)
 have hp2:iK (zy347 n k) f.bk (xO d f.bh)=ς (zy339 (zy347 n k) f.bk.toNat (xO d f.bh)):=by
  rw[hdev];exact vr oaa (by have:=(zy344 d f.bh).len;omega)
 have hp3:∀n',kD n' f.bk η (sUp s f.bh).cT=ς (sends n' ((sUp s f.bh).cT.map (iM (f.bk.toNat:Int) η))):=λn'=>by
  rw[<-hdev];exact zy338 _ _ _ (by have:=(zy345 s f.bh).len;omega)
 simp only[zy29,MV h.fl hf,zy350 (zy328 h1.map),hix,hixd,up_s hm.sg.sp,VR hm.dp.ok (show zy219 f.cA from hp.b),Sj hm.dp.ok hm.dp.card hm.dp.ep,hp1,hp2,hp3,ZY,zy352,hf,zy131,e2,Ag,zy351]
 grind
theorem zy355(n:ae)(i:Nat)(r:bv):(zy339 n i r).av.length=n.av.length/\(zy339 n i r).d5=n.d5/\(zy339 n i r).aD=n.aD/\(zy339 n i r).bD=n.bD/\(zy339 n i r).lI=n.lI:=by
 have:=zy333 (r.cT.map (iM i ζ)) {n with av:=n.av.set i r.bk}
 rw[zy339,this.1,this.2.1,this.2.2.1,this.2.2.2.1,this.2.2.2.2.2.2];simp
def zy356:Nat->Nat->ae->ae
 |0,_,n=>n
 |c+1,i,n=>match n.av[i]? with
  |none=>n
  |some d=>zy356 c (i+1) (zy339 n i (nW d))
theorem zy357{L:Int×ae->Option (cH (Int×ae) ae)}(N:Nat)(hN:N<=4)(hL:∀(i:Nat) (n:ae),n.av.length=N->(i<N->∀d,n.av[i]?=ς d->DP d->L ((i:Int),n)=ς (.next (((i+1:Nat):Int),zy339 n i (nW d))))/\(N<=i->L ((i:Int),n)=ς (.done n))):
 ∀(c i:Nat) {B:Int} (n:ae) (fu:Nat),NP B n->i+c=N->n.av.length=N->c<fu->B+c<4611686018427387904->iter L fu ((i:Int),n)=ς (zy356 c i n)/\NP (B+c) (zy356 c i n)/\(zy356 c i n).av.length=N/\(zy356 c i n).d5=n.d5
 |0,i,B,n,fu,h,h1,h2,h3,hB=>by
  cases fu with
  |zero=>omega
  |succ fu=>
   rw[iter,(hL i n h2).2 oaa]
   exact⟨rfl,by simpa [zy356] using h,h2,rfl⟩
 |c+1,i,B,n,fu,h,h1,h2,h3,hB=>by
  cases fu with
  |zero=>omega
  |succ fu=>
   obtain⟨d,s,a,zy131,e2,e3,hm⟩:=h.at_ (show i<n.av.length by omega)
   have hp:=om h zy131 (yB d) (zy308 hm.dp) hm.dc oaa
   have hk:=zy355 n i (nW d)
   rw[iter,(hL i n h2).1 oaa d zy131 hm.dp,zy356,zy131]
   simp only
   have ih:=zy357 N hN hL c (i+1) (zy339 n i (nW d)) fu hp oaa oaa oaa oaa
   grind
def zy358(x:aF):Prop:=okB x.bH.bm/\x.bH.bm.length<=60
theorem zy359(k g e:Int)(h:x.bm.length<=60):zy358 (zy183 k g e x):=⟨zy179 _ _,by simp[zy183,zy182];exact h⟩
theorem Hh(h:WOK s.aK):∀x∈zy289 s,zy358 x:=by
 rw[zy289];cases eqB s.bB 1
 .simp
 intro x hx
 obtain⟨y,hy,rfl⟩:=Y7.1 hx
 exact zy359 _ _ _ (h.d y (List.mem_of_mem_take hy))
theorem Nu(s:ah)(a:an)(n:Int):(em s a n).1.ci.aH=s.ci.aH:=by rw[em];cases leB (zy278 s n) 0<;>rfl
theorem zy360:∀(k:Nat) (s:ah) (a:an) (r:List aF),SG s a->(∀x∈r,zy358 x)->
 (jK k s a r).1.b7=s.b7/\(jK k s a r).1.bg=s.bg/\(jK k s a r).1.ci.aH=s.ci.aH/\(jK k s a r).1.aU=s.aU/\∀x∈(jK k s a r).2.2,zy358 x
 |0,s,a,r,h,hr=>⟨rfl,rfl,rfl,rfl,hr⟩
 |k+1,s,a,r,h,hr=>by
  rw[jK]
  cases e:uF s with
  |none=>simp_all
  |some x=>
   obtain⟨hm,hx,_,hn,hl,hb⟩:=zy282 h.sp e
   have he:=zy283 h (n:=(x.bm.length:Int)) oaa
   obtain⟨q,hk⟩:=zy285 s a (x.bm.length:Int)
   have hid:=Nu s a (x.bm.length:Int)
   simp only
   cases hq:ltB 0 (zy278 (em s a (x.bm.length:Int)).1 (x.bm.length:Int))
   .simp only[cond_false]
    have ih:=zy360 k {(em s a (x.bm.length:Int)).1 with aK:=zj (em s a (x.bm.length:Int)).1.aK x.bm} (em s a (x.bm.length:Int)).2
     (r++[zy183 (em s a (x.bm.length:Int)).1.bj (em s a (x.bm.length:Int)).1.ag (em s a (x.bm.length:Int)).1.aZ ⟨(em s a (x.bm.length:Int)).1.aK.bF,x.bm⟩])
     (Bh he (by rw[hk];exact e) hq) (λy hy=>by
      rcases Yi.1 hy with hy|hy
      .exact hr y hy
      simp at hy;subst hy;exact zy359 _ _ _ hb)
    simp_all
   simp_all
theorem zy361{a t:Int}:∀c∈Ev m a t,0<=c/\c<m.bI.length:=by
 intro c hc
 have h1:∀c∈tJ m a,0<=c/\c<m.bI.length:=λc hc=>by
  obtain⟨y,hy,rfl⟩:=Y7.1 hc
  grind
 have h2:∀c∈zy292 m,0<=c/\c<m.bI.length:=λc hc=>by
  obtain⟨k,hk,rfl⟩:=Y7.1 hc
  simp_all
 rw[Ev] at hc;grind
structure TK(nc:Nat)(s:ah)(a:an)(t:cp):Prop where
 rcd:t.bb.b7=s.b7
 cell:t.bb.bg=s.bg
 si:t.bb.ci.aH=s.ci.aH
 sub:t.bb.aU=s.aU
 pg:∀m∈t.nJ,0<=m.bg/\m.bg<nc
 pl:t.nJ.length<=1000
 rd:∀x∈t.cA,zy358 x
 rl:t.cA.length<=4
theorem zy362(h:SG s a)(hm:m.bI.length<=1000):TK m.bI.length s a (zy302 s a m):=by
 rw[zy302]
 cases eqB s.bB 1
 .exact⟨rfl,rfl,rfl,rfl,by simp,by simp,by simp,by simp⟩
 simp only[au]
 have hg:=zy303 h
 have hq:=y3 h.sp
 cases ltB 4 (zy300 s)
 .simp only[cond_false,MI]
  have hk:=zy360 2 _ _ [] (h.upd hq (zy304 h.sp)) (by simp)
  have hl:=zy307 2 {s with eg:=zy300 s,d9:=(zy301 s).2,ci:=(zy299 s a).2} (zy299 s a).1 []
  have hr:=zy306 s
  refine⟨hk.1,hk.2.1,hk.2.2.1.trans hg.2.2.1,hk.2.2.2.1,by simp,by simp,λx hx=>?_,by grind⟩
  rcases Yi.1 hx with hx|hx
  .rw[zy301] at hx;revert hx
   cases Ft s
   .simp
   cases ltB 0 s.d9
   .exact Hh h.sp.win x
   simp
  simp_all
 simp only[cond_true,IL]
 refine⟨rfl,rfl,hg.2.2.1,rfl,λx hx=>?_,by have:=EY (p:={s.jn with g9:=zy295 m s.bg}) hm;simp_all,by simp,by simp⟩
 obtain⟨c,hc,rfl⟩:=Y7.1 hx
 simp only[zy296]
 rw[zH] at hc;revert hc
 cases ltB 0 s.jn.hP
 .exact zy361 c
 simp
def zy363(n:ae)(i:Nat)(t:cp):ae:=
 sends (sends {n with aD:=n.aD.set i t.bb,bD:=n.bD.set i t.fk} (t.nJ.map (iM i η))) (t.cA.map (sB i t.bb.bg))
theorem UK{nd nc:Nat}(hi:i<nd){c:Int}(hc:0<=c/\c<nc){x:aF}(hx:zy358 x):FP nd nc (sB i c x):=
 ⟨by simp only[sB];omega,hc,hx.1,⟨by have:=hx.2;simp only[sB];omega,λ_ _=>trivial⟩⟩
theorem zy364(n:ae)(i:Nat)(t:cp):(zy363 n i t).av=n.av/\(zy363 n i t).d5=n.d5/\(zy363 n i t).aD.length=n.aD.length/\(zy363 n i t).lI=n.lI:=by
 have h1:=zy333 (t.nJ.map (iM i η)) {n with aD:=n.aD.set i t.bb,bD:=n.bD.set i t.fk}
 have h2:=zy333 (t.cA.map (sB i t.bb.bg)) (sends {n with aD:=n.aD.set i t.bb,bD:=n.bD.set i t.fk} (t.nJ.map (iM i η)))
 rw[zy363,h2.1,h2.2.1,h2.2.2.2.1,h2.2.2.2.2.2.2,h1.1,h1.2.1,h1.2.2.2.1,h1.2.2.2.2.2.2];simp
theorem zy365(h:NP B n)(hs:n.aD[i]?=ς s)(ha:n.bD[i]?=ς a){t:cp}(hk:TK n.d5.bI.length s a t)(hg:SG t.bb t.fk)(hB:B+2000<4611686018427387904):NP (B+2000) (zy363 n i t):=by
 have hi:=(Yg.1 hs).1
 have hls:=h.ls
 obtain⟨d,s',a',h1,h2,h3,hm⟩:=h.at_ (show i<n.av.length by omega)
 rw[hs] at h2;cases h2
 rw[ha] at h3;cases h3
 have hmp:MP n.d5.bI.length i d t.bb t.fk:=by
  refine⟨hm.dp,hm.dc,hg,by rw[hk.cell];exact hm.sc,by rw[hk.si];exact hm.si,?_⟩
  have:=hm.ids
  simp only[zy139,hk.rcd] at this ⊢;exact this
 have hn:=h.setM hmp
 rw[zy342 h1] at hn
 have hpl:=hk.pl
 have hrl:=hk.rl
 have k1:=zy333 (t.nJ.map (iM i η)) {n with aD:=n.aD.set i t.bb,bD:=n.bD.set i t.fk}
 have p1:=zy334 (t.nJ.map (iM i η)) hn (λf hf=>by
  obtain⟨m,hm',rfl⟩:=Y7.1 hf
  exact zy340 (show i<n.av.length by omega) (hk.pg m hm')) (by simp;omega)
 have p2:=zy334 (t.cA.map (sB i t.bb.bg)) p1 (λf hf=>by
  obtain⟨x,hx,rfl⟩:=Y7.1 hf
  rw[k1.1,k1.2.2.2.1]
  exact UK (show i<n.av.length by omega) (by rw[hk.cell];exact⟨hm.sg.sp.ce.1,hm.sc⟩) (hk.rd x hx)) (by simp;omega)
 exact p2.mono (by simp;omega)
def zy366:Nat->Nat->ae->ae
 |0,_,n=>n
 |c+1,i,n=>match n.aD[i]?,n.bD[i]? with
  |some s,ς a=>zy366 c (i+1) (zy363 n i (zy302 s a n.d5))
  |_,_=>n
theorem E4{L:Int×ae->Option (cH (Int×ae) ae)}(N:Nat)(hN:N<=4)(hL:∀(i:Nat) (n:ae),n.aD.length=N->(i<N->∀s a,n.aD[i]?=ς s->n.bD[i]?=ς a->SG s a->pP n.d5=ζ->L ((i:Int),n)=ς (.next (((i+1:Nat):Int),zy363 n i (zy302 s a n.d5))))/\(N<=i->L ((i:Int),n)=ς (.done n))):
 ∀(c i:Nat) {B:Int} (n:ae) (fu:Nat),NP B n->i+c=N->n.aD.length=N->c<fu->B+2000*c<4611686018427387904->iter L fu ((i:Int),n)=ς (zy366 c i n)/\NP (B+2000*c) (zy366 c i n)/\(zy366 c i n).av=n.av/\(zy366 c i n).d5=n.d5
 |0,i,B,n,fu,h,h1,h2,h3,hB=>by
  cases fu with
  |zero=>omega
  |succ fu=>
   rw[iter,(hL i n h2).2 oaa]
   exact⟨rfl,by simpa [zy366] using h,rfl,rfl⟩
 |c+1,i,B,n,fu,h,h1,h2,h3,hB=>by
  cases fu with
  |zero=>omega
  |succ fu=>
   have hls:=h.ls
   obtain⟨d,s,a,zy131,e2,e3,hm⟩:=h.at_ (show i<n.av.length by omega)
   have hml:=zy328 h.map
   have hp:=zy365 h e2 e3 (zy362 hm.sg oaa) (zy327 hm.sg h.map) oaa
   have hk:=zy364 n i (zy302 s a n.d5)
   rw[iter,(hL i n h2).1 oaa s a e2 e3 hm.sg h.map,zy366,e2,e3]
   simp only
   have ih:=E4 N hN hL c (i+1) (zy363 n i (zy302 s a n.d5)) fu hp oaa oaa oaa oaa
   grind
def zy367(n:ae):Bool×ae:=
 bif leB 100000 n.lI then(η,n) else
  let n1:=zy356 n.av.length 0 {n with lI:=n.lI+1}
  (ζ,zy366 n1.aD.length 0 n1)
theorem zy368{B:Int}{n:ae}(h:NP B n)(hB:B+10000<4611686018427387904):zi n=ς (zy367 n)/\True/\NP (B+10000) (zy367 n).2:=by
 have hnw:=h.nw
 have hld:=h.ld
 rw[zy367,zi]
 cases hb:leB 100000 n.lI
 .have hb:=zy79 hb
  simp only[cond_false]
  have h1:NP B {n with lI:=n.lI+1}:={h with nw:=by grind}
  rw[bM (n:=n.lI+1) oaa]
  have rs:=zy357 (L:=zy32) n.av.length hld (λi n' hn'=>⟨λhi d hd hp=>by
   simp only[zy32,hn',zy65 hi,zy62,hd,Sz hp.ok hp.wt.2,vr (show i<n'.av.length by omega) (show(nW d).cT.length<=1048576 by have:=(yB d).len;omega),WRs (k:=i),au],λhi=>by
   simp only[zy32,hn',ltB_f.2 (show(n.av.length:Int)<=(i:Int) by omega),cond_false]⟩) n.av.length 0 _ FU h1 oaa rfl (by have:=jU;omega) oaa
  rw[show((0:Nat):Int)=0 from rfl] at rs
  have h2:=(rs).2.1
  have hls:=h2.ls
  have hl2:=h2.ld
  generalize zy356 n.av.length 0 {n with lI:=n.lI+1}=n1 at*
  have radS:∀(n':ae) (i:Nat) (t:cp),(∀x∈t.cA,zy358 x)->t.cA.length<=4->iter (mu (i:Int) t) FU (0,n')=ς (sends n' (t.cA.map (sB i t.bb.bg))):=λn' i t ht hl=>by
   have:=zy61 (step:=mu (i:Int) t) t.cA (λk n=>((k:Int),n)) (λn x=>ZW (g8 n (sB i t.bb.bg x)) λr=>ς (.next r)) ς oaa
    (λk x n hx hk=>by
     simp only[mu,zy65 hk,zy62,hx,WRs (k:=k),sB,au]
     simp_all) (λn=>by simp[mu]) n'
   refine Eq.trans (show iter (mu (i:Int) t) FU (0,n')=_ from this) ?_
   clear this
   have key:∀(l:List aF) (n':ae),(∀x∈l,zy358 x)->zy60 (λ(n:ae) x=>ZW (g8 n (sB i t.bb.bg x)) λr=>ς (cH.next (ρ:=ae) r)) ς l n'=ς (sends n' (l.map (sB i t.bb.bg))):=by
    intro l
    induction l with
    |nil=>intro n' _;rfl
    |cons x l ih=>intro n' hx;rw[zy60,zy330 (f:=sB i t.bb.bg x) ⟨by have:=(hx x (by simp)).2;simp only[sB];omega,λ_ _=>trivial⟩];exact ih _ λy hy=>hx y (by simp[hy])
   simp_all
  have ss:=E4 (L:=zy33) n1.aD.length oaa (λi n' hn'=>⟨λhi s a hs ha hg hm=>by
   have hml:=zy328 hm
   have hk:=zy362 hg (m:=n'.d5) oaa
   simp only[zy33,hn',zy65 hi,zy62,hs,ha,Vm hg (m:=n'.d5) oaa (It hg.sp.page),ZZ,zy338 _ _ _ (show(zy302 s a n'.d5).nJ.length<=1048576 by have:=hk.pl;omega),radS _ i _ hk.rd hk.rl,zy363,WRs (k:=i),au],λhi=>by
   simp only[zy33,hn',ltB_f.2 (show(n1.aD.length:Int)<=(i:Int) by omega),cond_false]⟩) n1.aD.length 0 n1 FU h2 oaa rfl (by have:=jU;omega) oaa
  rw[show((0:Nat):Int)=0 from rfl] at ss
  rw[rs.1]
  simp only[ZY]
  rw[ss.1]
  exact⟨zy64,zy64,(ss).2.1.mono oaa⟩
 exact⟨zy64,zy64,h.mono oaa⟩
def zy369(p:bQ)(k:Int):Bool:=zy104 p&&(inR k 0 (p.ia-1)&&eqB (uL .i64 (Ap .i64 p.fZ k) 1) 1)
theorem zy370{p:bQ}(h:zy104 p=ζ):1<=p.ia/\p.ia<=6:=by
 simp only[zy104,hV,zy73] at h;exact h.1
theorem zy371(p:bQ)(k:Int):oG p k=ς (zy369 p k):=by
 simp only[oG,Kf,zy97,ZY,zy369]
 cases hp:zy104 p
 .rfl
 have:=zy370 hp
 rw[bM (n:=p.ia-1) oaa]
 cases hk:inR k 0 (p.ia-1)
 .rfl
 rw[leB_t.2 (zy73.1 hk).1];rfl
def zy372(p:bQ)(k:Int)(up:Bool):bQ:=
 bif !zy104 p||!inR k 0 (p.ia-1) then p else⟨p.ia,bif up then bOr .i64 p.fZ (my .i64 1 k) else vW .i64 p.fZ (my .i64 1 k)⟩
theorem zy373(p:bQ)(k:Int)(up:Bool):py p k up=ς (zy372 p k up):=by
 simp only[py,Kf,zy97,ZY,zy372]
 cases hp:zy104 p
 .rfl
 have:=zy370 hp
 rw[bM (n:=p.ia-1) oaa]
 cases hk:inR k 0 (p.ia-1)
 .rfl
 rw[leB_t.2 (zy73.1 hk).1];grind
theorem zy374:∀c∈v0 7,∀d∈v0 (2^c),∀i∈v0 c,
 (inR (GX .i64 (d:Int) (my .i64 1 (i:Int))) 0 (WR (my .i64 1 (c:Int)-1))&&(inR (bOr .i64 (d:Int) (my .i64 1 (i:Int))) 0 (WR (my .i64 1 (c:Int)-1))&&inR (vW .i64 (d:Int) (my .i64 1 (i:Int))) 0 (WR (my .i64 1 (c:Int)-1))))=true:=by decide+kernel
theorem zy375:∀c∈v0 7,WR (my .i64 1 (c:Int)-1)=((2^c:Nat):Int)-1:=by decide+kernel
theorem zy376{c:Nat}(hc:c<=6){d k:Int}(hd:inR d 0 (WR (my .i64 1 (c:Int)-1))=ζ)(hk:0<=k/\k<c):
 inR (GX .i64 d (my .i64 1 k)) 0 (WR (my .i64 1 (c:Int)-1))=ζ/\inR (bOr .i64 d (my .i64 1 k)) 0 (WR (my .i64 1 (c:Int)-1))=ζ/\inR (vW .i64 d (my .i64 1 k)) 0 (WR (my .i64 1 (c:Int)-1))=true:=by
 have hd':=zy73.1 hd
 rw[zy375 c (Z8.2 oaa)] at hd'
 have:=zy374 c (Z8.2 oaa) d.toNat (Z8.2 oaa) k.toNat (Z8.2 oaa)
 grind
theorem Sd{p:bQ}(h:zy104 p=ζ)(k:Int)(up:Bool):zy104 (zy372 p k up)=ζ/\(zy372 p k up).ia=p.ia:=by
 rw[zy372,h]
 cases hk:inR k 0 (p.ia-1)
 .simp_all
 have hk:=zy73.1 hk
 have hp:=zy370 h
 simp only[zy104,hV] at h
 have hm:=zy376 (c:=p.ia.toNat) oaa (d:=p.fZ) (k:=k) (by grind) oaa
 rw[show(p.ia.toNat:Int)=p.ia by omega] at hm
 simp only[aac,zy104,hV,au]
 grind
def wt(a b:Int):Int:=ZX (WR (zy160 17 [a,b]*zy160 17 [a,b])) 2147483647
theorem wt_s(a b:Int):iz a b=ς (wt a b):=by simp[iz,dW,wt]
def zy377(p:bQ)(i v:Int)(k:Int):Int:=bif zy369 p k&&(ltB v 0||ltB (wt v i) (wt k i)) then k else v
def zy378(p:bQ)(i:Int):Nat->Nat->Int->Int
 |0,_,v=>v
 |c+1,k,v=>zy378 p i c (k+1) (zy377 p i v k)
def sel(p:bQ)(i:Int):Int:=zy378 p i p.ia.toNat 0 (-1)
theorem zy379{p:bQ}(h:zy104 p=ζ)(i:Int):∀(c k fu:Nat) (v:Int),k+c=p.ia.toNat->c<fu->iter (kR p i) fu (v,(k:Int))=ς (zy378 p i c k v)
 |0,k,fu,v,h1,h2=>by
  have hp:=zy370 h
  cases fu with
  |zero=>omega
  |succ fu=>rw[iter];simp[kR,ltB_f.2 (show p.ia<=(k:Int) by omega),zy378]
 |c+1,k,fu,v,h1,h2=>by
  have hp:=zy370 h
  cases fu with
  |zero=>omega
  |succ fu=>
   have hc:(bif ltB (k:Int) p.ia then ς (ltB (k:Int) 6) else ς η)=ς true:=by rw[ltB_t.2 (show(k:Int)<p.ia by omega),ltB_t.2 (show(k:Int)<6 by omega)];rfl
   have hs:(ZW (bif zy369 p k then(bif ltB v 0 then ς ζ else ς (ltB (wt v i) (wt k i))) else ς η) λ(v12:Bool)=>ZW (bif v12 then ς (k:Int) else ς v) λ(v15:Int)=>ς (cH.next (ρ:=Int) (v15,WR ((k:Int)+1))))=ς (.next (zy377 p i v k,((k+1:Nat):Int))):=by
    rw[zy63 oaa,zy377]
    cases zy369 p k<;>cases ltB v 0<;>cases ltB (wt v i) (wt k i)<;>rfl
   rw[iter]
   simp only[kR,hc,zy371,wt_s,hs,au]
   exact zy379 h i c (k+1) fu _ oaa oaa
theorem zy380{p:bQ}(h:zy104 p=ζ)(i:Int):lr p i=ς (sel p i):=by
 have hp:=zy370 h
 have:=zy379 h i p.ia.toNat 0 FU (-1) oaa (by have:=jU;omega)
 rw[show((0:Nat):Int)=0 from rfl] at this
 rw[lr,this];rfl
def zy381(p q:bQ):Nat->Nat->List ah->List ah
 |0,_,l=>l
 |c+1,i,l=>zy381 p q c (i+1) (bif eqB (sel p i) (sel q i) then l else match l[i]? with
  |some s=>l.set i (zy261 s)
  |none=>l)
def zy382(n:ae)(k:Int)(up:Bool):Bool×ae:=
 let q:=zy372 n.gT k up
 bif !inR k 0 (n.gT.ia-1)||(booB (zy369 n.gT k) up||eqB q.fZ 0) then(η,n) else(ζ,{n with aD:=zy381 n.gT q n.aD.length 0 n.aD,gT:=q})
theorem zy383(p q:bQ):∀(c i:Nat) (l:List ah) (j:Nat),(zy381 p q c i l)[j]?=l[j]?\/∃s,l[j]?=ς s/\(zy381 p q c i l)[j]?=ς (zy261 s)
 |0,i,l,j=>.inl rfl
 |c+1,i,l,j=>by
  rw[zy381]
  cases eqB (sel p i) (sel q i)
  .simp only[cond_false]
   cases hi:l[i]? with
   |none=>exact zy383 p q c (i+1) l j
   |some s=>
    simp only
    by_cases e:i=j
    .subst e
     have hg:(l.set i (zy261 s))[i]?=ς (zy261 s):=by simp[(Yg.1 hi).1]
     rcases zy383 p q c (i+1) (l.set i (zy261 s)) i with h|⟨t,h1,h2⟩
     .simp_all
     rw[hg] at h1;cases h1;exact .inr ⟨s,hi,h2⟩
    have hg:(l.set i (zy261 s))[j]?=l[j]?:=by rw[ZB,if_neg e]
    rcases zy383 p q c (i+1) (l.set i (zy261 s)) j with h|⟨t,h1,h2⟩
    .simp_all
    grind
  exact zy383 p q c (i+1) l j
theorem Eh(p q:bQ):∀(c i:Nat) (l:List ah),(zy381 p q c i l).length=l.length
 |0,i,l=>rfl
 |c+1,i,l=>by
  rw[zy381,Eh]
  grind
theorem HO{L:Int×List ah->Option (cH (Int×List ah) (List ah))}{p q:bQ}(N:Nat)(hL:∀(i:Nat) (l:List ah),l.length=N->(i<N->(∀s∈l,zy88 s)->L ((i:Int),l)=ς (.next (((i+1:Nat):Int),bif eqB (sel p i) (sel q i) then l else match l[i]? with|some s=>l.set i (zy261 s)|none=>l)))/\(N<=i->L ((i:Int),l)=ς (.done l))):
 ∀(c i fu:Nat) (l:List ah),i+c=N->l.length=N->(∀s∈l,zy88 s)->c<fu->iter L fu ((i:Int),l)=ς (zy381 p q c i l)
 |0,i,fu,l,h1,h2,h3,h4=>by
  cases fu with
  |zero=>omega
  |succ fu=>rw[iter,(hL i l h2).2 oaa];rfl
 |c+1,i,fu,l,h1,h2,h3,h4=>by
  cases fu with
  |zero=>omega
  |succ fu=>
   rw[iter,(hL i l h2).1 oaa h3,zy381]
   simp only
   refine HO N hL c (i+1) fu _ oaa ?_ (λs hs=>?_) oaa
   .grind
   revert hs
   cases eqB (sel p i) (sel q i)
   .simp only[cond_false]
    cases hi:l[i]? with
    |none=>exact h3 s
    |some t=>
     intro hs
     rcases List.mem_or_eq_of_mem_set hs with hs|rfl
     .exact h3 s hs
     exact h3 t (Yh hi)
   exact h3 s
theorem zy384(h:NP B n)(k:Int)(up:Bool):uc n k up=ς (zy382 n k up)/\True/\NP B (zy382 n k up).2:=by
 have hp:=zy370 h.core
 have hls:=h.ls
 have hq:=Sd h.core k up
 have hok:∀s∈n.aD,zy88 s:=λs hs=>by
  obtain⟨i,hi⟩:=Yr hs
  have hlt:=(Yg.1 hi).1
  obtain⟨d,s',a,zy131,e2,e3,hm⟩:=h.at_ (show i<n.av.length by omega)
  rw[hi] at e2;cases e2;exact hm.sg.sp.ok
 have hl4:=h.ld
 have r1:=HO (L:=oy n (zy372 n.gT k up)) (p:=n.gT) (q:=zy372 n.gT k up) n.aD.length (λi l hl=>⟨λhi hl3=>by
  obtain⟨s,hs⟩:∃s,l[i]?=ς s:=⟨_,Yf oaa⟩
  simp only[oy,hl,zy65 hi,zy380 h.core,zy380 hq.1,zy62,hs,Wr (hl3 s (Yh hs)),ZZ,WRs (k:=i),au]
  grind,λhi=>by
  simp only[oy,hl,ltB_f.2 (show(n.aD.length:Int)<=(i:Int) by omega),cond_false]⟩) n.aD.length 0 FU n.aD oaa rfl hok (by have:=jU;omega)
 rw[show((0:Nat):Int)=0 from rfl] at r1
 refine⟨?_,θ,?_⟩
 .simp only[uc,zy373,zy97,zy371,r1,ZY,bM (n:=n.gT.ia-1) oaa,zy382]
  grind
 simp only[zy382]
 cases hb:!inR k 0 (n.gT.ia-1)||(booB (zy369 n.gT k) up||eqB (zy372 n.gT k up).fZ 0)
 .simp only[Yt] at hb
  refine {h with core:=hq.1,up:=zy81 hb.2.2,ls:=by simp only[cond_false];rw[Eh];exact hls,m:=λi d s a hd hs ha=>?_}
  simp only[cond_false] at hd hs ha ⊢
  rcases zy383 n.gT (zy372 n.gT k up) n.aD.length 0 n.aD i with e|⟨t,zy131,e2⟩
  .rw[e] at hs;exact h.m i d s a hd hs ha
  rw[e2] at hs;cases hs
  have hm:=h.m i d t a hd zy131 ha
  exact⟨hm.dp,hm.dc,RS hm.sg,hm.sc,hm.si,hm.ids⟩
 exact h
theorem Mh:eqB 3 2=false:=by simp[eqB]
theorem Mj:eqB 4 2=false:=by simp[eqB]
theorem zy385:eqB 4 3=false:=by simp[eqB]
theorem zy386:eqB 6 5=false:=by simp[eqB]
theorem Mm:eqB 7 5=false:=by simp[eqB]
theorem Mn:eqB 7 6=false:=by simp[eqB]
theorem zy387:eqB 8 5=false:=by simp[eqB]
theorem Iz:eqB 8 6=false:=by simp[eqB]
theorem IA:eqB 8 7=false:=by simp[eqB]
theorem Mi:eqB 3 4=false:=by simp[eqB]
theorem zy388:eqB 2 3=false:=by simp[eqB]
structure EP(e:dF):Prop where
 d:okB e.bm
 f:zy91 e.bS
 r:okB e.bS.cA.bH.bm
def zy389(n:ae)(e:dF):Bool×ae:=
 bif !inR e.cZ 0 ((n.aV.length:Int)-1) then(η,n) else
 bif eqB e.bp 2 then(ζ,zy352 n e.cZ.toNat) else
 bif eqB e.bp 3 then(ζ,zy351 (zy347 n e.cZ.toNat)) else
 bif leB 200 (n.aV.length:Int) then(η,n) else match n.aV[e.cZ.toNat]? with
  |none=>(ζ,n)
  |some f=>(ζ,zy329 n f)
theorem HR(h:NP B n)(e:dF)(hk:e.bp=2\/e.bp=3\/e.bp=4)(hB:B+1<4611686018427387904):
 zy30 n e=ς (zy389 n e)/\True/\NP (B+1) (zy389 n e).2:=by
 have hfl:=h.fl
 simp only[zy30,zy97,zy389,bM (n:=(n.aV.length:Int)-1) oaa,ZY]
 cases hr:inR e.cZ 0 ((n.aV.length:Int)-1)
 .exact⟨zy64,zy64,h.mono oaa⟩
 have hr:=zy73.1 hr
 obtain⟨k,hk'⟩:∃k:Nat,e.cZ=k:=⟨e.cZ.toNat,by omega⟩
 have hlt:k<n.aV.length:=by omega
 obtain⟨f,hf⟩:∃f,n.aV[k]?=ς f:=⟨_,Yf hlt⟩
 have hp:=h.fs f (Yh hf)
 simp only[hk',ZZ,zy354 h hlt,MV h.fl hf,zy330 hp.ok,zy62,hf,au]
 rcases hk with e2|e2|e2<;>rw[e2]<;>simp only[Mh,Mj,zy385,zy386,Mm,Mn,zy387,Iz,IA,Mi,zy388,bz,au]
 .exact⟨zy64,zy64,JI h k hB⟩
 .exact⟨zy64,zy64,F4 (zy348 h k) oaa⟩
 cases leB 200 (n.aV.length:Int)
 .exact⟨zy64,zy64,zy331 h hp oaa⟩
 exact⟨zy64,zy64,h.mono oaa⟩
def DH(n:ae)(e:dF):Bool×ae:=
 bif !inR e.cZ 0 ((n.av.length:Int)-1) then(η,n) else match n.av[e.cZ.toNat]?,n.aD[e.cZ.toNat]? with
  |some d,ς s=>
   bif eqB e.bp 5 then(bif !eqB d.bB 0 then(η,n) else(ζ,zy339 n e.cZ.toNat (dOn d))) else
   bif eqB e.bp 6 then(bif eqB e.bg d.bg||!zy134 n.d5 e.bg then(η,n) else(ζ,zy339 n e.cZ.toNat (uz d e.bg))) else
   bif eqB e.bp 7 then(bif !eqB d.bB 2 then(η,n) else(ζ,{n with av:=n.av.set e.cZ.toNat (zy214 d)})) else
   bif(zy251 s e.bm).2 then(ζ,{n with aD:=n.aD.set e.cZ.toNat (zy251 s e.bm).1}) else(η,n)
  |_,_=>(η,n)
theorem zy390(d:ax):(zy214 d).dZ=d.dZ/\(zy214 d).bg=d.bg:=by
 rw[zy214];grind
theorem Rm(h:NP B n)(e:dF)(he:EP e)(hk:e.bp=5\/e.bp=6\/e.bp=7\/e.bp=8)(hB:B+1<4611686018427387904):
 A0 n e=ς (DH n e)/\True/\NP (B+1) (DH n e).2:=by
 have hl:=h.ld
 have hm6:=zy328 h.map
 have hnm:NP (B+1) n:=h.mono oaa
 simp only[A0,zy97,DH,bM (n:=(n.av.length:Int)-1) oaa,bM (n:=(n.d5.bI.length:Int)-1) oaa,ZY]
 cases hr:inR e.cZ 0 ((n.av.length:Int)-1)
 .simp_all
 have hr:=zy73.1 hr
 obtain⟨k,hk'⟩:∃k:Nat,e.cZ=k:=⟨e.cZ.toNat,by omega⟩
 have hlt:k<n.av.length:=by omega
 obtain⟨d,s,a,zy131,e2,e3,hm⟩:=h.at_ hlt
 have l1:=(FB d).len
 have l2:(uz d e.bg).cT.length<=1:=by rcases BV d e.bg with h|h;exact h.len;exact h.2.len
 simp only[hk',ZZ,zy62,zy131,e2,WY hm.dp.ok,zy218 hm.dp.ok hm.dp.ep,zy221 hm.dp.ok,Sp hm.sg.sp.ok,vr hlt (show(dOn d).cT.length<=1048576 by omega),vr hlt (show(uz d e.bg).cT.length<=1048576 by omega),au]
 try rw[show inR e.bg 0 ((n.d5.bI.length:Int)-1)=zy134 n.d5 e.bg from rfl]
 rcases hk with e4|e4|e4|e4<;>rw[e4]<;>simp only[Mh,Mj,zy385,zy386,Mm,Mn,zy387,Iz,IA,Mi,zy388,bz,au]
 .cases eqB d.bB 0
  .simp_all
  exact⟨zy64,zy64,om h zy131 (FB d) (PC hm.dp) hm.dc hB⟩
 .cases hx:eqB e.bg d.bg<;>cases hy:zy134 n.d5 e.bg<;>try exact⟨zy64,zy64,hnm⟩
  refine⟨zy64,zy64,?_⟩
  have hc:=zy73.1 (show inR e.bg 0 ((n.d5.bI.length:Int)-1)=ζ from hy)
  rcases BV d e.bg with h'|h'
  .exact om h zy131 h' (BW hm.dp _) hm.dc hB
  exact om h zy131 h'.2 (BW hm.dp _) oaa hB
 .cases eqB d.bB 2
  .simp_all
  refine⟨zy64,zy64,NP.mono (B:=B) ?_ oaa⟩
  have hik:=zy390 d
  refine h.setD e2 e3 ⟨Hy hm.dp,by rw[hik.2];exact hm.dc,hm.sg,hm.sc,hm.si,?_⟩
  have:=hm.ids
  simp only[zy139,hik.1] at this ⊢;exact this
 cases hb:(zy251 s e.bm).2
 .have hs:(zy251 s e.bm).1=s:=by
   revert hb;rw[zy251];cases leB 24 (s.aU.length:Int)||ltB 60 (e.bm.length:Int)
   .simp_all
   intro _;rfl
  refine⟨?_,zy64,hnm⟩
  first|trivial|(rw[hs,zy342 e2];rfl)
 refine⟨zy64,zy64,NP.mono (B:=B) ?_ oaa⟩
 have hg:=zy325 hm.sg he.d
 refine h.setS zy131 e3 ⟨hm.dp,hm.dc,hg,?_,?_,?_⟩
 all_goals
  rw[zy251]
  cases leB 24 (s.aU.length:Int)||ltB 60 (e.bm.length:Int)
 .exact hm.sc
 .exact hm.sc
 .exact hm.si
 .exact hm.si
 .exact hm.ids
 exact hm.ids
def zy391(n:ae)(c:Int)(up:Bool):Bool×ae:=
 bif !zy134 n.d5 c||booB (zy349 n c) up then(η,n) else(ζ,{n with cP:=GX .i64 n.cP (my .i64 1 c)})
theorem Nk(h:NP B n)(e:dF):
 y6 n e.cZ (eqB e.bp 10)=ς (zy391 n e.cZ (eqB e.bp 10))/\True/\NP B (zy391 n e.cZ (eqB e.bp 10)).2:=by
 have hm6:=zy328 h.map
 simp only[y6,zy97,zy350 hm6,zy391,bM (n:=(n.d5.bI.length:Int)-1) oaa,ZY]
 try rw[show inR e.cZ 0 ((n.d5.bI.length:Int)-1)=zy134 n.d5 e.cZ from rfl]
 cases hc:zy134 n.d5 e.cZ
 .simp_all
 have hi:=zy73.1 (show inR e.cZ 0 ((n.d5.bI.length:Int)-1)=ζ from hc)
 rw[leB_t.2 hi.1]
 cases booB (zy349 n e.cZ) (eqB e.bp 10)
 .exact⟨zy64,zy64,{h with dn:=(zy376 hm6.2 h.dn oaa).1}⟩
 simp_all
def xA(n:ae)(f:bJ):Bool:=ltB (n.aV.length:Int) 200&&(inR f.bk 0 ((n.av.length:Int)-1)&&zy134 n.d5 f.bg)
def zy392(n:ae)(f:bJ):Bool×ae:=bif !xA n f then(η,n) else(ζ,zy329 n f)
theorem zy393(h:NP B n)(e:dF)(he:EP e)(hB:B<4611686018427387904):
 (ZW (jw n e.bS) λr13=>bif !r13 then(ς (η,n)) else(ZW (g8 n e.bS) λr14=>ς (ζ,r14)))=ς (zy392 n e.bS)/\True/\NP (B+1) (zy392 n e.bS).2:=by
 have hm6:=zy328 h.map
 have hl:=h.ld
 simp only[jw,zy97,zy330 he.f,zy392,xA,bM (n:=(n.d5.bI.length:Int)-1) oaa,bM (n:=(n.av.length:Int)-1) oaa,ZY]
 try rw[show inR e.bS.bg 0 ((n.d5.bI.length:Int)-1)=zy134 n.d5 e.bS.bg from rfl]
 try rw[show leB 200 (n.aV.length:Int)=!ltB (n.aV.length:Int) 200 by simp only[leB,ltB];grind]
 cases h1:ltB (n.aV.length:Int) 200<;>cases h2:inR e.bS.bk 0 ((n.av.length:Int)-1)<;>cases h3:zy134 n.d5 e.bS.bg<;>try exact⟨zy64,zy64,h.mono oaa⟩
 have hd:=zy73.1 h2
 have hc:=zy73.1 (show inR e.bS.bg 0 ((n.d5.bI.length:Int)-1)=ζ from h3)
 exact⟨zy64,zy64,zy331 h ⟨by omega,by omega,he.r,he.f⟩ oaa⟩
def zy394(n:ae)(e:dF):Bool×ae:=
 if e.bp=1 then zy367 n else
 if e.bp=2\/e.bp=3\/e.bp=4 then zy389 n e else
 if e.bp=5\/e.bp=6\/e.bp=7\/e.bp=8 then DH n e else
 if e.bp=9\/e.bp=10 then zy391 n e.cZ (eqB e.bp 10) else
 if e.bp=11\/e.bp=12 then zy382 n e.cZ (eqB e.bp 12) else
 if e.bp=13 then zy392 n e.bS else(η,n)
theorem zy395(h:NP B n)(he:EP e)(hB:B+10000<4611686018427387904):
 zy47 n e=ς (zy394 n e)/\True/\NP (B+10000) (zy394 n e).2:=by
 rw[zy394,zy47]
 by_cases h1:e.bp=1
 .rw[if_pos h1,h1]
  have:=zy368 h hB
  simp_all
 rw[if_neg h1]
 have n1:eqB e.bp 1=false:=by simpa [eqB] using h1
 by_cases h2:e.bp=2\/e.bp=3\/e.bp=4
 .rw[if_pos h2]
  have:=HR h e h2 oaa
  have hb':(bif eqB e.bp 2 then(ς (eqB e.bp 2)) else(ZW (bif eqB e.bp 3 then(ς (eqB e.bp 3)) else(ς (eqB e.bp 4))) λ(v3:Bool)=>ς v3))=ς true:=by
   rcases h2 with e|e|e<;>rw[e]<;>simp only[Mh,Mj,zy385,zy386,Mm,Mn,zy387,Iz,IA,Mi,zy388,bz,au]<;>rfl
  rw[n1,hb']
  simp only[this.1,au]
  exact⟨zy64,zy64,this.2.2.mono oaa⟩
 rw[if_neg h2]
 have hb':(bif eqB e.bp 2 then(ς (eqB e.bp 2)) else(ZW (bif eqB e.bp 3 then(ς (eqB e.bp 3)) else(ς (eqB e.bp 4))) λ(v3:Bool)=>ς v3))=ς false:=by
  rw[show eqB e.bp 2=η by simp_all,show eqB e.bp 3=η by simp_all,show eqB e.bp 4=η by simp_all];rfl
 rw[n1,hb']
 simp only[au]
 by_cases h3:e.bp=5\/e.bp=6\/e.bp=7\/e.bp=8
 .rw[if_pos h3]
  have:=Rm h e he h3 oaa
  have hb3:(bif eqB e.bp 5 then(ς (eqB e.bp 5)) else(ZW (bif eqB e.bp 6 then(ς (eqB e.bp 6)) else(ZW (bif eqB e.bp 7 then(ς (eqB e.bp 7)) else(ς (eqB e.bp 8))) λ(v7:Bool)=>ς v7)) λ(v6:Bool)=>ς v6))=ς true:=by
   rcases h3 with e|e|e|e<;>rw[e]<;>simp only[Mh,Mj,zy385,zy386,Mm,Mn,zy387,Iz,IA,Mi,zy388,bz,au]<;>rfl
  rw[hb3]
  simp only[this.1,au]
  exact⟨zy64,zy64,this.2.2.mono oaa⟩
 rw[if_neg h3]
 have hb3:(bif eqB e.bp 5 then(ς (eqB e.bp 5)) else(ZW (bif eqB e.bp 6 then(ς (eqB e.bp 6)) else(ZW (bif eqB e.bp 7 then(ς (eqB e.bp 7)) else(ς (eqB e.bp 8))) λ(v7:Bool)=>ς v7)) λ(v6:Bool)=>ς v6))=ς false:=by
  rw[show eqB e.bp 5=η by simp_all,show eqB e.bp 6=η by simp_all,show eqB e.bp 7=η by simp_all,show eqB e.bp 8=η by simp_all];rfl
 rw[hb3]
 simp only[au]
 by_cases h4:e.bp=9\/e.bp=10
 .rw[if_pos h4]
  have:=Nk h e
  have hb4:(bif eqB e.bp 9 then(ς (eqB e.bp 9)) else(ς (eqB e.bp 10)))=ς true:=by rcases h4 with e|e<;>rw[e]<;>simp[eqB]
  rw[hb4]
  simp only[this.1,au]
  exact⟨zy64,zy64,this.2.2.mono oaa⟩
 rw[if_neg h4]
 have hb4:(bif eqB e.bp 9 then(ς (eqB e.bp 9)) else(ς (eqB e.bp 10)))=ς false:=by
  rw[show eqB e.bp 9=η by simp_all,show eqB e.bp 10=η by simp_all];rfl
 rw[hb4]
 simp only[au]
 by_cases h5:e.bp=11\/e.bp=12
 .rw[if_pos h5]
  have:=zy384 h e.cZ (eqB e.bp 12)
  have hb5:(bif eqB e.bp 11 then(ς (eqB e.bp 11)) else(ς (eqB e.bp 12)))=ς true:=by rcases h5 with e|e<;>rw[e]<;>simp[eqB]
  rw[hb5]
  simp only[this.1,au]
  exact⟨zy64,zy64,this.2.2.mono oaa⟩
 rw[if_neg h5]
 have hb5:(bif eqB e.bp 11 then(ς (eqB e.bp 11)) else(ς (eqB e.bp 12)))=ς false:=by
  rw[show eqB e.bp 11=η by simp_all,show eqB e.bp 12=η by simp_all];rfl
 rw[hb5]
 simp only[au]
 by_cases h6:e.bp=13
 .rw[if_pos h6,h6]
  have:=zy393 h e he oaa
  simp only[bz,this.1,au]
  exact⟨zy64,zy64,this.2.2.mono oaa⟩
 rw[if_neg h6,show eqB e.bp 13=η by simp_all]
 exact⟨zy64,zy64,h.mono oaa⟩
structure BY(n:ae):Prop where
 d1:∀d∈n.av,∀x∈d.bL.aA,okB x.bm
 d2:∀d∈n.av,∀p∈d.bL.a8,okB p.bm
 s1:∀s∈n.aD,∀p∈s.aU,okB p.bm
 s2:∀s∈n.aD,∀x∈s.aK.aM,okB x.bm
 f:∀f∈n.aV,okB f.cA.bH.bm
theorem NP.of(ok:zy92 n)(v:o7 n=ζ)(b:BY n):NP n.Lost n:=by
 simp only[o7,DD,hV,zy73,zy94,Ym,flB] at v
 obtain⟨v1,v2,v3,v4,v5,v6,v7,v8,v9,v10,v11,v12⟩:=v
 have v4:=vi v4
 have v5:=zy143 v5
 have v6:=zy143 v6
 have v8:=vi v8
 have v12:=vi v12
 refine⟨v1,ok.1,v2,zy81 (by simp_all),by omega,v5,v6,λi d s a hd hs ha=>?_,by omega,λf hf=>?_,zy73.2 v10,v11,⟨v12,by omega⟩⟩
 .have:=v7 i d hd
  simp only[zy140,hs,ha,hV] at this
  obtain⟨m1,m2,m3,m4,m5,m6,m7,m8⟩:=this
  have hdm:=Yh hd
  have hsm:=Yh hs
  have c1:=zy73.1 (show inR d.bg 0 ((n.d5.bI.length:Int)-1)=ζ from m5)
  have c2:=zy73.1 (show inR s.bg 0 ((n.d5.bI.length:Int)-1)=ζ from m6)
  exact⟨DP.of m1 (ok.2.1.2 d hdm) (b.d1 d hdm) (b.d2 d hdm),by omega,⟨(zy250 (ok.2.2.1.2 s hsm)).1 m2,b.s1 s hsm,b.s2 s hsm,zy272.1 m8⟩,by omega,zy80 m7,m4⟩
 have:=v9 f hf
 have c2:=zy73.1 (show inR f.bg 0 ((n.d5.bI.length:Int)-1)=ζ from this.2)
 exact⟨by omega,by omega,b.f f hf,ok.2.2.2.2.2 f hf⟩
theorem NP.okN(h:NP B n):zy92 n:=by
 have h1:=h.ld
 have h2:=h.ls
 have h3:=h.la
 have h4:=h.fl
 refine⟨h.mok,⟨by omega,λd hd=>?_⟩,⟨by omega,λs hs=>?_⟩,⟨by omega,λa ha=>?_⟩,⟨by omega,λf hf=>(h.fs f hf).ok⟩⟩
 .obtain⟨i,hi⟩:=Yr hd
  have hlt:=(Yg.1 hi).1
  obtain⟨d',s,a,zy131,e2,e3,hm⟩:=h.at_ hlt
  rw[hi] at zy131;cases zy131;exact hm.dp.ok
 .obtain⟨i,hi⟩:=Yr hs
  have hlt:=(Yg.1 hi).1
  obtain⟨d',s,a,zy131,e2,e3,hm⟩:=h.at_ (show i<n.av.length by omega)
  rw[hi] at e2;cases e2;exact hm.sg.sp.ok
 obtain⟨i,hi⟩:=Yr ha
 have hlt:=(Yg.1 hi).1
 obtain⟨d',s,a,zy131,e2,e3,hm⟩:=h.at_ (show i<n.av.length by omega)
 rw[hi] at e3;cases e3;exact hm.sg.mo.acc.ok
theorem NP.by_(h:NP B n):BY n:=by
 have h1:=h.ld
 have h2:=h.ls
 have gd:∀d∈n.av,DP d:=λd hd=>by
  obtain⟨i,hi⟩:=Yr hd
  obtain⟨d',s,a,zy131,e2,e3,hm⟩:=h.at_ (Yg.1 hi).1
  rw[hi] at zy131;cases zy131;exact hm.dp
 have gs:∀s∈n.aD,∃a,SG s a:=λs hs=>by
  obtain⟨i,hi⟩:=Yr hs
  have hlt:=(Yg.1 hi).1
  obtain⟨d',s,a,zy131,e2,e3,hm⟩:=h.at_ (show i<n.av.length by omega)
  rw[hi] at e2;cases e2;exact⟨a,hm.sg⟩
 exact⟨λd hd=>(gd d hd).rc.b1,λd hd=>(gd d hd).rc.b2,λs hs=>(gs s hs).elim λa h=>h.b1,λs hs=>(gs s hs).elim λa h=>h.b2,λf hf=>(h.fs f hf).b⟩
theorem NP.vn(h:NP B n):o7 n=true:=by
 have h1:=h.ld
 have h2:=h.ls
 have h3:=h.la
 have h4:=h.fl
 have h5:=h.lo
 have hu:eqB n.gT.fZ 0=false:=by simpa [eqB] using h.up
 simp only[o7,DD,hV,zy73,zy94,Ym,flB]
 refine⟨h.map,h.core,by simp[hu],leB_t.2 oaa,eqB_t.2 oaa,eqB_t.2 oaa,λi d hd=>?_,leB_t.2 oaa,λf hf=>?_,zy73.1 h.dn,h.nw,leB_t.2 h5.1⟩
 .obtain⟨d',s,a,zy131,e2,e3,hm⟩:=h.at_ (Yg.1 hd).1
  rw[hd] at zy131;cases zy131
  have hc:=hm.dp.ce
  have hsc:=hm.sg.sp
  simp only[zy140,e2,e3,hV]
  exact⟨hm.dp.v,(zy250 hm.sg.sp.ok).2 hm.sg.sp,yr.2 hm.sg.mo.acc,hm.ids,zy73.2 (by have:=hm.dc;omega),zy73.2 (by have:=hm.sc;have:=hsc.ce;omega),eqB_t.2 hm.si,zy272.2 hm.sg.mo⟩
 have hf:=h.fs f hf
 exact⟨by have:=hf.d;omega,zy73.2 (by have:=hf.c;omega)⟩
theorem zy396(x:Int)(m:Nat)(hm:m<9223372036854775808):0<=uL .i64 x (m:Int)/\uL .i64 x (m:Int)<=m:=by
 unfold uL
 have h1:(BitVec.ofInt IntKind.i64.bits x&&& BitVec.ofInt IntKind.i64.bits (m:Int)).toNat<=m:=by
  rw[BitVec.toNat_and]
  refine Zd Nat.and_le_right ?_
  show(BitVec.ofInt 64 (m:Int)).toNat<=m
  rw[BitVec.toNat_ofInt]
  omega
 rw[GJ oaa]
 omega
structure bA(c:aj):Prop where
 l:c.fb.length<=1048576
 u:∀x∈c.fb,zy69 x
 a:0<=c.fi
 b:c.fi<=c.fb.length
theorem zy397{c:aj}(h:bA c):∃v c',rj c=ς (v,c')/\0<=v/\v<=255/\bA c':=by
 unfold rj
 have:=h.l
 have ha:=h.a
 have hb:=h.b
 by_cases hi:c.fi<c.fb.length
 .obtain⟨x,hx,e⟩:=ix_in h.a hi
  rw[show ltB c.fi (c.fb.length:Int)=ζ from by simp_all]
  simp only[e,au]
  refine⟨_,_,rfl,(zy396 _ 255 oaa).1,(zy396 _ 255 oaa).2,⟨h.l,h.u,?_,?_⟩⟩
  .show 0<=WR (c.fi+1);rw[bM oaa];omega
  show WR (c.fi+1)<=(c.fb.length:Int);rw[bM oaa];omega
 rw[show ltB c.fi (c.fb.length:Int)=η from by simp_all]
 simp only[au]
 exact⟨_,_,rfl,(zy396 _ 255 oaa).1,(zy396 _ 255 oaa).2,⟨h.l,h.u,h.a,h.b⟩⟩
theorem zy398{v n:Int}(hv:0<=v)(hn:0<n):0<=ZX v n/\ZX v n<n:=by
 rw[Z5 hv]
 exact⟨aal _ oaa,aak _ hn⟩
theorem Ho{c:aj}(h:bA c){n:Int}(hn:1<=n):∃v c',a9 c n=ς (v,c')/\0<=v/\v<n/\bA c':=by
 unfold a9
 rw[show leB n 0=η from by simp[leB];omega]
 have hz:(!eqB n 0)=true:=by simp[eqB];omega
 simp only[hz,au]
 by_cases h2:n<=256
 .rw[show leB n 256=ζ from by simp_all]
  obtain⟨v,c',e,h0,h1,hc⟩:=zy397 h
  have:=zy398 h0 (show 0<n by omega)
  grind
 rw[show leB n 256=η from by simp_all]
 obtain⟨v,c1,e,h0,h1,hc⟩:=zy397 h
 obtain⟨v2,c2,e2,h02,h12,hc2⟩:=zy397 hc
 obtain⟨v3,c3,e3,h03,h13,hc3⟩:=zy397 hc2
 simp only[e,e2,e3,au]
 rw[bM (n:=v*65536) oaa,bM (n:=v2*256) oaa,bM (n:=v*65536+v2*256) oaa,bM (n:=v*65536+v2*256+v3) oaa]
 have:=zy398 (v:=v*65536+v2*256+v3) oaa (show 0<n by omega)
 grind
theorem zy399{c:aj}(h:bA c){n:Int}(hn:1<=n):∃v c',fD c n=ς (v,c')/\bA c':=by
 obtain⟨v,c',e,_,_,hc⟩:=Ho h hn
 exact⟨_,_,by rw[fD,e];rfl,hc⟩
theorem J8{xs:List Int}(hl:xs.length<=1048576)(hu:∀x∈xs,zy69 x):∃c,rV xs=ς c/\bA c/\c.fb=xs:=by
 have key:∀(m n k:Nat) (v:Int),m=xs.length-k->k<=xs.length->m<n->∃r,iter (sR xs) n (v,(k:Int))=ς r:=by
  intro m
  induction m with
  |zero=>
   intro n k v hm hk hn
   cases n with
   |zero=>omega
   |succ n=>
    have:k=xs.length:=by omega
    subst this
    exact⟨v,by rw[iter];simp[sR]⟩
  |succ m ih=>
   intro n k v hm hk hn
   cases n with
   |zero=>omega
   |succ n=>
    have hlt:k<xs.length:=by omega
    rw[iter]
    simp only[sR,zy65 hlt,zy62,Yf hlt,WRs (k:=k),au]
    cases ltB (k:Int) 4000
    .simp_all
    exact ih n (k+1) _ oaa oaa oaa
 obtain⟨r,hr⟩:=key xs.length FU 0 (WR (193017+(xs.length:Int))) oaa oaa (by have:=jU;omega)
 refine⟨⟨xs,0,r⟩,?_,⟨hl,hu,aat 0,Int.natCast_nonneg _⟩,rfl⟩
 rw[rV,show iter (sR xs) FU (WR (193017+(xs.length:Int)),0)=ς r from hr]
 rfl
theorem bK{c:aj}(h:bA c){n:Int}(hn:1<=n):Wp (a9 c n) (λr=>bA r.2/\0<=r.1/\r.1<n):=by
 obtain⟨v,c',e,h0,h1,hc⟩:=Ho h hn
 exact Wp.of e ⟨hc,h0,h1⟩
theorem zy400{c:aj}(h:bA c){n:Int}(hn:1<=n):Wp (fD c n) (λr=>bA r.2):=by
 obtain⟨v,c',e,hc⟩:=zy399 h hn
 exact Wp.of e hc
theorem zy401{c:aj}(h:bA c){xs:List Int}(hx:xs≠[]):Wp (fg c xs) (λr=>bA r.2/\r.1∈xs):=by
 have hl:0<xs.length:=aan.2 hx
 unfold fg
 refine Wp.call (bK h oaa) λr hr=>?_
 exact Wp.ix hr.2.1 hr.2.2 λx hm _=>Wp.some ⟨hr.1,hm⟩
theorem zy402{c:aj}(h:bA c){n:Int}(h0:0<=n)(hn:n<=4000):Wp (nj c n) (λr=>bA r.2/\okB r.1/\(r.1.length:Int)=n):=by
 unfold nj
 refine Wp.call (P:=λx=>bA x.2/\okB x.1/\(x.1.length:Int)=n) ?_ λx hx=>Wp.some hx
 refine Wp.iterF (λx=>(0<=x.1/\x.1<=n)/\bA x.2.2/\okB x.2.1/\(x.2.1.length:Int)=x.1) (λx=>(n-x.1).toNat) ⟨⟨by omega,by omega⟩,h,λx hx=>by simp at hx,by simp⟩ oaa ?_
 rintro⟨v1,v5,v6⟩ ⟨⟨i0,i1⟩,i2,i3,i4⟩
 simp only at i0 i1 i2 i3 i4
 simp only[Ai]
 refine Wp.cond (λhb=>?_) (λhb=>Wp.some ⟨i2,i3,by have:=zy78 hb;grind⟩)
 have hb:=zy77 hb
 obtain⟨b,c',e,b0,b1,hc⟩:=zy397 i2
 refine Wp.call (Wp.of (Q:=λr=>bA r.2/\0<=r.1/\r.1<=255) e ⟨hc,b0,b1⟩) λr hr=>?_
 refine Wp.ok (dS (by simp;omega) (by simp;omega)) (Wp.some ⟨⟨⟨?_,?_⟩,hr.1,?_,?_⟩,?_⟩)
 all_goals simp only[bM (show-9223372036854775808<=v1+1/\v1+1<=9223372036854775807 by omega)]
 .omega
 .omega
 .intro x hx
  rcases Yi.1 hx with hx|hx
  .exact i3 x hx
  simp at hx;subst hx
  have zy131:IntKind.u8.wrap r.1=r.1:=by rw[zy177];omega
  rw[zy131];exact hr.2
 .simp;omega
 omega
theorem wHas{l:List Int}(h:l.length<=1048576)(v:Int):Wp (wy l v) (λ_=>True):=by rw[Ly h v];exact Wp.some trivial
theorem zy403{P:α->Prop}{xs:List α}{a:α}(h:∀x∈xs,P x)(ha:P a):∀x∈xs.set i a,P x:=λx hx=>by
 grind
theorem wJoin{v:List (Int×List Int)}{a:Int}{B:Nat}(hB:B<=1000)(hv:∀e∈v,e.2.length<=B)(a0:0<=a)(a1:a<v.length)(b0:0<=b)(b1:b<v.length):Wp (ni v a b) (λr=>r.length=v.length/\∀e∈r,e.2.length<=B+2):=by
 unfold ni
 refine Wp.ix a0 a1 λx hx _=>?_
 have h1:=hv x hx
 refine Wp.ok (dS (by simp;omega) (by simp;omega)) ?_
 have hs:∀e∈v.set a.toNat (x.1,x.2++[b]),e.2.length<=B+1:=zy403 (λe he=>by grind) (by simp;omega)
 refine Wp.ix b0 (by simp_all) λy hy _=>?_
 have h2:=hs y hy
 refine Wp.ok (dS (by simp;omega) (by simp;omega)) (Wp.some ⟨by simp,zy403 (λe he=>by grind) (by simp;omega)⟩)
theorem zy404{c:aj}(h:bA c):Wp (mn c) (λr=>bA r.2/\(2<=r.1.length/\r.1.length<=5)/\∀e∈r.1,e.2.length<=200):=by
 unfold mn
 refine Wp.call (bK h oaa) λr1 h1=>?_
 obtain⟨n,hn⟩:∃n:Int,n=WR (2+r1.1):=⟨_,rfl⟩
 have hn1:n=2+r1.1:=by rw[hn,bM oaa]
 refine Wp.call (P:=λx=>bA ⟨x.1,x.2.1,x.2.2.1⟩/\(x.2.2.2.length:Int)=n) ?_ ?_
 .refine Wp.iterF (λx=>(0<=x.1/\x.1<=n)/\bA ⟨x.2.1,x.2.2.1,x.2.2.2.1⟩/\(x.2.2.2.2.length:Int)=x.1) (λx=>(n-x.1).toNat) ⟨⟨by omega,by omega⟩,h1.1,by simp⟩ oaa ?_
  rintro⟨v2,v3,v4,v5,v6⟩ ⟨⟨i0,i1⟩,i2,i3⟩
  simp only at i0 i1 i2 i3
  simp only[vB,<-hn]
  refine Wp.cond (λhb=>?_) (λhb=>Wp.some ⟨i2,by have:=zy78 hb;grind⟩)
  have hb:=zy77 hb
  refine Wp.call (bK i2 oaa) λr12 h12=>Wp.ok (dS (by simp;omega) (by simp;omega)) (Wp.some ⟨⟨⟨?_,?_⟩,h12.1,?_⟩,?_⟩)
  all_goals simp only[bM (show-9223372036854775808<=v2+1/\v2+1<=9223372036854775807 by omega)]
  .omega
  .omega
  .simp;omega
  omega
 rintro⟨v8,v9,v10,v11⟩ ⟨hc,hl⟩
 simp only at hc hl
 refine Wp.call (P:=λx=>bA ⟨x.1,x.2.1,x.2.2.1⟩/\(x.2.2.2.length:Int)=n/\∀e∈x.2.2.2,e.2.length<=200) ?_ ?_
 .refine Wp.iterF (λx=>(1<=x.1/\x.1<=n)/\bA ⟨x.2.1,x.2.2.1,x.2.2.2.1⟩/\(x.2.2.2.2.length:Int)=n/\∀e∈x.2.2.2.2,e.2.length<=20*x.1.toNat) (λx=>(n-x.1).toNat) ⟨⟨by omega,by omega⟩,hc,by grind,by simp⟩ oaa ?_
  rintro⟨v13,v14,v15,v16,v17⟩ ⟨⟨i0,i1⟩,i2,i3,i4⟩
  simp only at i0 i1 i2 i3 i4
  simp only[vC,<-hn]
  refine Wp.cond (λhb=>?_) (λhb=>Wp.some ⟨i2,i3,λe he=>by grind⟩)
  have hb:=zy77 hb
  refine Wp.call (P:=λx=>bA ⟨x.1,x.2.1,x.2.2.1⟩/\(x.2.2.2.length:Int)=n/\∀e∈x.2.2.2,e.2.length<=20*v13.toNat+2*v13.toNat) ?_ ?_
  .refine Wp.iterF (λx=>(0<=x.1/\x.1<=v13)/\bA ⟨x.2.1,x.2.2.1,x.2.2.2.1⟩/\(x.2.2.2.2.length:Int)=n/\∀e∈x.2.2.2.2,e.2.length<=20*v13.toNat+2*x.1.toNat) (λx=>(v13-x.1).toNat) ⟨⟨by omega,by omega⟩,i2,i3,by grind⟩ oaa ?_
   rintro⟨v43,v44,v45,v46,v47⟩ ⟨⟨j0,j1⟩,j2,j3,j4⟩
   simp only at j0 j1 j2 j3 j4
   simp only[vF]
   refine Wp.cond (λhc=>?_) (λhc=>Wp.some ⟨j2,j3,λe he=>by grind⟩)
   have hc:=zy77 hc
   refine Wp.call (P:=λx=>bA ⟨x.2.1,x.2.2.1,x.2.2.2⟩) ?_ ?_
   .refine Wp.cond (λ_=>Wp.call (zy400 j2 oaa) λr62 h62=>?_) (λ_=>Wp.call (zy400 j2 oaa) λr64 h64=>Wp.some h64)
    exact Wp.cond (λ_=>Wp.some h62) (λ_=>Wp.call (zy400 h62 oaa) λr63 h63=>Wp.some h63)
   rintro⟨v58,v59,v60,v61⟩ hc2
   refine Wp.call (P:=λx=>(x.length:Int)=n/\∀e∈x,e.2.length<=20*v13.toNat+2*v43.toNat+2) ?_ ?_
   .refine Wp.cond (λ_=>Wp.call (wJoin (B:=20*v13.toNat+2*v43.toNat) oaa j4 oaa oaa oaa oaa) λr65 h65=>Wp.some ⟨by omega,h65.2⟩) (λ_=>Wp.some ⟨j3,λe he=>by grind⟩)
   intro v62 h62
   refine Wp.some ⟨⟨⟨?_,?_⟩,hc2,h62.1,λe he=>?_⟩,?_⟩
   all_goals simp only[bM (show-9223372036854775808<=v43+1/\v43+1<=9223372036854775807 by omega)]
   .omega
   .omega
   .grind
   omega
  rintro⟨v55,v56,v57,v58⟩ ⟨k1,k2,k3⟩
  simp only at k1 k2 k3
  refine Wp.some ⟨⟨⟨?_,?_⟩,k1,k2,λe he=>?_⟩,?_⟩
  all_goals simp only[bM (show-9223372036854775808<=v13+1/\v13+1<=9223372036854775807 by omega)]
  .omega
  .omega
  .grind
  omega
 rintro⟨v40,v41,v42,v43⟩ ⟨hc,hl,hb⟩
 simp only at hc hl hb
 refine Wp.call (P:=λx=>(x.length:Int)=n/\∀e∈x,e.2.length<=200) ?_ λv78 h78=>Wp.some ⟨hc,by grind,h78.2⟩
 refine Wp.iterF (λx=>(0<=x.1/\x.1<=n)/\(x.2.length:Int)=n/\∀e∈x.2,e.2.length<=200) (λx=>(n-x.1).toNat) ⟨⟨by omega,by omega⟩,hl,hb⟩ oaa ?_
 rintro⟨v66,v67⟩ ⟨⟨i0,i1⟩,i3,i4⟩
 simp only at i0 i1 i3 i4
 simp only[vG,<-hn]
 refine Wp.cond (λhb=>?_) (λhb=>Wp.some ⟨i3,i4⟩)
 have hb:=zy77 hb
 refine Wp.call (P:=λx=>(x.length:Int)<=n) ?_ ?_
 .refine Wp.iterF (λx=>(0<=x.1/\x.1<=n)/\(x.2.length:Int)<=x.1) (λx=>(n-x.1).toNat) ⟨⟨by omega,by omega⟩,by simp⟩ oaa ?_
  rintro⟨v79,v80⟩ ⟨⟨j0,j1⟩,j2⟩
  simp only at j0 j1 j2
  simp only[vH,<-hn]
  refine Wp.cond (λhc=>?_) (λhc=>Wp.some oaa)
  have hc:=zy77 hc
  refine Wp.ix oaa oaa λx hx _=>?_
  refine Wp.call (wHas (by grind) _) λr86 _=>?_
  refine Wp.call (P:=λx=>(x.length:Int)<=v79+1) ?_ λx hx=>Wp.some ⟨⟨⟨?_,?_⟩,?_⟩,?_⟩
  .exact Wp.cond (λ_=>Wp.ok (dS (by simp;omega) (by simp;omega)) (Wp.some (by simp;omega))) (λ_=>Wp.some oaa)
  all_goals simp only[bM (show-9223372036854775808<=v79+1/\v79+1<=9223372036854775807 by omega)]
  all_goals omega
 intro v84 h84
 refine Wp.ix oaa oaa λx hx _=>Wp.some ⟨⟨⟨?_,?_⟩,by grind,zy403 i4 (by grind)⟩,?_⟩
 all_goals simp only[bM (show-9223372036854775808<=v66+1/\v66+1<=9223372036854775807 by omega)]
 all_goals omega
theorem Cz{v:List (Int×List Int)}(h1:v.length<=5)(h2:∀e∈v,e.2.length<=1000):zy82 (⟨v.map λe=>(⟨e.1,e.2⟩:d6)⟩:bi):=by
 refine⟨by grind,λx hx=>?_⟩
 obtain⟨e,he,rfl⟩:=Y7.1 hx
 exact⟨by grind,λ_ _=>trivial⟩
theorem wKey{c:aj}(h:bA c):Wp (o5 c) (λr=>bA r.2):=by
 unfold o5
 exact Wp.call (bK h oaa) λr1 h1=>Wp.some h1.1
structure JM(v:List (Int×List Int)):Prop where
 ar:∀e∈v,0<=e.1/\e.1<=1
 rg:∀(i:Nat) e,v[i]?=ς e->∀x∈e.2,0<=x/\x<v.length/\x≠i
 sy:∀(i j:Nat) e f,v[i]?=ς e->v[j]?=ς f->(j:Int)∈e.2->(i:Int)∈f.2
def LJ(v:List (Int×List Int))(a b:Nat)(x y:Int×List Int):List (Int×List Int):=(v.set a (x.1,x.2++[(b:Int)])).set b (y.1,y.2++[(a:Int)])
theorem yM{v:List (Int×List Int)}{a b:Nat}{x y:Int×List Int}(hx:v[a]?=ς x)(hy:v[b]?=ς y)(hab:a≠b){e':Int×List Int}(h:(LJ v a b x y)[i]?=ς e'):
 ∃e,v[i]?=ς e/\e'.1=e.1/\∀z,z∈e'.2↔z∈e.2\/(i=a/\z=b)\/(i=b/\z=a):=by
 rcases zy341 h with⟨zy131,e2⟩|⟨zy131,e2⟩
 .grind
 grind
theorem zy405{v:List (Int×List Int)}(h:JM v){a b:Nat}{x y:Int×List Int}(hx:v[a]?=ς x)(hy:v[b]?=ς y)(hab:a≠b):JM (LJ v a b x y):=by
 have ha:=(Yg.1 hx).1
 have hb:=(Yg.1 hy).1
 have hl:(LJ v a b x y).length=v.length:=by simp[LJ]
 refine⟨λe he=>?_,λi e he z hz=>?_,λi j e f he hf hj=>?_⟩
 .obtain⟨i,hi⟩:=Yr he
  obtain⟨e0,h0,h1,_⟩:=yM hx hy hab hi
  rw[h1];exact h.ar e0 (Yh h0)
 .obtain⟨e0,h0,h1,h2⟩:=yM hx hy hab he
  rw[hl]
  rcases(h2 z).1 hz with hz|hz|hz
  .exact h.rg i e0 h0 z hz
  .omega
  omega
 obtain⟨e0,h0,h1,h2⟩:=yM hx hy hab he
 obtain⟨f0,g0,g1,g2⟩:=yM hx hy hab hf
 rw[g2]
 rcases(h2 j).1 hj with hz|hz|hz
 .exact .inl (h.sy i j e0 f0 h0 g0 hz)
 .omega
 omega
theorem zy406{v:List (Int×List Int)}{a:Int}{B:Nat}(hB:B<=1000)(hv:∀e∈v,e.2.length<=B)(hj:JM v)(a0:0<=a)(a1:a<v.length)(b0:0<=b)(b1:b<v.length)(hab:a≠b):Wp (ni v a b) (λr=>(r.length=v.length/\∀e∈r,e.2.length<=B+2)/\JM r):=by
 obtain⟨i,rfl⟩:∃i:Nat,a=i:=⟨a.toNat,by omega⟩
 obtain⟨j,rfl⟩:∃j:Nat,b=j:=⟨b.toNat,by omega⟩
 obtain⟨x,hx⟩:∃x,v[i]?=ς x:=⟨_,Yf oaa⟩
 obtain⟨y,hy⟩:∃y,v[j]?=ς y:=⟨_,Yf oaa⟩
 have h1:=hv x (Yh hx)
 have h2:=hv y (Yh hy)
 have hy':(v.set i (x.1,x.2++[(j:Int)]))[j]?=ς y:=by rw[ZB,if_neg oaa];exact hy
 unfold ni
 rw[zy62,hx]
 simp only[ZY,ZZ]
 refine Wp.ok (dS (by simp;omega) (by simp;omega)) ?_
 rw[zy62,hy']
 simp only[ZY]
 refine Wp.ok (dS (by simp;omega) (by simp;omega)) (Wp.some ⟨⟨by simp,zy403 (zy403 (λe he=>by grind) (by simp;omega)) (by simp;omega)⟩,?_⟩)
 exact zy405 hj hx hy oaa
structure RW(n:Int)(e e':Int×List Int):Prop where
 a:e'.1=e.1
 m:∀z,z∈e'.2↔z∈e.2/\(0<=z/\z<n)
 o:e'.2.Pairwise λx y=>x<y
 l:(e'.2.length:Int)<=n
theorem zy407{v w:List (Int×List Int)}(h:JM v)(hl:w.length=v.length)(h2:2<=v.length/\v.length<=5)(hw:∀(i:Nat) e,v[i]?=ς e->∃e',w[i]?=ς e'/\RW v.length e e'):pP (⟨w.map λe=>(⟨e.1,e.2⟩:d6)⟩:bi)=true:=by
 have hlen:(w.map λe=>(⟨e.1,e.2⟩:d6)).length=v.length:=by simp[hl]
 have get:∀(i:Nat) c,(w.map λe=>(⟨e.1,e.2⟩:d6))[i]?=ς c->∃e e',v[i]?=ς e/\w[i]?=ς e'/\RW v.length e e'/\c=⟨e'.1,e'.2⟩:=by
  intro i c hc
  have hi:=(Yg.1 hc).1
  obtain⟨e,he⟩:∃e,v[i]?=ς e:=⟨_,Yf oaa⟩
  obtain⟨e',he',hr⟩:=hw i e he
  rw[YQ,he'] at hc
  cases hc;exact⟨e,e',he,he',hr,rfl⟩
 simp only[pP,hV,zy73,zy94,hlen]
 refine⟨by omega,λi c hc=>?_⟩
 obtain⟨e,e',he,he',hr,rfl⟩:=get i c hc
 have har:=h.ar e (Yh he)
 simp only[zy136,hV,zy73,zy94,nbB,zy134,hlen]
 refine⟨by rw[hr.a];omega,λk x hx=>?_⟩
 have hm:=Yh hx
 have hme:=(hr.m x).1 hm
 have hrg:=h.rg i e he x hme.1
 obtain⟨j,rfl⟩:∃j:Nat,x=j:=⟨x.toNat,by omega⟩
 refine⟨by omega,by have:=hrg.2.2;simpa [eqB] using this,Bg (key:=id) (by simpa using hr.o) hx,?_⟩
 obtain⟨f,hf⟩:∃f,v[j]?=ς f:=⟨_,Yf oaa⟩
 obtain⟨f',hf',hrf⟩:=hw j f hf
 have hi:=(Yg.1 he).1
 have hs:=h.sy i j e f he hf hme.1
 simp only[zy135,ZZ,YQ,hf',aag,YJ]
 exact⟨i,(hrf.m i).2 ⟨hs,by omega,by omega⟩,bz _⟩
theorem zy408{c:aj}(h:bA c):Wp (mn c) (λr=>bA r.2/\((2<=r.1.length/\r.1.length<=5)/\∀e∈r.1,e.2.length<=200)/\pP (⟨r.1.map λe=>(⟨e.1,e.2⟩:d6)⟩:bi)=ζ):=by
 unfold mn
 refine Wp.call (bK h oaa) λr1 h1=>?_
 obtain⟨n,hn⟩:∃n:Int,n=WR (2+r1.1):=⟨_,rfl⟩
 have hn1:n=2+r1.1:=by rw[hn,bM oaa]
 refine Wp.call (P:=λx=>bA ⟨x.1,x.2.1,x.2.2.1⟩/\(x.2.2.2.length:Int)=n/\∀a∈x.2.2.2,0<=a/\a<=1) ?_ ?_
 .refine Wp.iterF (λx=>(0<=x.1/\x.1<=n)/\bA ⟨x.2.1,x.2.2.1,x.2.2.2.1⟩/\(x.2.2.2.2.length:Int)=x.1/\∀a∈x.2.2.2.2,0<=a/\a<=1) (λx=>(n-x.1).toNat) ⟨⟨by omega,by omega⟩,h1.1,by simp,by simp⟩ oaa ?_
  rintro⟨v2,v3,v4,v5,v6⟩ ⟨⟨i0,i1⟩,i2,i3,i4⟩
  simp only at i0 i1 i2 i3 i4
  simp only[vB,<-hn]
  refine Wp.cond (λhb=>?_) (λhb=>Wp.some ⟨i2,by have:=zy78 hb;grind,i4⟩)
  have hb:=zy77 hb
  refine Wp.call (bK i2 oaa) λr12 h12=>Wp.ok (dS (by simp;omega) (by simp;omega)) (Wp.some ⟨⟨⟨?_,?_⟩,h12.1,?_,?_⟩,?_⟩)
  all_goals simp only[bM (show-9223372036854775808<=v2+1/\v2+1<=9223372036854775807 by omega)]
  .omega
  .omega
  .simp;omega
  .grind
  omega
 rintro⟨v8,v9,v10,v11⟩ ⟨hc,hl,har⟩
 simp only at hc hl har
 refine Wp.call (P:=λx=>bA ⟨x.1,x.2.1,x.2.2.1⟩/\((x.2.2.2.length:Int)=n/\∀e∈x.2.2.2,e.2.length<=200)/\JM x.2.2.2) ?_ ?_
 .refine Wp.iterF (λx=>(1<=x.1/\x.1<=n)/\bA ⟨x.2.1,x.2.2.1,x.2.2.2.1⟩/\((x.2.2.2.2.length:Int)=n/\∀e∈x.2.2.2.2,e.2.length<=20*x.1.toNat)/\JM x.2.2.2.2) (λx=>(n-x.1).toNat) ⟨⟨by omega,by omega⟩,hc,⟨by grind,by simp⟩,⟨by grind,λi e he x hx=>?_,λi j e f he hf hj=>?_⟩⟩ oaa ?_
  .grind
  .grind
  rintro⟨v13,v14,v15,v16,v17⟩ ⟨⟨i0,i1⟩,i2,⟨i3,i4⟩,i5⟩
  simp only at i0 i1 i2 i3 i4 i5
  simp only[vC,<-hn]
  refine Wp.cond (λhb=>?_) (λhb=>Wp.some ⟨i2,⟨i3,λe he=>by grind⟩,i5⟩)
  have hb:=zy77 hb
  refine Wp.call (P:=λx=>bA ⟨x.1,x.2.1,x.2.2.1⟩/\((x.2.2.2.length:Int)=n/\∀e∈x.2.2.2,e.2.length<=20*v13.toNat+2*v13.toNat)/\JM x.2.2.2) ?_ ?_
  .refine Wp.iterF (λx=>(0<=x.1/\x.1<=v13)/\bA ⟨x.2.1,x.2.2.1,x.2.2.2.1⟩/\((x.2.2.2.2.length:Int)=n/\∀e∈x.2.2.2.2,e.2.length<=20*v13.toNat+2*x.1.toNat)/\JM x.2.2.2.2) (λx=>(v13-x.1).toNat) ⟨⟨by omega,by omega⟩,i2,⟨i3,by grind⟩,i5⟩ oaa ?_
   rintro⟨v43,v44,v45,v46,v47⟩ ⟨⟨j0,j1⟩,j2,⟨j3,j4⟩,j5⟩
   simp only at j0 j1 j2 j3 j4 j5
   simp only[vF]
   refine Wp.cond (λhc=>?_) (λhc=>Wp.some ⟨j2,⟨j3,λe he=>by grind⟩,j5⟩)
   have hc:=zy77 hc
   refine Wp.call (P:=λx=>bA ⟨x.2.1,x.2.2.1,x.2.2.2⟩) ?_ ?_
   .refine Wp.cond (λ_=>Wp.call (zy400 j2 oaa) λr62 h62=>?_) (λ_=>Wp.call (zy400 j2 oaa) λr64 h64=>Wp.some h64)
    exact Wp.cond (λ_=>Wp.some h62) (λ_=>Wp.call (zy400 h62 oaa) λr63 h63=>Wp.some h63)
   rintro⟨v58,v59,v60,v61⟩ hc2
   refine Wp.call (P:=λx=>((x.length:Int)=n/\∀e∈x,e.2.length<=20*v13.toNat+2*v43.toNat+2)/\JM x) ?_ ?_
   .refine Wp.cond (λ_=>Wp.call (zy406 (B:=20*v13.toNat+2*v43.toNat) oaa j4 j5 oaa oaa oaa oaa oaa) λr65 h65=>Wp.some ⟨⟨by omega,h65.1.2⟩,h65.2⟩) (λ_=>Wp.some ⟨⟨j3,λe he=>by grind⟩,j5⟩)
   intro v62 h62
   refine Wp.some ⟨⟨⟨?_,?_⟩,hc2,⟨h62.1.1,λe he=>?_⟩,h62.2⟩,?_⟩
   all_goals simp only[bM (show-9223372036854775808<=v43+1/\v43+1<=9223372036854775807 by omega)]
   .omega
   .omega
   .grind
   omega
  rintro⟨v55,v56,v57,v58⟩ ⟨k1,⟨k2,k3⟩,k4⟩
  simp only at k1 k2 k3 k4
  refine Wp.some ⟨⟨⟨?_,?_⟩,k1,⟨k2,λe he=>?_⟩,k4⟩,?_⟩
  all_goals simp only[bM (show-9223372036854775808<=v13+1/\v13+1<=9223372036854775807 by omega)]
  .omega
  .omega
  .grind
  omega
 rintro⟨v40,v41,v42,v43⟩ ⟨hc,⟨hl,hb⟩,hj⟩
 simp only at hc hl hb hj
 have hn5:2<=v43.length/\v43.length<=5:=by omega
 refine Wp.call (P:=λx=>((x.length:Int)=n/\∀e∈x,e.2.length<=200)/\∀(i:Nat) e,v43[i]?=ς e->∃e',x[i]?=ς e'/\RW n e e') ?_ λv78 h78=>Wp.some ⟨hc,⟨by grind,h78.1.2⟩,zy407 hj (by grind) hn5 (by grind)⟩
 refine Wp.iterF (λx=>(0<=x.1/\x.1<=n)/\((x.2.length:Int)=n/\∀e∈x.2,e.2.length<=200)/\∀(i:Nat) e,v43[i]?=ς e->∃e',x.2[i]?=ς e'/\((i:Int)<x.1->RW n e e')/\(x.1<=(i:Int)->e'=e)) (λx=>(n-x.1).toNat) ⟨⟨by omega,by omega⟩,⟨hl,hb⟩,λi e he=>⟨e,he,λhi=>by omega,λ_=>rfl⟩⟩ oaa ?_
 rintro⟨v66,v67⟩ ⟨⟨i0,i1⟩,⟨i3,i4⟩,i5⟩
 simp only at i0 i1 i3 i4 i5
 simp only[vG,<-hn]
 refine Wp.cond (λhb=>?_) (λhb=>Wp.some ⟨⟨i3,i4⟩,λi e he=>?_⟩)
 rotate_left
 .obtain⟨e',h1,h2,h3⟩:=i5 i e he
  have hi:=(Yg.1 he).1
  have:=zy78 hb
  grind
 have hb:=zy77 hb
 obtain⟨q,rfl⟩:∃q:Nat,v66=q:=⟨v66.toNat,by omega⟩
 obtain⟨e0,he0⟩:∃e0,v43[q]?=ς e0:=⟨_,Yf oaa⟩
 obtain⟨eq',hq1,_,hq3⟩:=i5 q e0 he0
 have hq3:=hq3 (aat _)
 subst hq3
 have hl0:=i4 eq' (Yh hq1)
 refine Wp.call (P:=λx=>(x.length:Int)<=n/\(∀z,z∈x↔z∈eq'.2/\(0<=z/\z<n))/\x.Pairwise λx y=>x<y) ?_ ?_
 .refine Wp.iterF (λx=>(0<=x.1/\x.1<=n)/\(x.2.length:Int)<=x.1/\(∀z,z∈x.2↔z∈eq'.2/\(0<=z/\z<x.1))/\x.2.Pairwise λx y=>x<y) (λx=>(n-x.1).toNat) ⟨⟨by omega,by omega⟩,by simp,λz=>by simp,by simp⟩ oaa ?_
  rintro⟨v79,v80⟩ ⟨⟨j0,j1⟩,j2,j3,j4⟩
  simp only at j0 j1 j2 j3 j4
  simp only[vH,<-hn]
  refine Wp.cond (λhc=>?_) (λhc=>?_)
  rotate_left
  .have:=zy78 hc
   have e:v79=n:=by omega
   subst e
   exact Wp.some ⟨j2,j3,j4⟩
  have hc:=zy77 hc
  simp only[zy62,hq1,ZY,Ly (show eq'.2.length<=1048576 by omega)]
  have key:(eq'.2.any λx=>eqB x v79)=ζ↔v79∈eq'.2:=by
   rw[YJ];exact⟨λ⟨x,h1,h2⟩=>by rw[<-zy80 h2];exact h1,λh=>⟨v79,h,bz _⟩⟩
  refine Wp.call (P:=λx=>(x.length:Int)<=v79+1/\(∀z,z∈x↔z∈eq'.2/\(0<=z/\z<v79+1))/\x.Pairwise λx y=>x<y) ?_ λx hx=>Wp.some ⟨⟨⟨?_,?_⟩,?_,?_,hx.2.2⟩,?_⟩
  .refine Wp.cond (λhh=>Wp.ok (dS (by simp;omega) (by simp;omega)) (Wp.some ⟨by simp;omega,λz=>?_,?_⟩)) (λhh=>Wp.some ⟨by omega,λz=>?_,j4⟩)
   .grind
   .grind
   grind
  all_goals simp only[bM (show-9223372036854775808<=v79+1/\v79+1<=9223372036854775807 by omega)]
  .omega
  .omega
  .exact hx.1
  .exact hx.2.1
  omega
 intro v84 h84
 simp only[zy62,hq1,ZY,ZZ]
 refine Wp.some ⟨⟨⟨?_,?_⟩,⟨by grind,zy403 i4 (by grind)⟩,λi e he=>?_⟩,?_⟩
 all_goals simp only[bM (show-9223372036854775808<=(q:Int)+1/\(q:Int)+1<=9223372036854775807 by omega)]
 .omega
 .omega
 .obtain⟨e',h1,h2,h3⟩:=i5 i e he
  by_cases hi:q=i
  .subst hi
   rw[he0] at he;cases he
   exact⟨(eq'.1,v84),by grind,λ_=>⟨rfl,h84.2.1,h84.2.2,h84.1⟩,λh=>by omega⟩
  grind
 omega
theorem SR{c:aj}(h:bA c):Wp (yU c) (λr=>bA r.2/\zy82 r.1/\pP r.1=ζ):=by
 unfold yU
 exact Wp.call (zy408 h) λr hr=>Wp.some ⟨hr.1,Cz hr.2.1.1.2 (λe he=>by grind),hr.2.2⟩
theorem zy409{L:τ->Option (cH τ ρ)}(mk:Nat->τ)(xs:List α)(p:Nat->α->Bool)(f:ρ)(c:Option ρ)(hl:xs.length<=9223372036854775806)(hs:∀(k:Nat) (x:α),xs[k]?=ς x->k<xs.length->L (mk k)=bif p k x then ς (.next (mk (k+1))) else ς (.done f))(he:L (mk xs.length)=dn c):
 iter L FU (mk 0)=bif zy93 p xs then c else ς f:=by
 have:=zy61 (step:=L) xs.zipIdx (λk (_:Unit)=>mk k) (λ_ y=>bif p y.2 y.1 then ς (.next ()) else ς (.done f)) (λ_=>c) (by simp_all)
  (λk y s hy hk=>by
   have hk':k<xs.length:=by simpa using hk
   have:y=(xs[k],k):=by rw[Yf hk] at hy;simpa using hy.symm
   simp_all) (λs=>by simp_all) ()
 refine Eq.trans (show iter L FU (mk 0)=_ from this) ?_
 have key:∀ys:List (α×Nat),zy60 (λ(_:Unit) y=>bif p y.2 y.1 then ς (.next ()) else ς (cH.done f)) (λ_=>c) ys ()=bif ys.all (λy=>p y.2 y.1) then c else ς f:=by
  intro ys
  induction ys with
  |nil=>rfl
  |cons x xs ih=>rw[zy60];grind
 exact key _
theorem D4(xs:List α):zy93 (λ_ _=>ζ) xs=true:=zy94.2 λ_ _ _=>rfl
theorem IV(h:zy82 m):oP m=ς m:=by
 have hl:=h.1
 have:=zy409 (L:=jm m) (λk=>((k:Int),m.bI.take k)) m.bI (λ_ _=>ζ) m.bI (ς m.bI) oaa (λk x hx hk=>by
  have hm:=Yh hx
  have h1:=(h.2 x hm).1
  have e:m.bI.take (k+1)=m.bI.take k++[x]:=by rw[Z7,hx];rfl
  simp only[jm,zy65 hk,zy62,hx,Y8,e,WRs (k:=k),
   dS (b:=8) (n:=x.di.length) oaa oaa,
   dS (b:=32) (n:=(m.bI.take k++[(⟨x.g9,x.di⟩:d6)]).length) (by simp;omega) (by simp;omega),au]) (by simp[jm])
 rw[D4] at this
 have this:iter (jm m) FU (0,[])=ς m.bI:=by simpa using this
 rw[oP,this];rfl
def yg(x y:aP):Bool:=eqB x.ID.dE y.ID.dE&&(eqB x.ID.bZ y.ID.bZ&&ζ)
theorem zy410(x y:aP):yg x y=(eqB x.ID.dE y.ID.dE&&(eqB x.ID.bZ y.ID.bZ&&ζ)):=rfl
def zy411(rs:List aP)(k:Nat)(x:aP):Bool:=zy101 x&&zy93 (λ_ y=>!yg y x) (rs.take k)
def zy412(rs:List aP):Bool:=zy93 (zy411 rs) rs&&leB (rs.length:Int) 4
theorem Jb{xs:List α}{x:α}(h:(xs.take k)[i]?=ς x):xs[i]?=ς x/\i<k:=by
 grind
theorem zy413{rs:List aP}(hl:rs.length<=1000):rz rs=ς (zy412 rs):=by
 have h2:∀(i:Nat) (x:aP),rs[i]?=ς x->iter (ny rs (i:Int)) FU 0=bif zy93 (λ_ y=>!yg y x) (rs.take i) then ς (.next ((i+1:Nat):Int)) else ς (.done η):=by
  intro i x hx
  have hi:=(Yg.1 hx).1
  have hlt:(rs.take i).length=i:=by simp;omega
  refine zy133 (rs.take i) (λ_ y=>!yg y x) (cH.done η) _ oaa (λk y hy hk=>?_) (by simp[ny,hlt,WRs (k:=i)])
  obtain⟨hy',hki⟩:=Jb hy
  simp only[ny,zy65 hki,zy62,hx,hy',WRs (k:=k),<-zy410,au]
  cases yg y x<;>rfl
 have hL:iter (nu rs) FU 0=bif zy93 (zy411 rs) rs then ς (leB (rs.length:Int) 4) else ς false:=by
  refine zy133 rs (zy411 rs) η _ oaa (λk x hx hk=>?_) (by simp[nu])
  simp only[nu,zy65 hk,zy62,hx,Rx,h2 k x hx,zy411,au]
  cases zy101 x<;>cases zy93 (λ_ y=>!yg y x) (rs.take k)<;>rfl
 simp only[rz,hL,zy412]
 grind
def zy414(c:Nat)(rs:List aP)(j:Nat):ax:=⟨⟨(rs.getD j default).ID,(rs.getD j default).gS,(rs.getD j default).c9⟩,0,ZX (j:Int) (c:Int),0,0,0,η,0,⟨1,[],[]⟩⟩
def qU(p:bY)(rs:List aP)(j:Nat):ah:=⟨rs.getD j default,p,0,⟨0,0,0,0,0⟩,0,0,0,0,0,0,⟨0,0,0⟩,[],⟨1,[]⟩,0,⟨(j:Int),0,0⟩⟩
def zy415(b:Int):Int:=bif inR b 0 100000 then b else 0
def zy416(b:Int):an:=⟨zy415 b,zy415 b,0,[]⟩
def zy417(m:bi)(rs:List aP)(p:bY)(b:Int)(n:Nat):ae:=
 ⟨m,(v0 n).map (zy414 m.bI.length rs),(v0 n).map (qU p rs),(v0 n).map (λ_=>zy416 b),[],0,⟨2,3⟩,0,0⟩
def zeroN:ae:=⟨⟨[]⟩,[],[],[],[],0,⟨0,0⟩,0,0⟩
theorem zy418(b:Int):oK b=ς (zy416 b):=by
 simp only[oK,zy97,ZY,zy416,zy415];cases inR b 0 100000<;>rfl
theorem zy419(h:zy87 p)(x:aP)(k:Int):oL x p k=ς (⟨x,p,0,⟨0,0,0,0,0⟩,0,0,0,0,0,0,⟨0,0,0⟩,[],⟨1,[]⟩,0,⟨k,0,0⟩⟩:ah):=by
 have h1:=h.1
 simp only[oL,s8,Y8,dS (b:=8) (n:=p.bX.length) oaa oaa,au];rfl
theorem zy420(c:lj)(k:Int):tR c k=ς (⟨c,0,k,0,0,0,η,0,⟨1,[],[]⟩⟩:ax):=by rfl
theorem zy421(f:Nat->α)(k:Nat):(v0 (k+1)).map f=(v0 k).map f++[f k]:=by rw[List.range_succ,List.map_append];rfl
theorem Ui[Inhabited α]{xs:List α}{x:α}(h:xs[k]?=ς x):xs.getD k default=x:=by simp_all
def mkN(m:bi)(rs:List aP)(p:bY)(b:Int)(k:Nat):Int×List an×List ah×List ax:=((k:Int),(zy417 m rs p b k).bD,(zy417 m rs p b k).aD,(zy417 m rs p b k).av)
theorem new_s(hm:zy82 m){rs:List aP}(hl:rs.length<=1000)(hp:zy87 p)(b:Int):
 qV m rs p b=ς (bif pP m&&(qQ p&&zy412 rs) then zy417 m rs p b rs.length else zeroN):=by
 simp only[qV,zy138 hm,zy114 hp,zy413 hl,ZY]
 cases hv:pP m with
 |false=>rfl
 |true=>
  cases qQ p with
  |false=>rfl
  |true=>
   cases zy412 rs with
   |false=>rfl
   |true=>
    have hc:1<=m.bI.length:=by
     simp only[pP,hV] at hv
     have:=zy73.1 hv.1;omega
    have hz:eqB (m.bI.length:Int) 0=false:=eqB_f.2 oaa
    have:=zy409 (L:=mU m rs p b) (mkN m rs p b) rs (λ_ _=>ζ) ((zy417 m rs p b rs.length).bD,(zy417 m rs p b rs.length).aD,(zy417 m rs p b rs.length).av) (ς ((zy417 m rs p b rs.length).bD,(zy417 m rs p b rs.length).aD,(zy417 m rs p b rs.length).av)) oaa (λk x hx hk=>by
     simp only[mkN,zy417,mU,zy65 hk,zy62,hx,hz,zy420,ct,zy419 hp,zy418,WRs (k:=k),zy421,
      dS (b:=144) (n:=((v0 k).map (zy414 m.bI.length rs)++[(⟨⟨x.ID,x.gS,x.c9⟩,0,ZX (k:Int) (m.bI.length:Int),0,0,0,η,0,⟨1,[],[]⟩⟩:ax)]).length) (by simp;omega) (by simp;omega),
      dS (b:=288) (n:=((v0 k).map (qU p rs)++[(⟨x,p,0,⟨0,0,0,0,0⟩,0,0,0,0,0,0,⟨0,0,0⟩,[],⟨1,[]⟩,0,⟨(k:Int),0,0⟩⟩:ah)]).length) (by simp;omega) (by simp;omega),
      dS (b:=48) (n:=((v0 k).map (λ_=>zy416 b)++[(⟨(zy416 b).fL,(zy416 b).bN,(zy416 b).fj,[]⟩:an)]).length) (by simp;omega) (by simp;omega),zy414,qU,Ui hx,au]
     rfl) (by simp[mkN,mU])
    rw[D4] at this
    simp only[Bool.and_self,IV hm,au]
    rw[show((0:Int),([]:List an),([]:List ah),([]:List ax))=mkN m rs p b 0 from rfl,this]
    rfl
section
variable{m:bi}{rs:List aP}{p:bY}{b:Int}
theorem zy422:WR 0=0:=bM oaa
theorem zy423:WR 1=1:=bM oaa
theorem okN(hm:zy82 m)(hp:zy87 p)(hl:rs.length<=1000):zy92 (zy417 m rs p b rs.length):=by
 refine⟨hm,⟨by simp[zy417];omega,λx hx=>?_⟩,⟨by simp[zy417];omega,λx hx=>?_⟩,⟨by simp[zy417];omega,λx hx=>?_⟩,⟨by simp[zy417],λx hx=>by simp[zy417] at hx⟩⟩
 .obtain⟨k,_,rfl⟩:=Y7.1 hx
  exact⟨⟨by simp[zy414],by simp[zy414]⟩,⟨by simp[zy414],by simp[zy414]⟩⟩
 .obtain⟨k,_,rfl⟩:=Y7.1 hx
  exact⟨hp,⟨by simp[qU],by simp[qU]⟩,⟨by simp[qU],by simp[qU]⟩⟩
 obtain⟨k,_,rfl⟩:=Y7.1 hx
 exact⟨by simp[zy416],λ_ _=>trivial⟩
theorem EB(f:Nat->α){n:Nat}(hk:k<n):((v0 n).map f)[k]?=ς (f k):=by simp[hk]
theorem zy424{f:Nat->α}{n:Nat}{x:α}(h:((v0 n).map f)[k]?=ς x):k<n/\x=f k:=by
 grind
theorem zy425(b:Int):0<=zy415 b/\zy415 b<=100000:=by
 unfold zy415
 cases h:inR b 0 100000 with
 |false=>simp
 |true=>simpa using zy73.1 h
variable(H:pP m=ζ/\qQ p=ζ/\zy412 rs=ζ)
include H
theorem zy426:1<=m.bI.length/\m.bI.length<=6:=by
 obtain⟨hv,hs,hr⟩:=id H
 simp only[pP,hV] at hv
 have:=zy73.1 hv.1;omega
theorem Mu(hk:k<rs.length):zy101 (rs.getD k default)=true:=by
 obtain⟨hv,hs,hr⟩:=id H
 simp only[zy412,hV] at hr
 have:=zy94.1 hr.1 k _ (Yf hk)
 simp only[zy411,hV] at this
 simp_all
theorem Ry:rs.length<=4:=by
 obtain⟨hv,hs,hr⟩:=id H
 simp only[zy412,hV] at hr
 have:=vi hr.2;omega
theorem zy427(hk:k<rs.length):nQ (zy414 m.bI.length rs k)=true:=by
 obtain⟨hv,hs,hr⟩:=id H
 have h1:=Mu H hk
 obtain⟨c1,c2⟩:=zy426 H
 have h2:=zy398 (v:=(k:Int)) (n:=(m.bI.length:Int)) oaa oaa
 simp only[zy101,hV] at h1
 simp only[nQ,zy414,xH,h1.1,h1.2.1,h1.2.2,zy73.2 (show(0:Int)<=ZX (k:Int) (m.bI.length:Int)/\ZX (k:Int) (m.bI.length:Int)<=5 from⟨h2.1,by omega⟩),Z6,Zz]
 simp[inR,leB,zy98,zy107,zJ,zy93,eqB,zy423]
theorem zy428(hk:k<rs.length):zy121 (qU p rs k)=true:=by
 obtain⟨hv,hs,hr⟩:=id H
 have h1:=Mu H hk
 have hq:zy105 (⟨(k:Int),0,0⟩:dy)=true:=by simp[zy105,leB]
 simp only[zy121,qU,h1,hs,hq,Z6]
 have hp:zy119 (qU p rs k)=true:=by
  simp[zy119,qU,Kn,hq,zy111,zy422,leB]
 simp only[qU] at hp
 rw[hp]
 simp[inR,leB,ltB,zy98,zy102,zy115,zy120,zJ,zy93,eqB,zy423]
theorem zy429:zy127 (zy416 b)=true:=by
 obtain⟨hv,hs,hr⟩:=id H
 obtain⟨b1,b2⟩:=zy425 b
 simp only[zy127,zy416,Vn,GV,List.foldl_nil,Int.add_zero,bM (show-9223372036854775808<=zy415 b/\zy415 b<=9223372036854775807 by omega),zy73.2 (show(0:Int)<=zy415 b/\zy415 b<=100000 from⟨b1,b2⟩),zy73.2 (show(0:Int)<=zy415 b/\zy415 b<=zy415 b from⟨b1,by omega⟩),zy73.2 (show(0:Int)<=0/\(0:Int)<=zy415 b from⟨by omega,b1⟩),bz,Z6,Zz]
 simp[leB,zy93]
theorem zy430(hk:k<rs.length):zy140 (zy417 m rs p b rs.length) k (zy414 m.bI.length rs k)=true:=by
 obtain⟨hv,hs,hr⟩:=id H
 obtain⟨c1,c2⟩:=zy426 H
 have h2:=zy398 (v:=(k:Int)) (n:=(m.bI.length:Int)) oaa oaa
 have hq:zy105 (⟨(k:Int),0,0⟩:dy)=true:=by simp[zy105,leB]
 have zy131:(zy417 m rs p b rs.length).aD[k]?=ς (qU p rs k):=EB _ hk
 have e2:(zy417 m rs p b rs.length).bD[k]?=ς (zy416 b):=EB _ hk
 have i1:zy139 (zy414 m.bI.length rs k) (qU p rs k)=true:=by simp[zy139,zy414,qU]
 have i2:zy134 (zy417 m rs p b rs.length).d5 (zy414 m.bI.length rs k).bg=true:=zy73.2 (show(0:Int)<=ZX (k:Int) (m.bI.length:Int)/\ZX (k:Int) (m.bI.length:Int)<=(m.bI.length:Int)-1 from⟨h2.1,by omega⟩)
 have i3:zy134 (zy417 m rs p b rs.length).d5 (qU p rs k).bg=true:=zy73.2 (show(0:Int)<=0/\(0:Int)<=(m.bI.length:Int)-1 from⟨by omega,by omega⟩)
 have i4:wi (zy416 b) (qU p rs k).ci=true:=by
  have ha:=zy429 (b:=b) H
  simp only[zy416] at ha
  simp[wi,ha,qU,hq,zy129,zy416,eqB]
 have i5:eqB (qU p rs k).ci.aH (k:Int)=true:=by simp[qU]
 simp only[zy140,zy131,e2,zy427 H hk,zy428 H hk,zy429 (b:=b) H,i1,i2,i3,i4,i5,Zz]
theorem zy431:o7 (zy417 m rs p b rs.length)=true:=by
 obtain⟨hv,hs,hr⟩:=id H
 obtain⟨c1,c2⟩:=zy426 H
 have hl:=Ry H
 have he:DD (zy417 m rs p b rs.length)=true:=by
  have:∀c:Nat,1<=c->c<=6->inR 0 0 (WR ((my .i64 1 (c:Int))-1))=true:=by
   intro c h1 h2
   rcases(show c=1\/c=2\/c=3\/c=4\/c=5\/c=6 by omega) with rfl|rfl|rfl|rfl|rfl|rfl<;>kernel_rfl
  simp only[DD,zy417,this _ c1 c2,Z6];simp[inR,leB]
 have hp:zy104 (zy417 m rs p b rs.length).gT=true:=by show zy104 ⟨2,3⟩=ζ;kernel_rfl
 have ha:zy93 (zy140 (zy417 m rs p b rs.length)) (zy417 m rs p b rs.length).av=true:=zy94.2 λk d hd=>by
  obtain⟨hk,rfl⟩:=zy424 hd
  exact zy430 H hk
 have hd:(zy417 m rs p b rs.length).av.length=rs.length:=by simp[zy417]
 have hse:(zy417 m rs p b rs.length).aD.length=rs.length:=by simp[zy417]
 have hac:(zy417 m rs p b rs.length).bD.length=rs.length:=by simp[zy417]
 simp only[o7,show pP (zy417 m rs p b rs.length).d5=ζ from hv,hp,ha,he,hd,hse,hac,bz,leB_t.2 (show(rs.length:Int)<=4 by omega),Z6,Zz]
 simp[zy417,leB,eqB]
end
theorem zT:∀(l:List Int) (r:ByteArray),(l.foldl (λr n=>r.push (UInt8.ofNat n.toNat)) r).data.toList=r.data.toList++l.map λn=>UInt8.ofNat n.toNat
 |[],r=>by simp
 |x::l,r=>by
  rw[aaa,zT l,Yu]
  simp_all
theorem Pq{a b:List Int}(ha:okB a)(hb:okB b)(h:mz a=mz b):a=b:=by
 have h1:=zT a ByteArray.empty
 have h2:=zT b ByteArray.empty
 have e:(a.foldl (λr n=>r.push (UInt8.ofNat n.toNat)) ByteArray.empty).data.toList=(b.foldl (λr n=>r.push (UInt8.ofNat n.toNat)) ByteArray.empty).data.toList:=by
  have:mz a=mz b:=h
  unfold mz at this;rw[this]
 rw[h1,h2] at e
 replace e:=List.append_cancel_left e
 clear h h1 h2
 induction a generalizing b with
 |nil=>simp_all
 |cons x a ih=>cases b with
  |nil=>simp at e
  |cons y b=>
   simp only[Yu,List.cons.injEq] at e
   have hx:=ha x (by simp)
   have hy:=hb y (by simp)
   have zy131:=congrArg UInt8.toNat e.1
   simp only[zy69] at hx hy
   rw[UInt8.toNat_ofNat',UInt8.toNat_ofNat'] at zy131
   rw[ih (λz hz=>ha z (by simp[hz])) (λz hz=>hb z (by simp[hz])) e.2,show x=y by omega]
theorem Vh{a b:List Int}(ha:okB a)(hb:okB b):strB (mz a) (mz b)=decide (a=b):=by
 rw[Z1,strB_t,decide_eq_true_eq]
 exact⟨Pq ha hb,λh=>by rw[h]⟩
theorem UJ{x y:aF}(hx:okB x.bH.bm)(hy:okB y.bH.bm):qT x y=ς (decide (x=y)):=by
 have key:(bif eqB x.ag y.ag then bif eqB x.aZ y.aZ then bif eqB x.bH.dQ y.bH.dQ then bif eqB x.bH.eJ y.bH.eJ then bif eqB x.bH.kf y.bH.kf then decide (x.bH.bm=y.bH.bm) else η else η else η else η else η)=decide (x=y):=by
  rw[Z1]
  obtain⟨g,e,⟨a,b,c,d⟩⟩:=x
  obtain⟨g',e',⟨a',b',c',d'⟩⟩:=y
  simp only[eqB,cond_eq_ite]
  simp only[decide_eq_true_eq,aF.mk.injEq,bC.mk.injEq]
  constructor
  .simp_all
  simp_all
 rw[<-key]
 simp only[qT,rS,oF,Vh hx hy]
 grind
def U6(a b:aT):Bool:=(eqB a.bp b.bp&&(eqB a.bg b.bg&&(eqB a.ag b.ag&&(eqB a.aZ b.aZ&&(eqB a.bZ b.bZ&&(eqB a.cj.fT b.cj.fT&&(eqB a.cj.ji b.cj.ji&&(eqB a.cj.kf b.cj.kf&&(eqB a.cj.uH b.cj.uH&&(eqB a.cj.gS b.cj.gS&&(eqB a.kf b.kf&&ζ)))))))))))
theorem zy432(a b:aT):U6 a b=decide (a=b):=by
 rw[Z1]
 obtain⟨a1,a2,a3,a4,a5,⟨v1,v2,v3,v4,v5⟩,a6⟩:=a
 obtain⟨b1,b2,b3,b4,b5,⟨zy423,w2,w3,w4,w5⟩,b6⟩:=b
 simp only[U6,hV,eqB_t,decide_eq_true_eq,aT.mk.injEq,cY.mk.injEq]
 grind
theorem Xl{x y:bJ}(hx:okB x.cA.bH.bm)(hy:okB y.cA.bH.bm):nz x y=ς (decide (x=y)):=by
 have key:(eqB x.bk y.bk&&(booB x.dm y.dm&&(booB x.cS y.cS&&(eqB x.bg y.bg&&(U6 x.bh y.bh&&decide (x.cA=y.cA))))))=decide (x=y):=by
  rw[Z1]
  obtain⟨a1,a2,a3,a4,a5,a6⟩:=x
  obtain⟨b1,b2,b3,b4,b5,b6⟩:=y
  simp only[zy432,hV,eqB_t,booB_t,decide_eq_true_eq,bJ.mk.injEq]
 rw[<-key]
 simp only[nz,UJ hx hy,ZY]
 rw[show(eqB x.bh.bp y.bh.bp&&(eqB x.bh.bg y.bh.bg&&(eqB x.bh.ag y.bh.ag&&(eqB x.bh.aZ y.bh.aZ&&(eqB x.bh.bZ y.bh.bZ&&(eqB x.bh.cj.fT y.bh.cj.fT&&(eqB x.bh.cj.ji y.bh.cj.ji&&(eqB x.bh.cj.kf y.bh.cj.kf&&(eqB x.bh.cj.uH y.bh.cj.uH&&(eqB x.bh.cj.gS y.bh.cj.gS&&(eqB x.bh.kf y.bh.kf&&ζ)))))))))))=U6 x.bh y.bh from rfl]
 grind
def hUp(s:ah)(m:aT):Bool:=
 bif eqB m.bp 3 then leB m.ag s.b7.c9&&(!eqB m.ag s.bO||!eqB m.bZ s.aA.uH) else
 bif eqB m.bp 5||eqB m.bp 8 then ltB m.ag s.ag||(eqB m.ag s.ag&&!zy187 s.bj m) else ζ
def Lx(d:ax)(m:aT):Bool:=
 bif eqB m.bp 2 then eqB (zy194 d.dZ.gS d.dZ.dq m.cj) 1||eqB (zy194 d.dZ.gS d.dZ.dq m.cj) 2 else
 bif eqB m.bp 4||eqB m.bp 6 then ltB m.ag d.ag||(eqB m.ag d.ag&&!zy187 d.bj m) else ζ
def zy433(d:ax)(x:aF):Bool:=ltB x.ag d.ag||(eqB x.ag d.ag&&!zy173 d.bj x)
def zy434(n:ae)(f:bJ):Bool:=match n.av[f.bk.toNat]?,n.aD[f.bk.toNat]? with
 |some d,ς s=>bif f.cS then f.dm||zy433 d f.cA else bif f.dm then hUp s f.bh else Lx d f.bh
 |_,_=>ζ
def zy435(n:ae)(e:dF):Bool:=!eqB e.bp 13||(!xA n e.bS||(n.aV.any (λf=>decide (f=e.bS))||zy434 n e.bS))
theorem hUp_s(s:ah)(m:aT):nB s m=ς (hUp s m):=by
 simp only[nB,zy188,ZY,hUp]
 grind
theorem Uj{d:ax}(m:aT):kS d m=ς (Lx d m):=by
 simp only[kS,zy188,MZ,ZY,Lx]
 grind
theorem W4(h:NP B n)(f:bJ):jw n f=ς (xA n f):=by
 have hm6:=zy328 h.map
 have hl:=h.ld
 simp only[jw,xA,zy97,bM (n:=(n.d5.bI.length:Int)-1) oaa,bM (n:=(n.av.length:Int)-1) oaa,ZY]
 rw[show inR f.bg 0 ((n.d5.bI.length:Int)-1)=zy134 n.d5 f.bg from rfl]
 grind
theorem zy436(h:NP B n)(he:EP e):zy25 n e=ς (zy435 n e):=by
 have hfl:=h.fl
 simp only[zy25,NZ h.okN,h.vn,W4 h,ZY,zy435]
 cases eqB e.bp 13
 .rfl
 cases hp:xA n e.bS
 .rfl
 simp only[Zy,au]
 simp only[xA,hV,zy73] at hp
 obtain⟨d,s,a,zy131,e2,e3,hm⟩:=h.at_ (show e.bS.bk.toNat<n.av.length by omega)
 have hdev:=zy353 e.bS.bk hp.2.1.1
 have i1:ix n.av e.bS.bk=ς d:=by rw[hdev,zy62];exact zy131
 have i2:ix n.aD e.bS.bk=ς s:=by rw[hdev,zy62];exact e2
 have:=zy133 (L:=zy24 n e) n.aV (λ_ f=>!decide (f=e.bS)) ζ (ς (zy434 n e.bS)) oaa (λk x hx hk=>by
  have hx':=h.fs x (Yh hx)
  simp only[zy24,zy65 hk,zy62,hx,Xl hx'.b he.r,WRs (k:=k),dn,au]
  grind) (by
  simp only[zy24,bE,i1,i2,hUp_s,Uj,uJ he.r,zy434,zy131,e2,zy433,au]
  grind)
 rw[this,zy95]
 grind
theorem zy437(x:Int): -9223372036854775808<=WR x/\WR x<=9223372036854775807:=by
 have e:WR x=if x%18446744073709551616 >= 9223372036854775808 then x%18446744073709551616-18446744073709551616 else x%18446744073709551616:=by
  show IntKind.wrap .i64 x=_
  unfold IntKind.wrap
  simp[IntKind.bits,IntKind.signed]
 rw[e]
 split<;>omega
abbrev R64(x:Int):Prop:= -9223372036854775808<=x/\x<=9223372036854775807
theorem R64.z:R64 0:=by decide
def SgR(m:aT):Prop:=R64 m.ag/\R64 m.aZ
def SgC(m:aT):Prop:=R64 m.bg/\SgR m
def RaR(x:aF):Prop:=R64 x.bH.eJ/\R64 x.aZ
structure RgF(f:bJ):Prop where
 d:R64 f.bk
 c:R64 f.bg
 k:R64 f.bh.bg
 s:SgR f.bh
 r:RaR f.cA
theorem zy438{c:aj}(h:bA c):Wp (vI c) (λr=>bA r.2/\r.1.bX.length<=4/\qQ r.1=ζ):=by
 unfold vI
 refine Wp.call (bK h oaa) λr1 h1=>Wp.call (bK h1.1 oaa) λr2 h2=>Wp.call (bK h2.1 oaa) λr3 h3=>?_
 refine Wp.call (P:=λx=>bA x.2/\x.1.length<=4/\(∀a∈x.1,0<=a/\a<=3)/\x.1.Pairwise λa b=>a<b) ?_ ?_
 .refine Wp.iterF (λx=>(0<=x.1/\x.1<=4)/\bA x.2.2/\(x.2.1.length:Int)<=x.1/\(∀a∈x.2.1,0<=a/\a<x.1)/\x.2.1.Pairwise λa b=>a<b) (λx=>(4-x.1).toNat) ⟨⟨by omega,by omega⟩,h3.1,by simp,by simp,by simp⟩ (by simp) ?_
  rintro⟨v4,v8,v9⟩ ⟨⟨i0,i1⟩,i2,i3,i4,i5⟩
  simp only at i0 i1 i2 i3 i4 i5
  simp only[Aj]
  refine Wp.cond (λhb=>?_) (λhb=>Wp.some ⟨i2,by grind,λa ha=>by grind,i5⟩)
  have hb:=zy77 hb
  refine Wp.call (zy400 i2 oaa) λr15 h15=>?_
  refine Wp.call (P:=λx=>(x.length:Int)<=v4+1/\(∀a∈x,0<=a/\a<v4+1)/\x.Pairwise λa b=>a<b) ?_ λx hx=>Wp.some ⟨⟨⟨?_,?_⟩,h15,?_,?_,hx.2.2⟩,?_⟩
  .refine Wp.cond (λ_=>Wp.ok (dS (by simp;omega) (by simp;omega)) (Wp.some ⟨by simp;omega,λa ha=>?_,?_⟩)) (λ_=>Wp.some ⟨by omega,λa ha=>by grind,i5⟩)
   .grind
   grind
  all_goals simp only[bM (show-9223372036854775808<=v4+1/\v4+1<=9223372036854775807 by omega)]
  .omega
  .omega
  .exact hx.1
  .exact hx.2.1
  omega
 rintro⟨x,c2⟩ ⟨k1,k2,k3,k4⟩
 simp only at k1 k2 k3 k4
 refine Wp.some ⟨k1,k2,?_⟩
 simp only[qQ,Gq,hV,zy73,zy94]
 rw[bM (show-9223372036854775808<=1+r1.1/\1+r1.1<=9223372036854775807 by omega),bM (show-9223372036854775808<=1+r2.1/\1+r2.1<=9223372036854775807 by omega),bM (show-9223372036854775808<=1+r3.1/\1+r3.1<=9223372036854775807 by omega)]
 refine⟨⟨by omega,by omega,by omega⟩,λk a ha=>⟨k3 a (Yh ha),Bg (key:=id) (by simp_all) ha⟩⟩
theorem SW{c:aj}(h:bA c):Wp (lH c) (λr=>bA r.2/\(1<=r.1.length/\r.1.length<=3)/\zy412 r.1=ζ/\∀y∈r.1,y.c9<=20):=by
 unfold lH
 refine Wp.call (bK h oaa) λr1 h1=>?_
 have hw:WR (1+r1.1)=1+r1.1:=bM oaa
 refine Wp.call (P:=λx=>bA x.2/\(x.1.length:Int)=1+r1.1/\∀(k:Nat) y,x.1[k]?=ς y->zy101 y=ζ/\y.ID.bZ=1+r1.1-k/\y.c9<=20) ?_ ?_
 .refine Wp.iterF (λx=>0<=x.1/\bA x.2.2/\(x.2.1.length:Int)+x.1=1+r1.1/\∀(k:Nat) y,x.2.1[k]?=ς y->zy101 y=ζ/\y.ID.bZ=1+r1.1-k/\y.c9<=20) (λx=>x.1.toNat) ⟨by omega,h1.1,by rw[hw];simp,by simp⟩ oaa ?_
  rintro⟨v2,v6,v7⟩ ⟨i0,i2,i3,i4⟩
  simp only at i0 i2 i3 i4
  simp only[qy]
  refine Wp.cond (λhb=>?_) (λhb=>Wp.some ⟨i2,by have:=zy78 hb;grind,i4⟩)
  have hb:=zy77 hb
  have hkey:Wp (o5 v7) (λr=>bA r.2/\zy98 r.1=ζ):=by
   unfold o5
   exact Wp.call (bK i2 oaa) λr1 h1=>Wp.some ⟨h1.1,zy73.2 (by rw[bM oaa];omega)⟩
  refine Wp.call hkey λr13 h13=>Wp.call (bK h13.1 oaa) λr14 h14=>Wp.ok (dS (by simp;omega) (by simp;omega)) (Wp.some ⟨⟨?_,h14.1,?_,λk y hy=>?_⟩,?_⟩)
  rotate_left 2
  .rw[List.getElem?_append] at hy
   split at hy
   .grind
   rename_i hk
   have hk0:k-v6.length=0:=by
    have:=(Yg.1 hy).1
    simp at this;omega
   rw[hk0] at hy
   simp at hy;subst hy
   simp only[zy101,GY,hV,zy73]
   grind
  all_goals simp only[bM (show-9223372036854775808<=v2-1/\v2-1<=9223372036854775807 by omega)]
  .omega
  .omega
  grind
 rintro⟨x,c2⟩ ⟨k1,k2,k3⟩
 simp only at k1 k2 k3
 refine Wp.some ⟨k1,by grind,?_,λy hy=>by obtain⟨k,hk⟩:=Yr hy;grind⟩
 simp only[zy412,hV,zy94,zy411]
 refine⟨λk y hy=>⟨(k3 k y hy).1,λi z hz=>?_⟩,leB_t.2 oaa⟩
 obtain⟨hz1,hz2⟩:=Jb hz
 have zy131:=(k3 k y hy).2.1
 have e2:=(k3 i z hz1).2.1
 have:eqB z.ID.bZ y.ID.bZ=false:=eqB_f.2 oaa
 simp[yg,this]
inductive zy439:Nat->ae->Prop
 |new {m:bi} {rs:List aP} {p:bY} {b:Int} (h:pP m=ζ/\qQ p=ζ/\zy412 rs=ζ) (hm:zy82 m) (hp:zy87 p) (hl:1<=rs.length/\rs.length<=3) (hq:∀y∈rs,y.c9<=20):zy439 0 (zy417 m rs p b rs.length)
 |step {k:Nat} {n:ae} {e:dF}:zy439 k n->EP e->zy435 n e=ζ->zy439 (k+1) (zy394 n e).2
def FS(n:ae)(e:dF):Prop:=e.bp=13->RgF e.bS/\(e.bS.cS=ζ->e.bS.dm=η/\∃d,n.av[e.bS.bk.toNat]?=ς d/\e.bS.cA.ag=d.ag/\zy173 d.bj e.bS.cA=η)
theorem zy440(n:ae)(h:e.bp≠13):FS n e:=λh1=>absurd h1 h
inductive zy441:Nat->ae->Prop
 |new {m:bi} {rs:List aP} {p:bY} {b:Int} (h:pP m=ζ/\qQ p=ζ/\zy412 rs=ζ) (hm:zy82 m) (hp:zy87 p) (hl:1<=rs.length/\rs.length<=3) (hq:∀y∈rs,y.c9<=20):zy441 0 (zy417 m rs p b rs.length)
 |step {k:Nat} {n:ae} {e:dF}:zy441 k n->EP e->zy435 n e=ζ->FS n e->zy441 (k+1) (zy394 n e).2
theorem zy441.re:∀{k:Nat} {n:ae},zy441 k n->zy439 k n
 |_,_,.new h hm hp hl hq=>.new h hm hp hl hq
 |_,_,.step h he hh _=>.step h.re he hh
theorem zy439.np:∀{k:Nat} {n:ae},zy439 k n->k<=1000000->NP (10000*(k:Int)) n
 |_,_,.new (m:=m) (rs:=rs) (p:=p) (b:=b) h hm hp hl _,_=>by
  have ok:zy92 (zy417 m rs p b rs.length):=okN hm hp oaa
  have v:=zy431 (b:=b) h
  have by':BY (zy417 m rs p b rs.length):=by
   refine⟨λd hd=>?_,λd hd=>?_,λs hs=>?_,λs hs=>?_,by simp[zy417]⟩
   .simp only[zy417,Y7] at hd;obtain⟨j,_,rfl⟩:=hd;simp[zy414]
   .simp only[zy417,Y7] at hd;obtain⟨j,_,rfl⟩:=hd;simp[zy414]
   .simp only[zy417,Y7] at hs;obtain⟨j,_,rfl⟩:=hs;simp[qU]
   simp only[zy417,Y7] at hs;obtain⟨j,_,rfl⟩:=hs;simp[qU]
  exact(NP.of ok v by').mono (by show(0:Int)<=_;omega)
 |_,_,.step (k:=k) h he _,hk=>by
  have:=(zy395 (h.np oaa) he oaa).2.2
  grind
theorem zy442{k i c:Int}{b:List Int}(hb:okB b):EP ⟨k,i,c,b,fN⟩:=⟨hb,zy336,λx hx=>by simp[fN,ez,fQ] at hx⟩
theorem zy443(n:ae)(h:e.bp≠13):zy435 n e=true:=by
 rw[zy435,eqB_f.2 h];rfl
theorem UE(h:NP B n)(hs:n.aD[i]?=ς s)(b:List Int):(zy394 n ⟨8,i,0,b,fN⟩).2={n with aD:=n.aD.set i (zy251 s b).1}:=by
 have hi:=(Yg.1 hs).1
 have hls:=h.ls
 obtain⟨d,s',a,zy131,e2,e3,hm⟩:=h.at_ (show i<n.av.length by omega)
 have hr:inR (i:Int) 0 ((n.av.length:Int)-1)=true:=zy73.2 oaa
 simp only[zy394]
 rw[if_neg (show ¬(8:Int)=1 by omega),if_neg (show ¬((8:Int)=2\/(8:Int)=3\/(8:Int)=4) by omega),if_pos (show(8:Int)=5\/(8:Int)=6\/(8:Int)=7\/True by simp)]
 simp only[DH,hr,ZZ,zy131,hs,zy387,Iz,IA,au]
 cases hb:(zy251 s b).2
 .have hs':(zy251 s b).1=s:=by
   revert hb;rw[zy251];cases leB 24 (s.aU.length:Int)||ltB 60 (b.length:Int)
   .simp_all
   intro _;rfl
  simp only[cond_false,hs',zy342 hs]
 rfl
theorem W1(h:NP B n){d:ax}(hd:n.av[i]?=ς d):(zy394 n ⟨5,i,0,[],fN⟩).2=zy339 n i (dOn d):=by
 have hi:=(Yg.1 hd).1
 obtain⟨d',s,a,zy131,e2,e3,hm⟩:=h.at_ hi
 have hr:inR (i:Int) 0 ((n.av.length:Int)-1)=true:=zy73.2 oaa
 simp only[zy394]
 rw[if_neg (show ¬(5:Int)=1 by omega),if_neg (show ¬((5:Int)=2\/(5:Int)=3\/(5:Int)=4) by omega),if_pos (show True\/(5:Int)=6\/(5:Int)=7\/(5:Int)=8 by simp)]
 simp only[DH,hr,ZZ,hd,e2,bz,au]
 cases hb:eqB d.bB 0
 .simp only[zy339,dOn,hb,zy342 hd,List.map_nil,au];rfl
 rfl
def RN(B:Nat)(l:Nat)(n:ae):Prop:=∃k,zy441 k n/\k<=B/\n.av.length=l
theorem RN.np{B:Nat}(h:RN B l n)(hB:B<=1000000):∃b:Int,NP b n/\b<=10000000000:=by
 obtain⟨k,h1,h2,_⟩:=h
 exact⟨_,h1.re.np oaa,by omega⟩
theorem RN.sub{B:Nat}(h:RN B l n)(hB:B<=1000000)(hs:n.aD[i]?=ς s){b:List Int}(hb:okB b):RN (B+1) l {n with aD:=n.aD.set i (zy251 s b).1}:=by
 obtain⟨b',hn,_⟩:=h.np hB
 obtain⟨k,h1,h2,h3⟩:=h
 have:=zy441.step h1 (zy442 (k:=8) (i:=(i:Int)) (c:=0) hb) (zy443 n (by simp)) (zy440 n (by simp))
 rw[UE hn hs b] at this
 exact⟨_,this,by omega,h3⟩
theorem RN.on{B:Nat}(h:RN B l n)(hB:B<=1000000){d:ax}(hd:n.av[i]?=ς d):RN (B+1) l (zy339 n i (dOn d)):=by
 obtain⟨b',hn,_⟩:=h.np hB
 obtain⟨k,h1,h2,h3⟩:=h
 have:=zy441.step h1 (zy442 (k:=5) (i:=(i:Int)) (c:=0) (b:=[]) (λx hx=>by simp at hx)) (zy443 n (by simp)) (zy440 n (by simp))
 rw[W1 hn hd] at this
 exact⟨_,this,by omega,by rw[(zy355 n i (dOn d)).1];exact h3⟩
def RZ(B:Nat)(l:Nat)(n:ae):Prop:=∃k,zy441 k n/\k<=B/\n.av.length=l/\n.cP=0
theorem RZ.rn{B:Nat}(h:RZ B l n):RN B l n:=by
 obtain⟨k,h1,h2,h3,_⟩:=h;exact⟨k,h1,h2,h3⟩
theorem RZ.np{B:Nat}(h:RZ B l n)(hB:B<=1000000):∃b:Int,NP b n/\b<=10000000000:=h.rn.np hB
theorem RZ.sub{B:Nat}(h:RZ B l n)(hB:B<=1000000)(hs:n.aD[i]?=ς s){b:List Int}(hb:okB b):RZ (B+1) l {n with aD:=n.aD.set i (zy251 s b).1}:=by
 obtain⟨k,h1,h2,h3⟩:=h.rn.sub hB hs hb
 exact⟨k,h1,h2,h3,h.choose_spec.2.2.2⟩
theorem RZ.on{B:Nat}(h:RZ B l n)(hB:B<=1000000){d:ax}(hd:n.av[i]?=ς d):RZ (B+1) l (zy339 n i (dOn d)):=by
 obtain⟨k,h1,h2,h3⟩:=h.rn.on hB hd
 exact⟨k,h1,h2,h3,(zy333 ((dOn d).cT.map (iM i ζ)) {n with av:=n.av.set i (dOn d).bk}).2.2.2.2.1.trans h.choose_spec.2.2.2⟩
theorem zy444{c:aj}(h:bA c):Wp (zy19 c) (λr=>bA r.2/\∃l,(1<=l/\l<=3)/\RZ 40 l r.1):=by
 unfold zy19
 refine Wp.call (zy438 h) λr1 h1=>?_
 have hp:zy87 r1.1:=⟨by omega,λ_ _=>trivial⟩
 refine Wp.call (P:=λx=>bA x.2.2.2.2.2.2.2.1/\∃l,(1<=l/\l<=3)/\RZ 0 l ⟨⟨x.2.2.2.2.2.2.1⟩,x.2.2.2.2.2.1,x.2.2.2.2.1,x.2.2.2.1,[],x.1,x.2.2.2.2.2.2.2.2,x.2.1,x.2.2.1⟩) ?_ ?_
 .refine Wp.call (SR h1.1) λr16 h16=>Wp.call (SW h16.1) λr17 h17=>Wp.call (bK h17.1 oaa) λr18 h18=>?_
  have hv:pP r16.1=ζ/\qQ r1.1=ζ/\zy412 r17.1=true:=⟨h16.2.2,h1.2.2,h17.2.2.1⟩
  have hl:=h17.2.1
  rw[new_s h16.2.1 oaa hp,hv.1,hv.2.1,hv.2.2]
  refine Wp.some ⟨h18.1,r17.1.length,hl,0,?_,Nat.le_refl _,by simp[zy417]⟩
  exact zy441.new (b:=WR (30+r18.1)) hv h16.2.1 hp hl h17.2.2.2
 rintro⟨v5,v8,v9,v10,v11,v12,v13,v14,v15⟩ ⟨hc,l,hl,hr⟩
 simp only at hc hr
 refine Wp.call (P:=λx=>bA x.1/\RZ 40 l x.2) ?_ λx hx=>Wp.some ⟨hx.1,l,hl,hx.2⟩
 refine Wp.iterF (λx=>(0<=x.1/\x.1<=(l:Int))/\bA x.2.1/\RZ (7*x.1.toNat) l x.2.2) (λx=>((l:Int)-x.1).toNat) ⟨⟨by omega,by omega⟩,hc,hr⟩ oaa ?_
 rintro⟨v20,v34,n⟩ ⟨⟨i0,i1⟩,i2,i3⟩
 simp only at i0 i1 i2 i3
 obtain⟨b,hn,hb⟩:=i3.np oaa
 have hdl:n.av.length=l:=i3.choose_spec.2.2.1
 simp only[zy18]
 refine Wp.cond (λhb=>?_) (λhb=>Wp.some ⟨i2,?_⟩)
 rotate_left
 .obtain⟨k,g1,g2,g3⟩:=i3;exact⟨k,g1,by omega,g3⟩
 have hb:=zy77 hb
 obtain⟨q,rfl⟩:∃q:Nat,v20=q:=⟨v20.toNat,by omega⟩
 refine Wp.call (bK i2 oaa) λr117 h117=>?_
 refine Wp.call (P:=λx=>bA x.2/\RZ (7*q+6) l {n with aD:=x.1}) ?_ ?_
 .refine Wp.iterF (λx=>(0<=x.1/\x.1<=6)/\bA x.2.2/\RZ (7*q+(6-x.1.toNat)) l {n with aD:=x.2.1}) (λx=>x.1.toNat) ⟨⟨by omega,by omega⟩,h117.1,?_⟩ oaa ?_
  .obtain⟨k,g1,g2,g3⟩:=i3;exact⟨k,g1,by omega,g3⟩
  rintro⟨v118,v122,v123⟩ ⟨⟨j0,j1⟩,j2,j3⟩
  simp only at j0 j1 j2 j3
  simp only[zy16]
  refine Wp.cond (λhc=>?_) (λhc=>Wp.some ⟨j2,?_⟩)
  rotate_left
  .obtain⟨k,g1,g2,g3⟩:=j3;exact⟨k,g1,by omega,g3⟩
  have hc:=zy77 hc
  obtain⟨b',hn',_⟩:=j3.np oaa
  have hls:=hn'.ls
  simp only at hls
  obtain⟨s,hs⟩:∃s,v122[q]?=ς s:=⟨_,Yf oaa⟩
  obtain⟨d',s',a',zy131,e2,e3,hm⟩:=hn'.at_ (i:=q) (by simp_all)
  simp only at zy131 e2 e3
  rw[hs] at e2;cases e2
  simp only[zy62,hs,ZY]
  refine Wp.call (bK j2 oaa) λr135 h135=>Wp.call (zy402 h135.1 h135.2.1 oaa) λr136 h136=>?_
  rw[Sp hm.sg.sp.ok]
  simp only[ZY,ZZ]
  refine Wp.some ⟨⟨⟨?_,?_⟩,h136.1,?_⟩,?_⟩
  all_goals simp only[bM (show-9223372036854775808<=v118-1/\v118-1<=9223372036854775807 by omega)]
  .omega
  .omega
  .have:=j3.sub oaa (i:=q) hs h136.2.1
   grind
  omega
 rintro⟨v132,v133⟩ ⟨k1,k2⟩
 simp only at k1 k2
 obtain⟨b',hn',_⟩:=k2.np oaa
 obtain⟨d,hd⟩:∃d,n.av[q]?=ς d:=⟨_,Yf oaa⟩
 obtain⟨d',s',a',zy131,e2,e3,hm⟩:=hn'.at_ (i:=q) (by simp_all)
 simp only at zy131
 rw[hd] at zy131;cases zy131
 refine Wp.call (zy400 k1 oaa) λr139 h139=>?_
 refine Wp.call (P:=λx=>RZ (7*q+7) l x) ?_ λx hx=>Wp.some ⟨⟨⟨?_,?_⟩,h139,?_⟩,?_⟩
 .refine Wp.cond (λ_=>?_) (λ_=>Wp.some ?_)
  .simp only[zy62,hd,WY hm.dp.ok,ZY,ZZ]
   have hlen:=(FB d).len
   have:=zy61 (step:=zy17 (q:Int) (dOn d)) (dOn d).cT (λk n=>((k:Int),n)) (λn x=>ZW (g8 n (iM (q:Int) ζ x)) λr=>ς (.next r)) ς oaa
    (λk x n hx hk=>by
     simp only[zy17,zy65 hk,zy62,hx,WRs (k:=k),iM,au]
     simp_all) (λn=>by simp[zy17]) {n with av:=n.av.set q (dOn d).bk,aD:=v132}
   rw[zy335 g8 (iM (q:Int) ζ) (λn x=>zy330 (zy337 (q:Int) ζ x))] at this
   rw[show iter (zy17 (q:Int) (dOn d)) FU (0,{n with av:=n.av.set q (dOn d).bk,aD:=v132})=_ from this]
   exact Wp.some (k2.on oaa (i:=q) hd)
  obtain⟨k,g1,g2,g3⟩:=k2;exact⟨k,g1,by omega,g3⟩
 all_goals simp only[bM (show-9223372036854775808<=(q:Int)+1/\(q:Int)+1<=9223372036854775807 by omega)]
 .omega
 .omega
 .grind
 omega
theorem X2{c:aj}(h:bA c):Wp (zy19 c) (λr=>bA r.2/\∃l,(1<=l/\l<=3)/\RN 40 l r.1):=
 Wp.mono (zy444 h) λr ⟨h1,l,h2,h3⟩=>⟨h1,l,h2,h3.rn⟩
end Go.AM
