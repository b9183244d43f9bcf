/- A part. -/
import Derived.Test.YtgbcdgihmgapeaaGreatL
set_option linter.unusedVariables false
set_option linter.unusedSimpArgs false
set_option maxHeartbeats 4000000
open Option renaming some->ς,none->ξ
open Bool renaming true->ζ,false->η
open True renaming intro->θ
open Option renaming bind_some->abJ,bind->abG,map_some->abZ
open Bool renaming and_eq_true->hV,eq_iff_iff->abM,or_eq_false_iff->Z2,not_eq_false'->abQ,true_and->abU,and_true->abp,not_eq_true'->Z4,or_self->ab0,false_or->aam
open List renaming getElem?_eq_some_iff->v0,getElem?_eq_getElem->ZM,mem_of_getElem?->ZL,getElem?_of_mem->ZY,mem_append->ZO,nil_append->aaC,mem_map->aaA,range->ZN,pairwise_cons->abO,length_cons->Z5,all_eq_true->ZR,pairwise_append->abT,mem_cons->ZQ,getElem?_mapIdx->abX,takeWhile_cons->abY,takeWhile_append_dropWhile->ab4,getElem_mem->abR,mem_singleton->abo,take_add_one->abS,cons_append->Z9,dropWhile_subset->ab5,foldl_cons->ab1,mem_range->abV,ext_getElem?->abW,drop_eq_getElem_cons->aas,rel_of_pairwise_cons->ab9,getElem?_append_left->ZU,any_eq_true->Z7,take_of_length_le->ab8,takeWhile_subset->aca,dropWhile_cons->acb,length_pos_iff->acd,length_append->aaf,getElem?_set->aa7,getElem?_map->Z8,length->ab2,drop_length->ace,length_take->aaG,length_nil->ab3,map_cons->aaD
open Int renaming toNat_natCast->abL,tmod_eq_emod_of_nonneg->abN,tmod->abH,emod_lt_of_pos->ab6,emod_nonneg->ab7,le_refl->abK
open Nat renaming add_sub_cancel->abP,mul_le_mul->acf,le_trans->Z0,zero_le->Z1,le_refl->ZV
namespace Go.AM
variable{σ τ ρ α β:Type}{n:Go.AM.ab}{k:Nat}{p:Go.AM.bK}{a:Go.AM.am}{b i B:Int}{e:Go.AM.cY}{r:Go.AM.be}{w:Go.AM.bu}{s:Go.AM.ah}{x:Go.AM.ae}{m:Go.AM.aV}{f:Go.AM.bT}{q:Go.AM.cU}{t:List Go.AM.aJ}
theorem zy43:9223372036854775808<=FU:=by unfold FU;omega
def kP{α σ ρ:Type}(body:σ->α->Option (ct σ ρ))(fin:σ->Option ρ):List α->σ->Option ρ
 |[],s=>fin s
 |x::xs,s=>match body s x with
  |some (.next s')=>kP body fin xs s'
  |some (.done r)=>ς r
  |none=>ξ
def zy44(f:σ->τ):Option (ct σ ρ)->Option (ct τ ρ)
 |some (.next s)=>ς (.next (f s))
 |some (.done r)=>ς (.done r)
 |none=>ξ
@[simp] theorem stepM_next (f:σ->τ) (s:σ):zy44 (ρ:=ρ) f (ς (.next s))=ς (.next (f s)):=rfl
@[simp] theorem stepM_done (f:σ->τ) (r:ρ):zy44 f (ς (.done r))=ς (.done r):=rfl
@[simp] theorem stepM_none (f:σ->τ):zy44 (ρ:=ρ) f ξ=none:=rfl
@[simp] theorem stepM_cond (f:σ->τ) (b:Bool) (x y:Option (ct σ ρ)):zy44 f (bif b then x else y)=bif b then zy44 f x else zy44 f y:=by cases b<;>rfl
@[simp] theorem stepM_bind (f:σ->τ) (o:Option α) (k:α->Option (ct σ ρ)):zy44 f (abG o k)=abG o (λa=>zy44 f (k a)):=by cases o<;>rfl
@[simp] theorem dn_some (r:ρ):dn (σ:=σ) (ς r)=ς (.done r):=rfl
@[simp] theorem dn_none {ρ:Type}:dn (σ:=σ) (ρ:=ρ) ξ=none:=rfl
theorem zy45{step:τ->Option (ct τ ρ)}(xs:List α)(mk:Nat->σ->τ)(body:σ->α->Option (ct σ ρ))(fin:σ->Option ρ)(hl:xs.length<=9223372036854775806)(hs:∀(k:Nat) (x:α) (s:σ),xs[k]?=ς x->k<xs.length->step (mk k s)=zy44 (mk (k+1)) (body s x))(he:∀s,step (mk xs.length s)=dn (fin s))(s0:σ):iter step FU (mk 0 s0)=kP body fin xs s0:=by
 have key:∀(m n:Nat) (s:σ) (k:Nat),m=xs.length-k->k<=xs.length->m<n->iter step n (mk k s)=kP body fin (xs.drop k) s:=by
  intro m
  induction m with
  |zero=>
   intro n s k hm hk hn
   cases n with
   |zero=>omega
   |succ n=>
    have:k=xs.length:=by omega
    subst this
    rw[ace,kP,iter,he]
    cases fin s<;>rfl
  |succ m ih=>
   intro n s k hm hk hn
   cases n with
   |zero=>omega
   |succ n=>
    have hlt:k<xs.length:=by omega
    rw[aas hlt,kP,iter,hs k xs[k] s (ZM hlt) hlt]
    cases hb:body s xs[k] with
    |none=>rfl
    |some o=>
     cases o with
     |done r=>rfl
     |next s'=>exact ih n s' (k+1) oaa oaa oaa
 have:=key (xs.length-0) FU s0 0 rfl (Z1 _) (by have:=zy43;omega)
 simp_all
theorem bh(xs:List α)(k:Nat):ix xs (k:Int)=xs[k]?:=by simp[ix,leB]
theorem zy46{n:Int}(h: -9223372036854775808<=n/\n<=9223372036854775807):WR n=n:=GH h
theorem zy47(h:k<9223372036854775807):WR ((k:Int)+1)=((k+1:Nat):Int):=by rw[zy46 oaa];omega
theorem WRs(h:k<9223372036854775807:=by omega):WR ((k:Int)+1)=((k+1:Nat):Int):=zy47 h
theorem zy48{p:Prop}(h:p:=by first|rfl|trivial):p:=h
theorem cE{a b:Nat}(h:a<b):ltB (a:Int) (b:Int)=true:=by simp[ltB,h]
theorem zy49(a:Int):ltB a a=false:=by simp[ltB]
theorem bF(a:Int):eqB a a=true:=by simp[eqB]
attribute [local simp] zy49 bF bh
def okL(ok:α->Prop)(xs:List α):Prop:=xs.length<=1048576/\∀x∈xs,ok x
def preL(pre:α->Prop)(xs:List α):Prop:=xs.length<=9223372036854775807/\∀x∈xs,pre x
theorem zy50{α ρ:Type}{body:Unit->α->Option (ct Unit ρ)}{fin:Unit->Option ρ}:∀(xs:List α),(∀x∈xs,body () x=ς (.next ()))->kP body fin xs ()=fin ()
 |[],_=>rfl
 |x::xs,h=>by rw[kP,h x (by simp)];exact zy50 xs (λy hy=>h y (by simp[hy]))
def zy51(by_:Nat)(p:α->Bool)(f:α->β)(acc:List β)(x:α):Option (ct (List β) (List β)):=
 bif p x then(bif cW by_ (acc++[f x]).length then ς (.next (acc++[f x])) else ξ) else ς (.next acc)
theorem zy52{α β:Type}{by_:Nat}(hb:by_<=100000)(p:α->Bool)(f:α->β):∀(xs:List α) (acc:List β),acc.length+xs.length<=1048576->kP (zy51 by_ p f) ς xs acc=ς (acc++(xs.filter p).map f)
 |[],acc,h=>by simp[kP]
 |x::xs,acc,h=>by
  simp only[Z5] at h
  rw[kP]
  cases hp:p x with
  |false=>
   rw[List.filter_cons_of_neg (by simp[hp])]
   simpa [zy51,hp] using zy52 hb p f xs acc oaa
  |true=>
   have ha:cW by_ (acc++[f x]).length=true:=by
    have h1:(acc++[f x]).length*by_<=1048577*100000:=acf (by simp;omega) hb
    simp only[cW,decide_eq_true_eq]
    refine⟨by omega,by simp;omega⟩
   rw[List.filter_cons_of_pos (by simp[hp])]
   simp only[zy51,hp,ha,cond_true]
   rw[zy52 hb p f xs (acc++[f x]) (by simp;omega)]
   simp
theorem zy53{by_ n:Nat}(hb:by_<=100000)(hn:n<=1048577):cW by_ n=true:=by
 have h1:n*by_<=1048577*100000:=acf hn hb
 simp only[cW,decide_eq_true_eq]
 omega
def zy54(n:Int):Prop:=0<=n/\n<=255
theorem wf_u8{n:Int}(h:(Lit.int .u8 n).wf=ζ):zy54 n:=by
 simp[Lit.wf,IntKind.min,IntKind.max,IntKind.signed,IntKind.bits] at h
 exact⟨by omega,by omega⟩
theorem s7{L:Int->Option (ct Int Int)}(xs:List α)(p:α->Bool)(hl:xs.length<=9223372036854775806)(hs:∀(k:Nat) (x:α),xs[k]?=ς x->k<xs.length->L (k:Int)=bif p x then ς (.done (k:Int)) else ς (.next ((k+1:Nat):Int)))(he:L (xs.length:Int)=ς (.done (-1))):
 iter L FU 0=ς (m0 p 0 xs):=by
 have key:∀(m n:Nat) (k:Nat),m=xs.length-k->k<=xs.length->m<n->iter L n (k:Int)=ς (m0 p k (xs.drop k)):=by
  intro m
  induction m with
  |zero=>
   intro n k hm hk hn
   cases n with
   |zero=>omega
   |succ n=>
    have:k=xs.length:=by omega
    subst this
    rw[iter,he,ace,m0]
  |succ m ih=>
   intro n k hm hk hn
   cases n with
   |zero=>omega
   |succ n=>
    have hlt:k<xs.length:=by omega
    rw[iter,hs k xs[k] (ZM hlt) hlt,Rd hlt]
    cases p xs[k] with
    |true=>rfl
    |false=>grind
 have:=key (xs.length-0) FU 0 rfl (Z1 _) (by have:=zy43;omega)
 simp_all
theorem zy55{α:Type}(p:α->Bool):∀(xs:List α) (i:Nat),m0 p (i:Int) xs= -1/\(∀x∈xs,p x=η)\/∃j:Nat,m0 p (i:Int) xs=((i+j:Nat):Int)/\∃x,xs[j]?=ς x/\p x=ζ/\∀y∈xs.take j,p y=η
 |[],i=>.inl ⟨rfl,by simp⟩
 |x::xs,i=>by
  rw[m0]
  cases hp:p x with
  |true=>exact .inr ⟨0,by simp,x,rfl,hp,by simp⟩
  |false=>
   rcases zy55 p xs (i+1) with⟨h1,h2⟩|⟨j,h1,y,h2,h3,h4⟩
   .simp_all
   refine .inr ⟨j+1,?_,y,by simp_all,h3,by simp_all⟩
   grind
theorem zy56{L:Int->Option (ct Int Bool)}(xs:List α)(p:α->Bool)(hl:xs.length<=9223372036854775806)(hs:∀(k:Nat) (x:α),xs[k]?=ς x->k<xs.length->L (k:Int)=bif p x then ς (.done ζ) else ς (.next ((k+1:Nat):Int)))(he:L (xs.length:Int)=ς (.done η)):
 iter L FU 0=ς (xs.any p):=by
 have:=zy45 (step:=L) xs (λk (_:Unit)=>(k:Int)) (λ_ x=>bif p x then ς (.done ζ) else ς (.next ())) (λ_=>ς η) hl
  (λk x s hx hk=>by simp_all) (λs=>by rw[he];rfl) ()
 refine Eq.trans (show iter L FU 0=_ from this) ?_
 have key:∀xs:List α,kP (λ(_:Unit) x=>bif p x then ς (ct.done ζ) else ς (.next ())) (λ_=>ς η) xs ()=ς (xs.any p):=by
  intro xs
  induction xs with
  |nil=>rfl
  |cons x xs ih=>rw[kP];grind
 exact key xs
theorem zy57{L:Int->Option (ct Int Bool)}(xs:List α)(p:α->Bool)(hl:xs.length<=9223372036854775806)(hs:∀(k:Nat) (x:α),xs[k]?=ς x->k<xs.length->L (k:Int)=bif p x then ς (.next ((k+1:Nat):Int)) else ς (.done η))(he:L (xs.length:Int)=ς (.done ζ)):
 iter L FU 0=ς (xs.all p):=by
 have:=zy45 (step:=L) xs (λk (_:Unit)=>(k:Int)) (λ_ x=>bif p x then ς (.next ()) else ς (.done η)) (λ_=>ς ζ) hl
  (λk x s hx hk=>by simp_all) (λs=>by rw[he];rfl) ()
 refine Eq.trans (show iter L FU 0=_ from this) ?_
 have key:∀xs:List α,kP (λ(_:Unit) x=>bif p x then ς (.next ()) else ς (ct.done η)) (λ_=>ς ζ) xs ()=ς (xs.all p):=by
  intro xs
  induction xs with
  |nil=>rfl
  |cons x xs ih=>rw[kP];grind
 exact key xs
theorem allK{L:Int->Option (ct Int Bool)}(xs:List α)(p:Nat->α->Bool)(c:Option Bool)(hl:xs.length<=9223372036854775806)(hs:∀(k:Nat) (x:α),xs[k]?=ς x->k<xs.length->L (k:Int)=bif p k x then ς (.next ((k+1:Nat):Int)) else ς (.done η))(he:L (xs.length:Int)=dn c):
 iter L FU 0=bif xs.zipIdx.all (λy=>p y.2 y.1) then c else ς false:=by
 have:=zy45 (step:=L) xs.zipIdx (λk (_:Unit)=>(k:Int)) (λ_ y=>bif p y.2 y.1 then ς (.next ()) else ς (.done η)) (λ_=>c) (by simp_all)
  (λk y s hy hk=>by
   have hk':k<xs.length:=by simpa using hk
   have:y=(xs[k],k):=by rw[ZM hk] at hy;simpa using hy.symm
   simp_all) (λs=>by simp_all) ()
 refine Eq.trans (show iter L FU 0=_ from this) ?_
 have key:∀ys:List (α×Nat),kP (λ(_:Unit) y=>bif p y.2 y.1 then ς (.next ()) else ς (ct.done η)) (λ_=>c) ys ()=bif ys.all (λy=>p y.2 y.1) then c else ς false:=by
  intro ys
  induction ys with
  |nil=>rfl
  |cons x xs ih=>rw[kP];grind
 exact key _
def inR(n a b:Int):Bool:=leB a n&&leB n b
theorem bE{n a:Int}:inR n a b=ζ↔a<=n/\n<=b:=by simp[inR,leB]
theorem xK{n:Nat}(h:n<=1048576):WR ((n:Int)-1)=(n:Int)-1:=zy46 oaa
theorem ix_in{xs:List α}(h0:0<=i)(h1:i<xs.length):∃x,x∈xs/\ix xs i=ς x:=by
 obtain⟨k,rfl⟩:=Int.eq_ofNat_of_zero_le h0
 have hk:k<xs.length:=by omega
 exact⟨xs[k],abR hk,by rw[bh,ZM hk]⟩
def rgI(k:IntKind)(n:Int):Prop:=(Lit.int k n).wf=ζ
theorem WT.rg{k:IntKind}{n:Int}(h:WT (.i k) (.i k n)):rgI k n:=by
 cases h with|i h=>exact h
theorem zy58{α:Type}{e:List Sh}{f:α->List D}:∀{xs:List α},WTL e (xs.map f)->∀x∈xs,WTs e (f x)
 |[],_,x,hx=>by cases hx
 |y::ys,h,x,hx=>by
  cases h with
  |cons h1 h2=>
   rcases ZQ.1 hx with rfl|hx
   .exact h1
   exact zy58 h2 x hx
theorem WT.rl{e:List Sh}{f:α->List D}{xs:List α}(h:WT (.l e) (.l (xs.map f))):∀x∈xs,WTs e (f x):=by
 cases h with|l hl h=>exact zy58 h
def Wp(m:Option α)(Q:α->Prop):Prop:=match m with
 |some a=>Q a
 |none=>False
theorem Wp.ex{m:Option α}{Q:α->Prop}(h:Wp m Q):∃a,m=ς a/\Q a:=by
 cases m with
 |none=>exact h.elim
 |some a=>exact⟨a,rfl,h⟩
theorem Wp.of{m:Option α}{Q:α->Prop}{a:α}(h:m=ς a)(q:Q a):Wp m Q:=by subst h;exact q
theorem Wp.some{α:Type}{a:α}{Q:α->Prop}(h:Q a):Wp (ς a) Q:=h
theorem Wp.bind{m:Option α}{k:α->Option β}{Q:β->Prop}(h:Wp m (λa=>Wp (k a) Q)):Wp (abG m k) Q:=by
 cases m with
 |none=>exact h.elim
 |some a=>exact h
theorem Wp.mono{m:Option α}{P Q:α->Prop}(h:Wp m P)(k:∀a,P a->Q a):Wp m Q:=by
 cases m with
 |none=>exact h.elim
 |some a=>exact k a h
theorem Wp.call{m:Option α}{k:α->Option β}{P:α->Prop}{Q:β->Prop}(h:Wp m P)(hk:∀a,P a->Wp (k a) Q):Wp (abG m k) Q:=Wp.bind (h.mono hk)
theorem Wp.eq{m:Option α}{k:α->Option β}{a:α}{Q:β->Prop}(h:m= .some a)(hk:Wp (k a) Q):Wp (abG m k) Q:=by subst h;exact hk
theorem Wp.cond{b:Bool}{x y:Option α}{Q:α->Prop}(h1:b=ζ->Wp x Q)(h0:b=η->Wp y Q):Wp (bif b then x else y) Q:=by
 cases b
 .exact h0 rfl
 exact h1 rfl
theorem Wp.ok{b:Bool}{x:Option α}{Q:α->Prop}(hb:b=ζ)(h:Wp x Q):Wp (bif b then x else ξ) Q:=by subst hb;exact h
theorem Wp.iter{step:σ->Option (ct σ ρ)}{Q:ρ->Prop}(I:σ->Prop)(μ:σ->Nat)(h:∀x,I x->Wp (step x) (λs=>match s with| .next x'=>I x'/\μ x'<μ x| .done r=>Q r)):
 ∀(n:Nat) (x:σ),I x->μ x<n->Wp (AM.iter step n x) Q
 |0,_,_,h=>by omega
 |n+1,x,hI,hn=>by
  obtain⟨s,e,hs⟩:=(h x hI).ex
  rw[AM.iter,e]
  cases s with
  |next x'=>exact Wp.iter I μ h n x' hs.1 (by have:=hs.2;omega)
  |done r=>exact hs
theorem Wp.iterF{step:σ->Option (ct σ ρ)}{Q:ρ->Prop}(I:σ->Prop)(μ:σ->Nat){x:σ}(hI:I x)(hn:μ x<=1000000000000)(h:∀x,I x->Wp (step x) (λs=>match s with| .next x'=>I x'/\μ x'<μ x| .done r=>Q r)):Wp (AM.iter step FU x) Q:=
 Wp.iter I μ h FU x hI (by have:=zy43;omega)
theorem Wp.dn{m:Option ρ}{Q:ct σ ρ->Prop}(h:Wp m (λr=>Q (.done r))):Wp (AM.dn m) Q:=by
 cases m with
 |none=>exact h.elim
 |some r=>exact h
theorem Wp.ix{xs:List α}{k:α->Option β}{Q:β->Prop}(h0:0<=i)(h1:i<xs.length)(hk:∀x,x∈xs->xs[i.toNat]?= .some x->Wp (k x) Q):Wp (abG (AM.ix xs i) k) Q:=by
 have hl:i.toNat<xs.length:=by omega
 have hx:xs[i.toNat]?= .some xs[i.toNat]:=ZM hl
 refine Wp.eq (a:=xs[i.toNat]) ?_ (hk _ (abR hl) hx)
 unfold AM.ix
 rw[show leB 0 i=ζ from by simp[leB,h0]]
 exact hx
theorem zy59{a:Int}(h:ltB a b=ζ):a<b:=ltB_t.1 h
theorem zy60{a:Int}(h:ltB a b=η):b<=a:=ltB_f.1 h
theorem ww{a:Int}(h:leB a b=ζ):a<=b:=leB_t.1 h
theorem yp{a:Int}(h:leB a b=η):b<a:=leB_f.1 h
theorem zy61{a:Int}(h:eqB a b=ζ):a=b:=eqB_t.1 h
theorem zy62{a:Int}(h:eqB a b=η):a≠b:=eqB_f.1 h
theorem zy63{b n:Nat}(h:n*b<=140737488355328)(h':n<=9223372036854775807):cW b n=true:=by simp[cW,h,h']
def zy64(a:fk):Prop:=okL (λ_=>True) a.cy
def zy65(a:aV):Prop:=okL zy64 a.bp
def zy66(a:ae):Prop:=okL (λ_=>True) a.bb
def zy67(a:bD):Prop:=okL (λ_=>True) a.bb
def zy68(a:be):Prop:=okL zy66 a.aO/\okL zy67 a.aP
def zy69(a:aC):Prop:=zy68 a.bg
def ee(a:bK):Prop:=okL (λ_=>True) a.bJ
def zy70(a:bu):Prop:=okL zy66 a.aG
def zy71(a:ah):Prop:=ee a.ip/\okL zy67 a.av/\zy70 a.ax
def zy72(a:am):Prop:=okL (λ_=>True) a.aH
def zy73(a:bR):Prop:=okL (λ_=>True) a.bb
def zy74(a:aD):Prop:=zy73 a.bz
def zy75(a:bT):Prop:=zy74 a.cz
def zy76(a:ab):Prop:=zy65 a.dV/\okL zy69 a.aj/\okL zy71 a.an/\okL zy72 a.aU/\okL zy75 a.aZ
open Go.Proofs
def zy77(p:Nat->α->Bool)(xs:List α):Bool:=xs.zipIdx.all (λy=>p y.2 y.1)
theorem zy78{p:Nat->α->Bool}{xs:List α}:zy77 p xs=ζ↔∀(k:Nat) (x:α),xs[k]?=ς x->p k x=true:=by
 unfold zy77
 rw[ZR]
 constructor
 .intro h k x hx
  exact h (x,k) (by grind)
 grind
theorem JP{p q:Nat->α->Bool}{xs:List α}(h:∀(k:Nat) (x:α),xs[k]?=ς x->p k x=q k x):zy77 p xs=zy77 q xs:=by
 rw[abM,zy78,zy78]
 simp_all
theorem zy79{p q:Nat->α->Bool}{xs:List α}:(zy77 p xs&&zy77 q xs)=zy77 (λk x=>p k x&&q k x) xs:=by
 rw[abM,hV,zy78,zy78,zy78]
 grind
theorem zy80{p:α->Bool}{xs:List α}:zy77 (λ_ x=>p x) xs=xs.all p:=by
 rw[abM,zy78,ZR]
 constructor
 .intro h x hx
  obtain⟨k,hk,rfl⟩:=List.getElem_of_mem hx
  exact h k _ (ZM hk)
 grind
theorem zy81{L:Int->Option (ct Int Bool)}(xs:List α)(p:Nat->α->Bool)(c:Option Bool)(hl:xs.length<=9223372036854775806)(hs:∀(k:Nat) (x:α),xs[k]?=ς x->k<xs.length->L (k:Int)=bif p k x then ς (.next ((k+1:Nat):Int)) else ς (.done η))(he:L (xs.length:Int)=dn c):
 iter L FU 0=bif zy77 p xs then c else ς false:=allK xs p c hl hs he
theorem tV{xs:List α}(hk:k<xs.length)(h0:0<k)(hl:xs.length<=9223372036854775806):∃y,xs[k-1]?=ς y/\ix xs (WR ((k:Int)-1))=ς y:=by
 have h1:k-1<xs.length:=by omega
 refine⟨xs[k-1],ZM h1,?_⟩
 rw[zy46 oaa,show((k:Int)-1)=((k-1:Nat):Int) from by omega,bh,ZM h1]
def zy82(key:α->Int)(xs:List α)(k:Nat)(x:α):Bool:=match k with
 |0=>ζ
 |j+1=>match xs[j]? with
  |some y=>!leB (key x) (key y)
  |none=>η
def asc(xs:List Int):Bool:=zy77 (zy82 id xs) xs
theorem kR(a b c:Int):cA a b c=ς (inR a b c):=by
 unfold cA inR
 grind
theorem zy83(a b c:Int):cQ a b c=ς (inR a b c):=by
 unfold cQ inR
 grind
theorem zy84{xs:List Int}(h:xs.length<=1048576):mb xs=ς (asc xs):=by
 have key:∀(n m:Nat) (j:Nat),j+n=xs.length->1<=j->n<m->∃b,iter (jg xs) m (j:Int)=ς b/\(b=ζ↔∀k x,j<=k->xs[k]?=ς x->zy82 id xs k x=ζ):=by
  intro n
  induction n with
  |zero=>
   intro m j hj h1 hm
   cases m with
   |zero=>omega
   |succ m=>
    simp only[iter,jg]
    simp_all
  |succ n ih=>
   intro m j hj h1 hm
   cases m with
   |zero=>omega
   |succ m=>
    have hjl:j<xs.length:=by omega
    obtain⟨y,hy,hi⟩:=tV hjl oaa oaa
    simp only[iter,jg]
    rw[cE hjl,hi,bh,ZM hjl]
    simp only[au]
    obtain⟨i,rfl⟩:∃i,j=i+1:=⟨j-1,by omega⟩
    simp only[abP] at hy
    cases hle:leB xs[i+1] y with
    |true=>
     refine⟨η,rfl,(λh=>by cases h),λhh=>?_⟩
     have:=hh (i+1) _ (ZV _) (ZM hjl)
     simp[zy82,hy,hle] at this
    |false=>
     simp only[cond_false]
     rw[WRs (k:=i+1)]
     obtain⟨b,hb,hi⟩:=ih m (i+1+1) oaa oaa oaa
     refine⟨b,hb,hi.trans ⟨λhh k x hk hx=>?_,λhh k x hk hx=>hh k x oaa hx⟩⟩
     by_cases e:k=i+1
     .subst e
      rw[ZM hjl] at hx;cases hx
      simp[zy82,hy,hle]
     grind
 unfold mb
 cases hx:xs with
 |nil=>
  have:FU=(FU-1)+1:=by have:=zy43;omega
  rw[this,iter]
  simp[jg,dn,ltB,asc,zy77]
 |cons a l=>
  rw[<-hx]
  obtain⟨b,hb,hi⟩:=key (xs.length-1) FU 1 (by grind) (ZV _) (by have:=zy43;omega)
  rw[show(1:Int)=((1:Nat):Int) from rfl,hb]
  congr 1
  rw[abM,hi,asc,zy78]
  constructor
  .intro hh k x hk
   cases k with
   |zero=>rfl
   |succ k=>simp_all
  simp_all
def zy85(k:Int):Bool:=inR k 1 2147483646
theorem zy86(k:Int):f4 k=ς (zy85 k):=by simp only[f4,kR,abJ,zy85]
theorem zy87(k:Int):f5 k=ς (zy85 k):=by simp only[f5,zy83,abJ,zy85]
def Lr(x:dt):Bool:=inR x.dQ 0 3&&inR x.bX 0 99
theorem zy88(x:dt):fo x=ς (Lr x):=by
 simp only[fo,kR,abJ,Lr];grind
theorem Xk(x:dt):fA x=ς (Lr x):=by
 simp only[fA,zy83,abJ,Lr];grind
def zy89(x:lN):Bool:=Lr x.ID&&(zy85 x.eV&&inR x.dJ 0 999999)
theorem zy90(x:lN):pb x=ς (zy89 x):=by
 simp only[pb,zy88,zy86,kR,abJ,zy89];grind
theorem zy91(x:lN):mz x=ς (zy89 x):=by
 simp only[mz,Xk,zy87,zy83,abJ,zy89];grind
def zy92(x:aF):Bool:=Lr x.ID&&(zy85 x.eV&&inR x.cZ 0 999999)
theorem rec_i(x:aF):fg x=ς (zy92 x):=by
 simp only[fg,zy88,zy86,kR,abJ,zy92];grind
theorem zy93(x:aF):d5 x=ς (zy92 x):=by
 simp only[d5,Xk,zy87,zy83,abJ,zy92];grind
def zy94(x:cP):Bool:=inR x.gB 0 2&&(inR x.eS 0 4&&inR x.gE 0 3)
theorem zy95(x:cP):lW x=ς (zy94 x):=by
 simp only[lW,kR,abJ,zy94];grind
theorem zy96(x:cP):my x=ς (zy94 x):=by
 simp only[my,zy83,abJ,zy94];grind
def kE(x:bW):Bool:=inR x.fD 1 6&&inR x.eG 0 (WR ((lO .i64 1 x.fD)-1))
theorem zy97(x:bW):pa x=ς (kE x):=by
 simp only[pa,kR,abJ,kE]
 cases h:inR x.fD 1 6 with
 |false=>rfl
 |true=>rw[show leB 0 x.fD=ζ from by rw[bE] at h;simp[leB];omega];rfl
theorem zy98(x:bW):kv x=ς (kE x):=by
 simp only[kv,zy83,abJ,kE]
 cases h:inR x.fD 1 6 with
 |false=>rfl
 |true=>rw[show leB 0 x.fD=ζ from by rw[bE] at h;simp[leB];omega];rfl
def zy99(x:cU):Bool:=leB 0 x.aA&&(leB 0 x.dW&&(leB x.dW x.cT&&leB x.cT 100000))
theorem zy100(x:cU):jt x=ς (zy99 x):=by
 simp only[jt,abJ,zy99];grind
theorem zy101(x:cU):f6 x=ς (zy99 x):=by
 have:zy99 x=(leB 0 x.aA&&(inR x.cT 0 100000&&inR x.dW 0 x.cT)):=by
  rw[abM];simp[zy99,inR,leB];omega
 rw[this]
 simp only[f6,zy83,abJ];grind
def zy102(n:Nat):Bool:=!ltB 60 (n:Int)
def zy103(xs:List bD):Bool:=xs.all λx=>zy102 x.bb.length
theorem zy104{xs:List bD}(h:xs.length<=1048576):ra xs=ς (zy103 xs):=
 zy57 xs (λx=>zy102 x.bb.length) oaa (λk x hx hk=>by
  simp only[qg,cE hk,bh,hx,WRs (k:=k),zy102,au]
  simp_all) (by simp[qg,dn])
def yA(r:be)(k:Nat)(x:ae):Bool:=inR x.cZ (WR (r.bC+1)) (WR (WR (r.bC+8)-1))&&(zy82 ae.cZ r.aO k x&&zy102 x.bb.length)
def oW(r:be):Bool:=eqB r.bC (WR ((r.aP.length:Int)+1))&&(leB (r.aP.length:Int) 24&&(zy103 r.aP&&(leB (r.aO.length:Int) 8&&zy77 (yA r) r.aO)))
theorem uy(a b:Int):ltB a b=!leB b a:=by rw[abM];simp_all
theorem zy105(h1:r.aP.length<=1048576)(h2:r.aO.length<=1048576):kq r=ς (oW r):=by
 have hL:iter (ig r) FU 0=bif zy77 (yA r) r.aO then ς ζ else ς false:=by
  refine zy81 r.aO (yA r) (ς ζ) oaa (λk x hx hk=>?_) (by simp[ig])
  simp only[ig,cE hk,bh,hx,WRs (k:=k),kR,yA,zy102,au]
  cases k with
  |zero=>
   simp only[zy82,show ltB 0 ((0:Nat):Int)=η from by simp[ltB]]
   cases ltB 60 (x.bb.length:Int)<;>cases inR x.cZ (WR (r.bC+1)) (WR (WR (r.bC+8)-1))<;>rfl
  |succ k=>
   obtain⟨y,hy,hi⟩:=tV hk oaa oaa
   simp only[abP] at hy
   simp only[zy82,hy,hi,show ltB 0 ((k+1:Nat):Int)=ζ from by simp[ltB],abJ]
   cases ltB 60 (x.bb.length:Int)<;>cases inR x.cZ (WR (r.bC+1)) (WR (WR (r.bC+8)-1))<;>cases leB x.cZ y.cZ<;>rfl
 simp only[kq,zy104 h1,abJ,hL,oW,uy 24,uy 8]
 grind
theorem SU(h1:r.aP.length<=1048576)(h2:r.aO.length<=1048576):iC r=ς (oW r):=by
 have hF:iter (fU r) FU 0=bif zy77 (λ_ x=>zy102 x.bb.length) r.aP then ς (eqB r.bC (WR ((r.aP.length:Int)+1))&&(leB (r.aP.length:Int) 24&&leB (r.aO.length:Int) 8)) else ς false:=by
  refine zy81 r.aP (λ_ x=>zy102 x.bb.length) _ oaa (λk x hx hk=>?_) ?_
  .simp only[fU,cE hk,bh,hx,WRs (k:=k),zy102,au]
   simp_all
  simp only[fU,zy49,cond_false]
  grind
 have hL:iter (ij r) FU 0=bif zy77 (yA r) r.aO then iter (fU r) FU 0 else ς false:=by
  refine zy81 r.aO (yA r) _ oaa (λk x hx hk=>?_) (by simp[ij])
  simp only[ij,cE hk,bh,hx,WRs (k:=k),zy83,yA,zy102,au]
  cases k with
  |zero=>
   simp only[zy82,show ltB 0 ((0:Nat):Int)=η from by simp[ltB]]
   cases ltB 60 (x.bb.length:Int)<;>cases inR x.cZ (WR (r.bC+1)) (WR (WR (r.bC+8)-1))<;>rfl
  |succ k=>
   obtain⟨y,hy,hi⟩:=tV hk oaa oaa
   simp only[abP] at hy
   simp only[zy82,hy,hi,show ltB 0 ((k+1:Nat):Int)=ζ from by simp[ltB],abJ]
   cases ltB 60 (x.bb.length:Int)<;>cases inR x.cZ (WR (r.bC+1)) (WR (WR (r.bC+8)-1))<;>cases leB x.cZ y.cZ<;>rfl
 rw[zy80] at hF
 simp only[iC,hL,hF,oW,zy103]
 grind
def zy106(d:aC):Bool:=zy89 d.dx&&(inR d.bB 0 3&&(inR d.bv 0 5&&(inR d.ag 0 999999&&(inR d.bi 0 999999&&(inR d.aY 0 2147483646&&((!inR d.bB 2 3||zy85 d.aY)&&(inR d.gE 0 3&&oW d.bg)))))))
theorem st23(n:Int):inR n 2 3=(eqB n 2||eqB n 3):=by rw[abM];simp[inR,leB,eqB];omega
theorem zy107{d:aC}(h1:d.bg.aP.length<=1048576)(h2:d.bg.aO.length<=1048576):lT d=ς (zy106 d):=by
 simp only[lT,zy90,kR,zy86,zy105 h1 h2,abJ,zy106,st23]
 grind
theorem QL{d:aC}(h1:d.bg.aP.length<=1048576)(h2:d.bg.aO.length<=1048576):mt d=ς (zy106 d):=by
 simp only[mt,zy91,zy83,zy87,SU h1 h2,abJ,zy106]
 grind
theorem zy108{α:Type}{step:Int×Int->Option (ct (Int×Int) Int)}(xs:List α)(f:Int->α->Int)(hl:xs.length<=9223372036854775806)(hs:∀(k:Nat) (x:α) (a:Int),xs[k]?=ς x->k<xs.length->step (a,(k:Int))=ς (.next (f a x,((k+1:Nat):Int))))(he:∀a,step (a,(xs.length:Int))=ς (.done a))(a0:Int):
 iter step FU (a0,0)=ς (xs.foldl f a0):=by
 have:=zy45 (step:=step) xs (λk (v:Int)=>(v,(k:Int))) (λv x=>ς (.next (f v x))) ς hl
  (λk x s hx hk=>by simp_all) (λs=>by rw[he];rfl) a0
 refine Eq.trans (show iter step FU (a0,0)=_ from this) ?_
 clear this he hs
 induction xs generalizing a0 with
 |nil=>rfl
 |cons x xs ih=>rw[kP,ab1];grind
def u5(xs:List ae):Int:=xs.foldl (λa x=>WR (a+(x.bb.length:Int))) 0
theorem nb_i{xs:List ae}(h:xs.length<=1048576):mc xs=ς (u5 xs):=by
 unfold mc
 rw[zy108 xs (λa x=>WR (a+(x.bb.length:Int))) oaa (λk x a hx hk=>by
  simp only[md,cE hk,bh,hx,WRs (k:=k),au]) (λa=>by simp[md])]
 rfl
theorem zy109{xs:List ae}(h:xs.length<=1048576):nC xs=ς (u5 xs):=by
 unfold nC
 rw[zy108 xs (λa x=>WR (a+(x.bb.length:Int))) oaa (λk x a hx hk=>by
  simp only[ue,cE hk,bh,hx,WRs (k:=k),au]) (λa=>by simp[ue])]
 rfl
def IO(q:cU):Int:=bif zy99 q then WR (q.cT-q.dW) else 0
theorem rem_i(q:cU):lj q=ς (IO q):=by simp only[lj,zy100,abJ,IO];grind
theorem zy110(q:cU):jn q=ς (IO q):=by simp only[jn,zy101,abJ,IO];grind
def Cl(p:bK):Bool:=inR p.kj 1 1000&&(inR p.ki 1 4&&inR p.er 1 100000)
def zy111(p:bK):Bool:=Cl p&&zy77 (λk x=>inR x 0 3&&zy82 id p.bJ k x) p.bJ
theorem zy112(h:ee p):gM p=ς (zy111 p):=by
 have hl:=h.1
 have hL:iter (fL p) FU 0=bif zy77 (λ_ x=>inR x 0 3) p.bJ then ς (asc p.bJ) else ς false:=by
  refine zy81 p.bJ (λ_ x=>inR x 0 3) _ oaa (λk x hx hk=>?_) (by simp[fL,zy84 hl])
  simp only[fL,cE hk,bh,hx,WRs (k:=k),kR,au]
  cases inR x 0 3<;>rfl
 simp only[gM,kR,abJ,hL,zy111,Cl,<-zy79,asc]
 grind
theorem zy113(h:ee p):fB p=ς (zy111 p):=by
 have hl:=h.1
 have hL:iter (fM p) FU 0=bif zy77 (λk x=>inR x 0 3&&zy82 id p.bJ k x) p.bJ then ς (Cl p) else ς false:=by
  refine zy81 p.bJ _ _ oaa (λk x hx hk=>?_) ?_
  .simp only[fM,cE hk,bh,hx,WRs (k:=k),zy83,au]
   cases k with
   |zero=>
    simp only[zy82,show ltB 0 ((0:Nat):Int)=η from by simp[ltB]]
    cases inR x 0 3<;>rfl
   |succ k=>
    obtain⟨y,hy,hi⟩:=tV hk oaa oaa
    simp only[abP] at hy
    simp only[zy82,hy,hi,hx,bh,show ltB 0 ((k+1:Nat):Int)=ζ from by simp[ltB],abJ,id]
    cases inR x 0 3<;>cases leB x y<;>rfl
  simp only[fM,zy49,zy83,Cl,au]
  grind
 simp only[fB,hL,zy111]
 grind
def unB(w:bu)(k:Nat)(x:ae):Bool:=eqB x.cZ (WR (WR (w.bC-(w.aG.length:Int))+(k:Int)))&&zy102 x.bb.length
def zy114(w:bu):Bool:=inR w.bC 1 100000&&(leB (w.aG.length:Int) 8&&(leB 1 (WR (w.bC-(w.aG.length:Int)))&&zy77 (unB w) w.aG))
theorem zy115(h:zy70 w):lX w=ς (zy114 w):=by
 have hl:=h.1
 have hL:iter (jE w) FU 0=bif zy77 (unB w) w.aG then ς ζ else ς false:=by
  refine zy81 w.aG (unB w) _ oaa (λk x hx hk=>?_) (by simp[jE])
  simp only[jE,cE hk,bh,hx,WRs (k:=k),unB,zy102,au]
  cases eqB x.cZ (WR (WR (w.bC-(w.aG.length:Int))+(k:Int)))<;>cases ltB 60 (x.bb.length:Int)<;>rfl
 simp only[lX,kR,abJ,hL,zy114,uy]
 grind
theorem I9(h:zy70 w):jW w=ς (zy114 w):=by
 have hl:=h.1
 have hL:iter (jJ w) FU 0=bif zy77 (unB w) w.aG then ς (inR w.bC 1 100000&&(leB (w.aG.length:Int) 8&&leB 1 (WR (w.bC-(w.aG.length:Int))))) else ς false:=by
  refine zy81 w.aG (unB w) _ oaa (λk x hx hk=>?_) ?_
  .simp only[jJ,cE hk,bh,hx,WRs (k:=k),unB,zy102,au]
   cases eqB x.cZ (WR (WR (w.bC-(w.aG.length:Int))+(k:Int)))<;>cases ltB 60 (x.bb.length:Int)<;>rfl
  simp only[jJ,zy49,zy83,au]
  grind
 simp only[jW,hL,zy114]
 grind
def I5(a b:List Int):Bool:=strB (uz a) (uz b)
theorem WX(a b:List Int):qX a b=ς (I5 a b):=rfl
theorem eqb_s(a b:List Int):om a b=ς (I5 a b):=rfl
def zy116(s:ah)(x:ae):Bool:=match s.av[(x.cZ-1).toNat]? with
 |some y=>I5 x.bb y.bb
 |none=>η
def zy117(s:ah):Bool:=leB (s.av.length:Int) 24&&(zy103 s.av&&(zy114 s.ax&&leB s.ax.bC (WR ((s.av.length:Int)+1))))
def zy118(s:ah):Bool:=leB (u5 s.ax.aG) (IO s.bV)
def zy119(s:ah):Bool:=(!eqB s.bB 1||zy85 s.aY)&&(!ltB 0 s.bG||zy85 s.aO.eV)
def iK(s:ah):Bool:=zy92 s.bH&&(zy111 s.ip&&(zy94 s.jw&&(zy114 s.ax&&(zy99 s.bV&&(inR s.bB 0 1&&(zy119 s&&(inR s.bG 0 999999&&(inR s.ag 0 999999&&(inR s.bi 0 999999&&(inR s.aY 0 2147483646&&
 (inR s.bv 0 5&&(inR s.d9 0 5&&(inR s.d6 0 3&&(leB (s.av.length:Int) 24&&(zy103 s.av&&(leB s.ax.bC (WR ((s.av.length:Int)+1))&&(s.ax.aG.all (zy116 s)&&zy118 s)))))))))))))))))
theorem zy120(hs:zy117 s=ζ)(hx:s.ax.aG[k]?=ς x):∃y,ix s.av (WR (x.cZ-1))=ς y/\s.av[(x.cZ-1).toNat]?=ς y:=by
 simp only[zy117,zy114,hV,zy78,bE] at hs
 obtain⟨h1,h2,⟨⟨h3,h3'⟩,h4,h5,h6⟩,h7⟩:=hs
 have hk:=(v0.1 hx).1
 have h8:=h6 k x hx
 simp only[unB,hV] at h8
 have h4':(s.ax.aG.length:Int)<=8:=by simpa [leB] using h4
 have h1':(s.av.length:Int)<=24:=by simpa [leB] using h1
 rw[zy46 oaa] at h5
 rw[zy46 oaa] at h7
 have h9:=h8.1
 rw[zy46 (n:=s.ax.bC-_) oaa,zy46 oaa] at h9
 have h9':x.cZ=s.ax.bC-s.ax.aG.length+k:=by simpa [eqB] using h9
 have h5':1<=s.ax.bC-(s.ax.aG.length:Int):=by simpa [leB] using h5
 have h7':s.ax.bC<=(s.av.length:Int)+1:=by simpa [leB] using h7
 have hlt:(x.cZ-1).toNat<s.av.length:=by omega
 refine⟨s.av[(x.cZ-1).toNat],?_,ZM hlt⟩
 have hm:x.cZ-1=(((x.cZ-1).toNat:Nat):Int):=by omega
 rw[zy46 oaa]
 simp_all
theorem zy121(h:zy71 s)(hs:zy117 s=ζ):iter (eX s) FU 0=ς (s.ax.aG.all (zy116 s)&&zy118 s):=by
 have hl:=h.2.2.1
 have:=zy81 (L:=eX s) s.ax.aG (λ_ x=>zy116 s x) (ς (zy118 s)) oaa (λk x hx hk=>by
  obtain⟨y,h1,h2⟩:=zy120 hs hx
  simp only[eX,cE hk,bh,hx,h1,WX,WRs (k:=k),zy116,h2,au]
  simp_all) (by simp[eX,lY,nb_i hl,rem_i,zy118])
 rw[this,zy80]
 grind
theorem zy122(h:zy71 s)(hs:zy117 s=ζ):iter (ju s) FU 0=ς (s.ax.aG.all (zy116 s)&&zy118 s):=by
 have hl:=h.2.2.1
 have:=zy81 (L:=ju s) s.ax.aG (λ_ x=>zy116 s x) (ς (zy118 s)) oaa (λk x hx hk=>by
  obtain⟨y,h1,h2⟩:=zy120 hs hx
  simp only[ju,cE hk,bh,hx,h1,eqb_s,WRs (k:=k),zy116,h2,au]
  simp_all) (by simp[ju,zy109 hl,zy110,zy118])
 rw[this,zy80]
 grind
theorem zy123(h:zy71 s):ug s=ς (zy117 s&&(s.ax.aG.all (zy116 s)&&zy118 s)):=by
 have hl:=h.2.1.1
 have hL:=zy81 (L:=nW s) s.av (λ_ x=>zy102 x.bb.length) (bif leB (s.av.length:Int) 24&&(zy114 s.ax&&leB s.ax.bC (WR ((s.av.length:Int)+1))) then iter (ju s) FU 0 else ς η) oaa (λk x hx hk=>by
  simp only[nW,cE hk,bh,hx,WRs (k:=k),zy102,au]
  simp_all) (by
  simp only[nW,zy49,I9 h.2.2,uy,au]
  grind)
 rw[zy80] at hL
 unfold ug
 rw[hL]
 cases hs:zy117 s with
 |true=>
  rw[zy122 h hs]
  simp only[zy117,zy103,hV] at hs
  grind
 |false=>
  have:(leB (s.av.length:Int) 24&&(zy114 s.ax&&leB s.ax.bC (WR ((s.av.length:Int)+1))))=η\/(s.av.all λx=>zy102 x.bb.length)=false:=by
   simp only[zy117,zy103] at hs
   revert hs
   cases leB (s.av.length:Int) 24<;>cases zy114 s.ax<;>cases leB s.ax.bC (WR ((s.av.length:Int)+1))<;>cases(s.av.all λx=>zy102 x.bb.length)<;>simp
  grind
theorem st01(n:Int):inR n 0 1=(eqB n 0||eqB n 1):=by rw[abM];simp[inR,leB,eqB];omega
theorem zy124(h:zy71 s):li s=ς (iK s):=by
 have hz:=λhs=>zy121 h hs
 simp only[li,rec_i,zy112 h.1,zy95,zy115 h.2.2,zy100,zy86,kR,zy104 h.2.1.1,abJ,iK,zy119,st01,uy 24,uy (WR ((s.av.length:Int)+1))]
 simp only[zy117] at hz
 revert hz
 generalize iter (eX s) FU 0=z
 cases zy92 s.bH
 .intro _;rfl
 cases zy111 s.ip
 .intro _;rfl
 cases zy94 s.jw
 .intro _;rfl
 cases zy114 s.ax
 .intro _;rfl
 cases zy99 s.bV
 .intro _;rfl
 cases eqB s.bB 0<;>cases eqB s.bB 1<;>try (intro _;rfl)
 all_goals
  cases zy85 s.aY<;>cases ltB 0 s.bG<;>cases zy85 s.aO.eV<;>try (intro _;rfl)
 all_goals
  cases inR s.bG 0 999999<;>cases inR s.ag 0 999999<;>cases inR s.bi 0 999999<;>cases inR s.aY 0 2147483646<;>try (intro _;rfl)
 all_goals
  cases inR s.bv 0 5<;>cases inR s.d9 0 5<;>cases inR s.d6 0 3<;>try (intro _;rfl)
 all_goals
  cases leB (s.av.length:Int) 24<;>cases zy103 s.av<;>cases leB s.ax.bC (WR ((s.av.length:Int)+1))<;>intro hz<;>first|rfl|exact hz rfl
theorem zy125(h:zy71 s):jm s=ς (iK s):=by
 have:iK s=(inR s.bB 0 1&&(zy119 s&&(zy92 s.bH&&(zy111 s.ip&&(zy94 s.jw&&(zy99 s.bV&&((zy117 s&&(s.ax.aG.all (zy116 s)&&zy118 s))&&(inR s.bG 0 999999&&(inR s.ag 0 999999&&(inR s.bi 0 999999&&(inR s.aY 0 2147483646&&(inR s.bv 0 5&&(inR s.d9 0 5&&inR s.d6 0 3))))))))))))):=by
  simp only[iK,zy117];ac_rfl
 rw[this]
 simp only[jm,zy93,zy113 h.1,zy96,zy101,zy87,zy83,zy123 h,abJ,zy119,st01]
 cases eqB s.bB 0<;>cases eqB s.bB 1<;>cases zy85 s.aY<;>cases ltB 0 s.bG<;>cases zy85 s.aO.eV<;>try rfl
 all_goals
  cases zy92 s.bH<;>cases zy111 s.ip<;>cases zy94 s.jw<;>cases zy99 s.bV<;>cases(zy117 s&&(s.ax.aG.all (zy116 s)&&zy118 s))<;>try rfl
 all_goals
  cases inR s.bG 0 999999<;>cases inR s.ag 0 999999<;>cases inR s.bi 0 999999<;>cases inR s.aY 0 2147483646<;>try rfl
 all_goals
  cases inR s.bv 0 5<;>cases inR s.d9 0 5<;>rfl
def zy126(a:am):Int:=a.aH.foldl (λs x=>WR (s+x.dO)) 0
theorem zy127(h:zy72 a):lZ a=ς (zy126 a):=by
 have:=h.1
 unfold lZ
 rw[zy108 a.aH (λs x=>WR (s+x.dO)) oaa (λk x s hx hk=>by
  simp only[ma,cE hk,bh,hx,WRs (k:=k),au]) (λs=>by simp[ma])]
 rfl
theorem zy128(h:zy72 a):mJ a=ς (zy126 a):=by
 have:=h.1
 unfold mJ
 rw[zy108 a.aH (λs x=>WR (s+x.dO)) oaa (λk x s hx hk=>by
  simp only[mK,cE hk,bh,hx,WRs (k:=k),au]) (λs=>by simp[mK])]
 rfl
def zy129(a:am)(k:Nat)(x:aJ):Bool:=!ltB x.aA 0&&(inR x.dO 1 100000&&zy82 aJ.aA a.aH k x)
def zy130(a:am):Bool:=eqB (WR (WR (a.bm+a.dv)+zy126 a)) a.fJ
def ke(a:am):Bool:=inR a.fJ 0 100000&&(inR a.bm 0 a.fJ&&(inR a.dv 0 a.fJ&&(leB (a.aH.length:Int) 8&&(zy77 (zy129 a) a.aH&&zy130 a))))
theorem DB(h:zy72 a):jf a=ς (ke a):=by
 have hl:=h.1
 have hL:iter (iN a) FU 0=bif zy77 (zy129 a) a.aH then ς (zy130 a) else ς false:=by
  refine zy81 a.aH (zy129 a) _ oaa (λk x hx hk=>?_) (by simp[iN,zy127 h,zy130])
  simp only[iN,cE hk,bh,hx,WRs (k:=k),kR,zy129,au]
  cases k with
  |zero=>
   simp only[zy82,show ltB 0 ((0:Nat):Int)=η from by simp[ltB]]
   cases ltB x.aA 0<;>cases inR x.dO 1 100000<;>rfl
  |succ k=>
   obtain⟨y,hy,hi⟩:=tV hk oaa oaa
   simp only[abP] at hy
   simp only[zy82,hy,hi,show ltB 0 ((k+1:Nat):Int)=ζ from by simp[ltB],abJ]
   cases ltB x.aA 0<;>cases inR x.dO 1 100000<;>cases leB x.aA y.aA<;>rfl
 simp only[jf,kR,abJ,hL,ke,uy 8]
 grind
theorem zy131(h:zy72 a):fT a=ς (ke a):=by
 have hl:=h.1
 have hL:iter (iU a) FU 0=bif zy77 (zy129 a) a.aH then ς (inR a.fJ 0 100000&&(inR a.bm 0 a.fJ&&(inR a.dv 0 a.fJ&&(leB (a.aH.length:Int) 8&&zy130 a)))) else ς false:=by
  refine zy81 a.aH (zy129 a) _ oaa (λk x hx hk=>?_) ?_
  .simp only[iU,cE hk,bh,hx,WRs (k:=k),zy83,zy129,au]
   cases k with
   |zero=>
    simp only[zy82,show ltB 0 ((0:Nat):Int)=η from by simp[ltB]]
    cases ltB x.aA 0<;>cases inR x.dO 1 100000<;>rfl
   |succ k=>
    obtain⟨y,hy,hi⟩:=tV hk oaa oaa
    simp only[abP] at hy
    simp only[zy82,hy,hi,hx,bh,show ltB 0 ((k+1:Nat):Int)=ζ from by simp[ltB],abJ]
    cases ltB x.aA 0<;>cases inR x.dO 1 100000<;>cases leB x.aA y.aA<;>rfl
  simp only[iU,zy49,zy83,zy128 h,zy130,au]
  grind
 simp only[fT,hL,ke]
 grind
def zy132(a:am)(i:Int):Int:=match a.aH.find? (λx=>eqB x.aA i) with
 |some x=>x.dO
 |none=>0
theorem L9(p:α->Bool)(xs:List α):(m0 p 0 xs= -1/\xs.find? p=ξ)\/∃x,ltB (m0 p 0 xs) 0=η/\ix xs (m0 p 0 xs)=ς x/\xs.find? p=ς x:=by
 rcases zy55 p xs 0 with⟨h1,h2⟩|⟨j,h1,x,h2,h3,h4⟩
 .simp_all
 right
 have h1':m0 p 0 xs=(j:Int):=by simpa using h1
 refine⟨x,by simp_all,by simp_all,?_⟩
 have hj:=(v0.1 h2)
 rw[List.find?_eq_some_iff_getElem]
 have hjl:=hj.1
 refine⟨h3,j,hjl,hj.2,λi hi=>?_⟩
 have hil:i<xs.length:=Nat.lt_trans hi hjl
 have:xs[i]∈xs.take j:=List.mem_take_iff_getElem.2 ⟨i,by omega,rfl⟩
 simp_all
theorem zy133(h:zy72 a)(i:Int):pc a i=ς (zy132 a i):=by
 have:=h.1
 have hf:=s7 (L:=gO a i) a.aH (λx=>eqB x.aA i) oaa (λk x hx hk=>by
  simp only[gO,cE hk,bh,hx,WRs (k:=k),au]
  rfl) (by simp[gO,dn])
 unfold pc mf zy132
 rw[hf]
 rcases L9 (λx:aJ=>eqB x.aA i) a.aH with⟨zy19,e2⟩|⟨x,zy19,e2,e3⟩
 .rw[zy19,e2];simp[ltB]
 grind
theorem IQ(h:zy72 a)(i:Int):mH a i=ς (zy132 a i):=by
 have:=h.1
 have hf:=s7 (L:=rG a i) a.aH (λx=>eqB x.aA i) oaa (λk x hx hk=>by
  simp only[rG,cE hk,bh,hx,WRs (k:=k),au]
  rfl) (by simp[rG,dn])
 unfold mH oy zy132
 rw[hf]
 rcases L9 (λx:aJ=>eqB x.aA i) a.aH with⟨zy19,e2⟩|⟨x,zy19,e2,e3⟩
 .rw[zy19,e2];simp[ltB]
 grind
def zy134(a:am)(q:cU):Bool:=ke a&&(zy99 q&&eqB (zy132 a q.aA) q.cT)
theorem VD(h:zy72 a)(q:cU):gN a q=ς (zy134 a q):=by
 simp only[gN,DB h,zy100,zy133 h,abJ,zy134];grind
theorem zy135(h:zy72 a)(q:cU):eE a q=ς (zy134 a q):=by
 simp only[eE,zy131 h,zy101,IQ h,abJ,zy134];grind
theorem zy136{L:Int->Option (ct Int ρ)}(xs:List α)(p:Nat->α->Bool)(f:ρ)(c:Option ρ)(hl:xs.length<=9223372036854775806)(hs:∀(k:Nat) (x:α),xs[k]?=ς x->k<xs.length->L (k:Int)=bif p k x then ς (.next ((k+1:Nat):Int)) else ς (.done f))(he:L (xs.length:Int)=dn c):
 iter L FU 0=bif zy77 p xs then c else ς f:=by
 have:=zy45 (step:=L) xs.zipIdx (λk (_:Unit)=>(k:Int)) (λ_ y=>bif p y.2 y.1 then ς (.next ()) else ς (.done f)) (λ_=>c) (by simp_all)
  (λk y s hy hk=>by
   have hk':k<xs.length:=by simpa using hk
   have:y=(xs[k],k):=by rw[ZM hk] at hy;simpa using hy.symm
   simp_all) (λs=>by simp_all) ()
 refine Eq.trans (show iter L FU 0=_ from this) ?_
 have key:∀ys:List (α×Nat),kP (λ(_:Unit) y=>bif p y.2 y.1 then ς (.next ()) else ς (ct.done f)) (λ_=>c) ys ()=bif ys.all (λy=>p y.2 y.1) then c else ς f:=by
  intro ys
  induction ys with
  |nil=>rfl
  |cons x xs ih=>rw[kP];grind
 exact key _
theorem Rs{l:List Int}(h:l.length<=1048576)(v:Int):yR l v=ς (l.any λx=>eqB x v):=
 zy56 l (λx=>eqB x v) oaa (λk x hx hk=>by
  simp only[xz,cE hk,bh,hx,WRs (k:=k),au]
  rfl) (by simp[xz,dn])
theorem zy137(a b:Int):eqB a b=eqB b a:=by rw[abM];simp[eqB];exact eq_comm
theorem has_i{l:List Int}(h:l.length<=1048576)(v:Int):fa l v=ς (l.any λx=>eqB x v):=by
 have hf:=s7 (L:=fc l v) l (λx=>eqB x v) oaa (λk x hx hk=>by
  simp only[fc,cE hk,bh,hx,WRs (k:=k),zy137 v x,au]
  rfl) (by simp[fc,dn])
 unfold fa jx
 rw[hf]
 simp only[abJ]
 rw[BT oaa]
def zy138(m:aV)(i:Int):Bool:=inR i 0 ((m.bp.length:Int)-1)
theorem zy139(h:m.bp.length<=1048576)(i:Int):rf m i=ς (zy138 m i):=by
 simp only[rf,kR,xK h,abJ,zy138]
def zy140(m:aV)(x:Int)(i:Nat):Bool:=match m.bp[x.toNat]? with
 |some d=>d.cy.any λy=>eqB y (i:Int)
 |none=>η
def nbB(m:aV)(i:Nat)(ns:List Int)(k:Nat)(x:Int):Bool:=zy138 m x&&(!eqB x (i:Int)&&(zy82 id ns k x&&zy140 m x i))
def zy141(m:aV)(i:Nat)(c:fk):Bool:=inR c.gB 0 2&&zy77 (nbB m i c.cy) c.cy
def zy142(m:aV):Bool:=inR (m.bp.length:Int) 1 6&&zy77 (zy141 m) m.bp
theorem zy143{x:Int}(h:zy138 m x=ζ):∃d,d∈m.bp/\ix m.bp x=ς d/\m.bp[x.toNat]?=ς d:=by
 simp only[zy138,bE] at h
 have hlt:x.toNat<m.bp.length:=by omega
 refine⟨m.bp[x.toNat],abR hlt,?_,ZM hlt⟩
 have hm:x=(x.toNat:Int):=by omega
 generalize x.toNat=m at hm hlt ⊢
 simp_all
theorem map_i(h:zy65 m):qZ m=ς (zy142 m):=by
 have hl:=h.1
 have h2:∀(i:Nat) (c:fk),c∈m.bp->i<m.bp.length->iter (lV m (i:Int) c) FU 0=bif zy77 (λk x=>!eqB x (i:Int)&&(zy138 m x&&zy140 m x i)) c.cy then ς (.next ((i+1:Nat):Int)) else ς (.done η):=by
  intro i c hc hi
  have hn:=(h.2 c hc).1
  refine zy136 c.cy (λk x=>!eqB x (i:Int)&&(zy138 m x&&zy140 m x i)) (ct.done η) _ oaa (λk x hx hk=>?_) (by simp[lV,WRs (k:=i)])
  simp only[lV,cE hk,bh,hx,WRs (k:=k),zy139 hl,sF,au]
  cases eqB x (i:Int) with
  |true=>rfl
  |false=>
   cases hcb:zy138 m x with
   |false=>rfl
   |true=>
    obtain⟨d,d1,d2,d3⟩:=zy143 hcb
    simp only[d2,has_i (h.2 d d1).1,zy140,d3,au]
    simp_all
 have hL:iter (lU m) FU 0=bif zy77 (zy141 m) m.bp then ς ζ else ς false:=by
  refine zy136 m.bp (zy141 m) η (ς ζ) oaa (λk x hx hk=>?_) (by simp[lU])
  have hm:=ZL hx
  simp only[lU,cE hk,bh,hx,kR,zy84 (h.2 x hm).1,h2 k x hm hk,zy141,au]
  have:zy77 (nbB m k x.cy) x.cy=(asc x.cy&&zy77 (λj y=>!eqB y (k:Int)&&(zy138 m y&&zy140 m y k)) x.cy):=by
   rw[asc,zy79]
   exact JP λj y _=>by simp only[nbB];ac_rfl
  rw[this]
  cases inR x.gB 0 2<;>cases asc x.cy<;>cases zy77 (λj y=>!eqB y (k:Int)&&(zy138 m y&&zy140 m y k)) x.cy<;>rfl
 simp only[qZ,kR,abJ,hL,zy142]
 grind
theorem W5(h:zy65 m):ot m=ς (zy142 m):=by
 have hl:=h.1
 have h2:∀(i:Nat) (c:fk),c∈m.bp->i<m.bp.length->iter (mw m (i:Int) c) FU 0=bif zy77 (nbB m i c.cy) c.cy then ς (.next ((i+1:Nat):Int)) else ς (.done η):=by
  intro i c hc hi
  have hn:=(h.2 c hc).1
  refine zy136 c.cy (nbB m i c.cy) (ct.done η) _ oaa (λk x hx hk=>?_) (by simp[mw,WRs (k:=i)])
  simp only[mw,cE hk,bh,hx,WRs (k:=k),zy83,xK hl,nbB,au]
  cases hcb:zy138 m x with
  |false=>rw[show inR x 0 ((m.bp.length:Int)-1)=η from hcb];rfl
  |true=>
   rw[show inR x 0 ((m.bp.length:Int)-1)=ζ from hcb]
   obtain⟨d,d1,d2,d3⟩:=zy143 hcb
   cases k with
   |zero=>
    simp only[zy82,show ltB 0 ((0:Nat):Int)=η from by simp[ltB],d2,Rs (h.2 d d1).1,zy140,d3,au]
    cases eqB x (i:Int)<;>cases(d.cy.any λy=>eqB y (i:Int))<;>rfl
   |succ k=>
    obtain⟨y,hy,hi⟩:=tV hk oaa oaa
    simp only[abP] at hy
    simp only[zy82,hy,hi,show ltB 0 ((k+1:Nat):Int)=ζ from by simp[ltB],d2,Rs (h.2 d d1).1,zy140,d3,id,au]
    cases eqB x (i:Int)<;>cases leB x y<;>cases(d.cy.any λy=>eqB y (i:Int))<;>rfl
 have hL:iter (mu m) FU 0=bif zy77 (zy141 m) m.bp then ς (inR (m.bp.length:Int) 1 6) else ς false:=by
  refine zy136 m.bp (zy141 m) η _ oaa (λk x hx hk=>?_) (by simp[mu,zy83])
  have hm:=ZL hx
  simp only[mu,cE hk,bh,hx,zy83,h2 k x hm hk,zy141,au]
  cases inR x.gB 0 2<;>cases zy77 (nbB m k x.cy) x.cy<;>rfl
 simp only[ot,hL,zy142]
 grind
def zy144(d:aC)(s:ah):Bool:=(eqB d.dx.ID.dQ s.bH.ID.dQ&&(eqB d.dx.ID.bX s.bH.ID.bX&&ζ))&&eqB d.dx.eV s.bH.eV
def yr(n:ab)(i:Nat)(d:aC):Bool:=match n.an[i]?,n.aU[i]? with
 |some s,ς a=>zy106 d&&(iK s&&(ke a&&(zy144 d s&&(zy138 n.dV d.bv&&(zy138 n.dV s.bv&&(eqB s.bV.aA (i:Int)&&zy134 a s.bV))))))
 |_,_=>η
def flB(n:ab)(f:bT):Bool:=inR f.bA 0 ((n.aj.length:Int)-1)&&zy138 n.dV f.bv
def zy145(n:ab):Bool:=inR n.cX 0 (WR ((lO .i64 1 (n.dV.bp.length:Int))-1))&&(inR n.oG 0 100000&&leB 0 n.jM)
def kf(n:ab):Bool:=zy142 n.dV&&(kE n.d8&&(!eqB n.d8.eG 0&&(leB (n.aj.length:Int) 4&&(eqB (n.an.length:Int) (n.aj.length:Int)&&(eqB (n.aU.length:Int) (n.aj.length:Int)&&
 (zy77 (yr n) n.aj&&(leB (n.aZ.length:Int) 200&&(n.aZ.all (flB n)&&zy145 n))))))))
theorem LQ{x:Int}(h:inR x 0 b=ζ):zy138 m x=ltB x (m.bp.length:Int):=by
 rw[bE] at h
 rw[abM];simp[zy138,inR,leB,ltB];omega
theorem flt_i(h:zy76 n):iter (gj n) FU 0=ς (n.aZ.all (flB n)&&zy145 n):=by
 have hl:=h.2.2.2.2.1
 have:=zy81 (L:=gj n) n.aZ (λ_ f=>flB n f) (ς (zy145 n)) oaa (λk x hx hk=>by
  simp only[gj,cE hk,bh,hx,WRs (k:=k),kR,xK h.2.1.1,zy139 h.1.1,flB,au]
  cases inR x.bA 0 ((n.aj.length:Int)-1)<;>cases zy138 n.dV x.bv<;>rfl) (by
  simp only[gj,zy49,kR,zy145,show leB 0 (n.dV.bp.length:Int)=ζ from by simp[leB],au]
  grind)
 rw[this,zy80]
 grind
theorem flt_s(h:zy76 n):iter (gu n) FU 0=ς (n.aZ.all (flB n)&&zy145 n):=by
 have hl:=h.2.2.2.2.1
 have:=zy81 (L:=gu n) n.aZ (λ_ f=>flB n f) (ς (zy145 n)) oaa (λk x hx hk=>by
  simp only[gu,cE hk,bh,hx,WRs (k:=k),zy83,xK h.2.1.1,xK h.1.1,flB,zy138,au]
  cases inR x.bA 0 ((n.aj.length:Int)-1)<;>cases inR x.bv 0 ((n.dV.bp.length:Int)-1)<;>rfl) (by
  simp only[gu,zy49,zy83,zy145,show leB 0 (n.dV.bp.length:Int)=ζ from by simp[leB],au]
  grind)
 rw[this,zy80]
 grind
section
variable{n:ab}(h:zy76 n)(zy19:n.an.length=n.aj.length)(e2:n.aU.length=n.aj.length)
include h zy19 e2
omit h in
theorem at_i(hk:k<n.aj.length):∃s a,s∈n.an/\a∈n.aU/\n.an[k]?=ς s/\n.aU[k]?=ς a:=
 ⟨n.an[k]'(by omega),n.aU[k]'(by omega),abR _,abR _,ZM _,ZM _⟩
theorem mem_i{d:aC}(hd:n.aj[k]?=ς d):iO n (k:Int)=ς (yr n k d):=by
 have hk:=(v0.1 hd).1
 obtain⟨s,a,s1,a1,s2,a2⟩:=at_i zy19 e2 hk
 have od:=h.2.1.2 d (ZL hd)
 have os:=h.2.2.1.2 s s1
 have oa:=h.2.2.2.1.2 a a1
 simp only[iO,bh,hd,s2,a2,zy107 od.2.1 od.1.1,zy124 os,DB oa,zy139 h.1.1,VD oa,abJ,yr,zy144]
 grind
theorem mem_s{d:aC}(hd:n.aj[k]?=ς d):uh n (k:Int)=ς (yr n k d):=by
 have hk:=(v0.1 hd).1
 obtain⟨s,a,s1,a1,s2,a2⟩:=at_i zy19 e2 hk
 have od:=h.2.1.2 d (ZL hd)
 have os:=h.2.2.1.2 s s1
 have oa:=h.2.2.2.1.2 a a1
 simp only[uh,bh,hd,s2,a2,QL od.2.1 od.1.1,zy125 os,zy131 oa,zy135 oa,abJ,yr,zy144]
 cases hv:zy106 d
 .rfl
 cases hs:iK s
 .rfl
 have c1:zy138 n.dV d.bv=ltB d.bv (n.dV.bp.length:Int):=by
  simp only[zy106,hV] at hv;exact LQ hv.2.2.1
 have c2:zy138 n.dV s.bv=ltB s.bv (n.dV.bp.length:Int):=by
  simp only[iK,hV] at hs;exact LQ hs.2.2.2.2.2.2.2.2.2.2.2.1
 grind
theorem Yl:iter (gh n) FU 0=ς (zy77 (yr n) n.aj&&(leB (n.aZ.length:Int) 200&&(n.aZ.all (flB n)&&zy145 n))):=by
 have hl:=h.2.1.1
 have:=zy81 (L:=gh n) n.aj (yr n) (ς (leB (n.aZ.length:Int) 200&&(n.aZ.all (flB n)&&zy145 n))) oaa (λk x hx hk=>by
  simp only[gh,cE hk,mem_i h zy19 e2 hx,WRs (k:=k),au]
  simp_all) (by
  simp only[gh,zy49,cond_false,flt_i h,uy 200]
  grind)
 grind
theorem Ym:iter (gr n) FU 0=ς (zy77 (yr n) n.aj&&(n.aZ.all (flB n)&&zy145 n)):=by
 have hl:=h.2.1.1
 have:=zy81 (L:=gr n) n.aj (yr n) (ς (n.aZ.all (flB n)&&zy145 n)) oaa (λk x hx hk=>by
  simp only[gr,cE hk,mem_s h zy19 e2 hx,WRs (k:=k),au]
  simp_all) (by simp only[gr,zy49,cond_false,flt_s h])
 grind
end
theorem vM{a b:Nat}(h:eqB (a:Int) (b:Int)=ζ):a=b:=by
 have:(a:Int)=b:=by simpa [eqB] using h
 omega
theorem Ee(h:zy76 n):lh n=ς (kf n):=by
 simp only[lh,map_i h.1,zy97,abJ,kf,uy 4]
 cases zy142 n.dV<;>cases kE n.d8<;>cases eqB n.d8.eG 0<;>cases leB (n.aj.length:Int) 4<;>try rfl
 cases zy19:eqB (n.an.length:Int) (n.aj.length:Int)<;>cases e2:eqB (n.aU.length:Int) (n.aj.length:Int)<;>try rfl
 rw[Yl h (vM zy19) (vM e2)];rfl
theorem zy146(h:zy76 n):jk n=ς (kf n):=by
 simp only[jk,W5 h.1,zy98,abJ,kf,uy 4,uy 200]
 cases zy142 n.dV<;>cases kE n.d8<;>cases eqB n.d8.eG 0<;>cases leB (n.aj.length:Int) 4<;>try rfl
 cases zy19:eqB (n.an.length:Int) (n.aj.length:Int)<;>cases e2:eqB (n.aU.length:Int) (n.aj.length:Int)<;>try rfl
 rw[Ym h (vM zy19) (vM e2)]
 grind
attribute [local simp] zy49 bh
theorem na{by_:Nat}{L:Int×List α->Option (ct (Int×List α) (List α))}(xs:List α)(hb:by_<=100000)(hl:xs.length<=1048576)(hs:∀(k:Nat) (x:α),xs[k]?=ς x->k<xs.length->L ((k:Int),xs.take k)=bif cW by_ (xs.take k++[x]).length then ς (.next (((k+1:Nat):Int),xs.take k++[x])) else ξ)(he:L ((xs.length:Nat),xs)=ς (.done xs)):iter L FU (0,[])=ς xs:=by
 have:=zy45 (step:=L) xs (λk (_:Unit)=>((k:Int),xs.take k)) (λ_ _=>ς (.next ())) (λ_=>ς xs) oaa
  (λk x _ hx hk=>by
   rw[hs k x hx hk,zy53 hb (by simp;omega)]
   have e:xs.take (k+1)=xs.take k++[x]:=by rw[abS,hx];rfl
   simp[e]) (λ_=>by simp_all) ()
 rw[zy50 xs (λ_ _=>rfl)] at this
 exact this
theorem okL.le{ok:α->Prop}{xs:List α}(h:okL ok xs):xs.length<=1048576:=h.1
theorem DG{xs:List bD}(h:okL zy67 xs):nB xs=ς xs:=by
 rw[nB,na (by_:=24) (L:=nV xs) xs oaa h.1 (λk x hx hk=>by
  simp[nV,cE hk,hx,zy47 (show k<9223372036854775807 by have:=h.1;omega),zy53 (by_:=1) (n:=x.bb.length) oaa (by have:=(h.2 x (ZL hx)).1;omega)]) (by simp[nV])]
 rfl
theorem Ja{xs:List ae}(h:okL zy66 xs):pL xs=ς xs:=by
 rw[pL,na (by_:=32) (L:=pB xs) xs oaa h.1 (λk x hx hk=>by
  simp[pB,cE hk,hx,zy47 (show k<9223372036854775807 by have:=h.1;omega),zy53 (by_:=1) (n:=x.bb.length) oaa (by have:=(h.2 x (ZL hx)).1;omega)]) (by simp[pB])]
 rfl
theorem zy147(h:zy70 w):lE w=ς w:=by rw[lE,Ja h];rfl
theorem zy148(h:zy68 r):tp r=ς r:=by rw[tp,Ja h.1,abJ,DG h.2];rfl
theorem zy149(h:ee p):tv p=ς p:=by
 rw[tv,aaC,zy53 oaa (by have:=h.1;omega)];rfl
theorem oQ(h:zy71 s):gZ s=ς s:=by rw[gZ,zy149 h.1,abJ,DG h.2.1,abJ,zy147 h.2.2];rfl
theorem zy150{d:aC}(h:zy69 d):iH d=ς d:=by rw[iH,zy148 h];rfl
theorem zy151(h:zy72 a):lb a=ς a:=by
 rw[lb,aaC,zy53 oaa (by have:=h.1;omega)];rfl
theorem zy152{x:aD}(h:zy74 x):yU x=ς x:=by
 rw[yU,aaC,zy53 oaa (by have:=h.1;omega)];rfl
theorem zy153(h:zy75 f):qI f=ς f:=by rw[qI,zy152 h];rfl
theorem map_c(h:zy65 m):ox m=ς m:=by
 rw[ox,na (by_:=32) (L:=iM m) m.bp oaa h.1 (λk x hx hk=>by
  simp[iM,cE hk,hx,zy47 (show k<9223372036854775807 by have:=h.1;omega),zy53 (by_:=8) (n:=x.cy.length) oaa (by have:=(h.2 x (ZL hx)).1;omega)]) (by simp[iM])]
 rfl
theorem Sd(h:zy76 n):mO n=ς n:=by
 obtain⟨h1,h2,h3,h4,h5⟩:=h
 rw[mO,map_c h1,abJ,
  na (by_:=144) (L:=rJ n) n.aj oaa h2.1 (λk x hx hk=>by simp[rJ,cE hk,hx,zy47 (show k<9223372036854775807 by have:=h2.1;omega),zy150 (h2.2 x (ZL hx))]) (by simp[rJ]),abJ,
  na (by_:=288) (L:=rK n) n.an oaa h3.1 (λk x hx hk=>by simp[rK,cE hk,hx,zy47 (show k<9223372036854775807 by have:=h3.1;omega),oQ (h3.2 x (ZL hx))]) (by simp[rK]),abJ,
  na (by_:=48) (L:=rL n) n.aU oaa h4.1 (λk x hx hk=>by simp[rL,cE hk,hx,zy47 (show k<9223372036854775807 by have:=h4.1;omega),zy151 (h4.2 x (ZL hx))]) (by simp[rL]),abJ,
  na (by_:=176) (L:=rN n) n.aZ oaa h5.1 (λk x hx hk=>by simp[rN,cE hk,hx,zy47 (show k<9223372036854775807 by have:=h5.1;omega),zy153 (h5.2 x (ZL hx))]) (by simp[rN])]
 rfl
theorem Jf(n a b:Int):cQ n a b=ς (inR n a b):=by unfold cQ inR;grind
theorem zy154(x m:Int):(abH x m)%m=x%m:=by
 have h:=Int.mul_tdiv_add_tmod x m
 have h2:x%m=(m*x.tdiv m+x.tmod m)%m:=by rw[h]
 rw[h2,Int.mul_add_emod_self_left]
theorem zy155{m:Int}(x:Int)(hm:0<m): -m<abH x m/\abH x m<m:=⟨Int.lt_tmod_of_pos x hm,Int.tmod_lt_of_pos x hm⟩
theorem zy156(x:Int){m:Int}(h1:1<=m)(h2:m<=1000000000000):Dm x m=ς (x%m):=by
 obtain⟨a,b⟩:=zy155 x (show 0<m by omega)
 have hr:inR m 1 1000000000000=true:=bE.2 ⟨h1,h2⟩
 have hz:(!eqB m 0)=true:=by simp[eqB];omega
 simp only[Dm,Jf,hr,hz,au]
 rw[zy46 oaa,abN oaa,Int.add_emod_right,zy154]
abbrev zy157:Int:=2147483647
def zy158(v x:Int):Int:=(v*1000003+x%zy157+13)%zy157
theorem zy159(v x:Int):0<=zy158 v x/\zy158 v x<zy157:=⟨ab7 _ (by decide),ab6 _ (by decide)⟩
theorem zy160{v x:Int}(h0:0<=v)(h1:v<zy157):abH (WR (WR (WR (v*1000003)+x%zy157)+13)) zy157=zy158 v x:=by
 have a:=ab7 x (show zy157≠0 by decide)
 have b:=ab6 x (show 0<zy157 by decide)
 unfold zy157 at*
 rw[zy46 (n:=v*1000003) oaa,zy46 (n:=v*1000003+x%2147483647) oaa,zy46 (n:=v*1000003+x%2147483647+13) oaa,abN oaa]
 rfl
def Mg(v:Int)(xs:List Int):Int:=xs.foldl zy158 v
theorem zy161:∀(xs:List Int) (v:Int),0<=v->v<zy157->kP (λ(s x:Int)=>ς (ct.next (ρ:=Int) (abH (WR (WR (WR (s*1000003)+x%zy157)+13)) zy157))) ς xs v=ς (Mg v xs)
 |[],v,_,_=>rfl
 |x::xs,v,h0,h1=>by
  rw[kP,zy160 h0 h1]
  exact zy161 xs _ (zy159 v x).1 (zy159 v x).2
theorem Ti{xs:List Int}(hl:xs.length<=1048576):MU xs=ς (Mg 11 xs):=by
 have:=zy45 (step:=vb xs) xs (λk (s:Int)=>(s,(k:Int))) (λs x=>ς (ct.next (abH (WR (WR (WR (s*1000003)+x%zy157)+13)) zy157))) ς oaa
  (λk x s hx hk=>by
   simp only[vb,cE hk,bh,hx,zy156 x (m:=2147483647) oaa oaa,WRs (k:=k),au];rfl) (λs=>by simp[vb]) 11
 rw[MU,show iter (vb xs) FU (11,0)=_ from this,zy161 xs 11 (by decide) (by decide)]
 rfl
def ez(k:Int)(xs:List Int):Int:=zy158 (Mg (zy158 11 k) xs) k
theorem zy162(k:Int)(xs:List Int):0<=ez k xs/\ez k xs<zy157:=zy159 _ _
theorem zy163{xs:List Int}(hl:xs.length<=100000)(k:Int):ed k xs=ς (ez k xs):=by
 have a1:cW 8 ([k]++xs).length=true:=zy53 oaa (by simp;omega)
 have a2:cW 8 (([k]++xs)++[k]).length=true:=zy53 oaa (by simp;omega)
 rw[ed,a1,a2]
 simp only[cond_true]
 rw[Ti (by simp;omega)]
 simp[Mg,ez]
def dk(k x:Int):Int:=if ez k [9,x]=0 then 1 else ez k [9,x]
theorem zy164(k x:Int):nu k x=ς (dk k x):=by
 have:=(zy162 k [9,x]).1
 rw[nu,zy163 (by simp)]
 simp only[abJ,dk,Cw]
 by_cases h:ez k [9,x]=0
 .rw[h,show ltB 1 0=η from ltB_f.2 oaa];simp
 by_cases h1:ez k [9,x]=1
 .rw[h1];simp
 rw[show ltB 1 (ez k [9,x])=ζ from ltB_t.2 oaa];simp[h]
def zy165(k:Int)(xs:List Int):Int:=xs.foldl dk k
theorem zy166:∀(xs:List Int) (v:Int),kP (λ(s x:Int)=>ς (ct.next (ρ:=Int) (dk s x))) ς xs v=ς (zy165 v xs)
 |[],v=>rfl
 |x::xs,v=>by rw[kP];exact zy166 xs _
theorem vg{p:jN}(hl:p.Steps.length<=1048576)(k:Int):ou k p=ς (zy165 k p.Steps):=by
 have:=zy45 (step:=jY p) p.Steps (λj (s:Int)=>(s,(j:Int))) (λs x=>ς (ct.next (dk s x))) ς oaa
  (λj x s hx hj=>by simp[jY,cE hj,hx,WRs (k:=j),zy164]) (λs=>by simp[jY]) k
 rw[ou,show iter (jY p) FU (k,0)=_ from this,zy166]
 rfl
def KO(k e:Int):Int:=zy165 k [1,3,e]
theorem zy167(k e:Int):pJ k e=ς (KO k e):=by
 rw[pJ,sO]
 simp only[abJ]
 rw[vg (by simp)];rfl
def okB(xs:List Int):Prop:=∀x∈xs,zy54 x
theorem Qc{x:Int}(h:zy54 x):WR x=x:=zy46 (by simp only[zy54] at h;omega)
theorem zy168:∀(xs acc:List Int),okB xs->acc.length+xs.length<=100000->kP (λ(s:List Int) (x:Int)=>bif cW 8 (s++[WR x]).length then ς (ct.next (ρ:=List Int) (s++[WR x])) else ξ) ς xs acc=ς (acc++xs)
 |[],acc,_,_=>by simp[kP]
 |x::xs,acc,h,hl=>by
  simp only[Z5] at hl
  rw[kP,show cW 8 (acc++[WR x]).length=ζ from zy63 (by simp;omega) (by simp;omega),Qc (h x (.head _))]
  simp only[cond_true]
  rw[zy168 xs (acc++[x]) (λy hy=>h y (.tail _ hy)) (by simp;omega)]
  simp
theorem Ez{xs:List Int}(hb:okB xs)(hl:xs.length<=50000):pj xs=ς ((xs.length:Int)::xs):=by
 have:=zy45 (step:=jh xs) xs (λj (s:List Int)=>((j:Int),s)) (λ(s:List Int) (x:Int)=>bif cW 8 (s++[WR x]).length then ς (ct.next (ρ:=List Int) (s++[WR x])) else ξ) ς oaa
  (λj x s hx hj=>by
   simp only[jh,cE hj,bh,hx,WRs (k:=j),au]
   simp_all) (λs=>by simp[jh]) [(xs.length:Int)]
 rw[pj,show iter (jh xs) FU (0,[(xs.length:Int)])=_ from this,zy168 xs _ hb (by simp;omega)]
 rfl
def zy169(m:bR):Bool:=inR m.dE 0 1&&(inR m.ga 1 100000&&(leB (m.bb.length:Int) 60&&inR m.jD 0 2147483646))
theorem zy170(m:bR):jl m=ς (zy169 m):=by
 simp only[jl,Jf,abJ,zy169]
 grind
def mac(k:Int)(m:bR):Int:=ez k ([m.dE,m.ga]++((m.bb.length:Int)::m.bb))
theorem wV{m:bR}(hb:okB m.bb)(hl:m.bb.length<=50000)(k:Int):qD k m=ς (eqB m.jD (mac k m)):=by
 rw[qD,z6,Ez hb hl]
 simp only[abJ]
 rw[show cW 8 ([m.dE,m.ga]++((m.bb.length:Int)::m.bb)).length=ζ from zy63 (by simp;omega) (by simp;omega),zy163 (by simp;omega)]
 rfl
theorem zy171{m:bR}(h:zy169 m=ζ):m.bb.length<=60:=by
 simp only[zy169,hV] at h
 have:=ww h.2.2.1
 omega
def zy172(k:Int)(p:aD):Bool:=zy169 p.bz&&(eqB p.bz.dE 1&&eqB p.bz.jD (mac (KO k p.bi) p.bz))
theorem zy173{p:aD}(hb:okB p.bz.bb)(k:Int):mL k p=ς (zy172 k p):=by
 rw[mL,zy170]
 simp only[abJ,zy172,zy167]
 cases hv:zy169 p.bz
 .rfl
 rw[wV hb (Z0 (zy171 hv) oaa)]
 grind
def d1(k:Int)(i:Nat)(x:Int):Int:=(x-ez k [(i:Int)]%256)%256
def zy174(k:Int)(xs:List Int):List Int:=xs.mapIdx (λi x=>d1 k i x)
theorem zy175(k:Int)(xs:List Int):(zy174 k xs).length=xs.length:=by simp[zy174]
theorem zy176(k:Int)(xs:List Int):okB (zy174 k xs):=by
 intro x hx
 obtain⟨i,hi⟩:=ZY hx
 simp only[zy174,abX] at hi
 cases h:xs[i]? with
 |none=>simp_all
 |some y=>
  rw[h] at hi;simp at hi;subst hi
  simp only[zy54,d1]
  omega
theorem Ur(n:Int):IntKind.u8.wrap n=n%256:=by rfl
theorem zy177{xs:List Int}(hb:okB xs)(hl:xs.length<=50000)(k:Int):yJ k xs=ς (zy174 k xs):=by
 have goal:Wp (iter (u9 k xs) FU (0,[])) (λr=>r=zy174 k xs):=by
  refine Wp.iterF (λs=>∃i:Nat,i<=xs.length/\s.1=(i:Int)/\s.2=(zy174 k xs).take i) (λs=>((xs.length:Int)-s.1).toNat) ⟨0,by omega,rfl,rfl⟩ (by simp;omega) ?_
  rintro⟨v2,v3⟩ ⟨i,hi,rfl,rfl⟩
  simp only[u9]
  refine Wp.cond (λhlt=>?_) (λhlt=>?_)
  .have hlt:=zy59 hlt
   have hil:i<xs.length:=by omega
   refine Wp.ix oaa oaa λx hx hxi=>?_
   simp only[abL] at hxi
   have hx8:=hb x hx
   have hr:=zy162 k [(i:Int)]
   have zy19:abH (ez k [(i:Int)]) 256=ez k [(i:Int)]%256:=abN hr.1
   have hb8:0<=ez k [(i:Int)]%256/\ez k [(i:Int)]%256<256:=by omega
   simp only[zy54] at hx8
   refine Wp.eq (zy163 (by simp) _) (Wp.eq (zy156 _ oaa oaa) ?_)
   have hlen:((zy174 k xs).take i).length=i:=by rw[aaG,zy175];omega
   rw[zy19,Qc (hb x hx),zy46 oaa,Ur]
   have e4:(x-ez k [(i:Int)]%256)%256%256=d1 k i x:=by rw[d1];omega
   rw[e4]
   refine Wp.ok (zy63 (by grind) (by grind)) (Wp.some ?_)
   have e3:WR ((i:Int)+1)=((i+1:Nat):Int):=by rw[zy46 oaa];rfl
   rw[e3]
   have hxd:(zy174 k xs)[i]?=ς (d1 k i x):=by simp only[zy174,abX,hxi,abZ]
   refine⟨⟨i+1,by omega,rfl,by rw[abS,hxd];rfl⟩,?_⟩
   omega
  have hlt:=zy60 hlt
  refine Wp.some ?_
  rw[ab8 (by rw[zy175];omega)]
 obtain⟨r,h1,h2⟩:=goal.ex
 rw[yJ,h1,h2];rfl
def zy19(k:Int)(i:Nat)(x:Int):Int:=(x+ez k [(i:Int)]%256)%256
def zy178(k:Int)(xs:List Int):List Int:=xs.mapIdx (λi x=>zy19 k i x)
@[simp] theorem encL_len (k:Int) (xs:List Int):(zy178 k xs).length=xs.length:=by simp[zy178]
theorem zy179(k:Int)(xs:List Int):okB (zy178 k xs):=by
 intro x hx
 obtain⟨i,hi⟩:=ZY hx
 simp only[zy178,abX] at hi
 cases h:xs[i]? with
 |none=>simp_all
 |some y=>rw[h] at hi;simp at hi;subst hi;simp only[zy54,zy19];omega
theorem zy180{xs:List Int}(h:okB xs)(k:Int):zy174 k (zy178 k xs)=xs:=by
 apply abW
 intro i
 simp only[zy174,zy178,abX,Option.map_map]
 cases hx:xs[i]? with
 |none=>rfl
 |some x=>
  have:=h x (ZL hx)
  simp only[zy54] at this
  simp only[abZ,Function.comp,d1,zy19,Option.some.injEq]
  omega
theorem zy181{xs:List Int}(hb:okB xs)(hl:xs.length<=50000)(k:Int):yK k xs=ς (zy178 k xs):=by
 have goal:Wp (iter (va k xs) FU (0,[])) (λr=>r=zy178 k xs):=by
  refine Wp.iterF (λs=>∃i:Nat,i<=xs.length/\s.1=(i:Int)/\s.2=(zy178 k xs).take i) (λs=>((xs.length:Int)-s.1).toNat) ⟨0,by omega,rfl,rfl⟩ (by simp;omega) ?_
  rintro⟨v2,v3⟩ ⟨i,hi,rfl,rfl⟩
  simp only[va]
  refine Wp.cond (λhlt=>?_) (λhlt=>?_)
  .have hlt:=zy59 hlt
   have hil:i<xs.length:=by omega
   refine Wp.ix oaa oaa λx hx hxi=>?_
   simp only[abL] at hxi
   have hx8:=hb x hx
   have hr:=zy162 k [(i:Int)]
   have t1:abH (ez k [(i:Int)]) 256=ez k [(i:Int)]%256:=abN hr.1
   have hb8:0<=ez k [(i:Int)]%256/\ez k [(i:Int)]%256<256:=by omega
   simp only[zy54] at hx8
   refine Wp.eq (zy163 (by simp) _) ?_
   have hlen:((zy178 k xs).take i).length=i:=by rw[aaG,encL_len];omega
   rw[t1,Qc (hb x hx),zy46 oaa,abN oaa,Ur]
   have t4:(x+ez k [(i:Int)]%256)%256%256=zy19 k i x:=by rw[zy19];omega
   rw[t4]
   refine Wp.ok (zy63 (by grind) (by grind)) (Wp.some ?_)
   have t3:WR ((i:Int)+1)=((i+1:Nat):Int):=by rw[zy46 oaa];rfl
   rw[t3]
   have hxd:(zy178 k xs)[i]?=ς (zy19 k i x):=by simp only[zy178,abX,hxi,abZ]
   refine⟨⟨i+1,by omega,rfl,by rw[abS,hxd];rfl⟩,?_⟩
   omega
  have hlt:=zy60 hlt
  refine Wp.some ?_
  rw[ab8 (by simp_all)]
 obtain⟨r,h1,h2⟩:=goal.ex
 rw[yK,h1,h2];rfl
theorem zy182{m:bR}(hb:okB m.bb)(hl:m.bb.length<=50000)(k:Int):z6 k m=ς (mac k m):=by
 rw[z6,Ez hb hl]
 simp only[abJ]
 rw[show cW 8 ([m.dE,m.ga]++((m.bb.length:Int)::m.bb)).length=ζ from zy63 (by simp;omega) (by simp;omega),zy163 (by simp;omega)]
 rfl
def zy183(k c:Int)(b:List Int):bR:=⟨1,c,zy178 (dk k (2*c+1)) b,mac k ⟨1,c,zy178 (dk k (2*c+1)) b,0⟩⟩
def zy184(root g e:Int)(x:ae):aD:=⟨g,e,zy183 (KO root e) x.cZ x.bb⟩
theorem zy185(h0:0<=x.cZ)(h1:x.cZ<=1000000)(hb:okB x.bb)(hl:x.bb.length<=50000)(root g e:Int):qB root g e x=ς (zy184 root g e x):=by
 simp only[qB,zy167,Cz,abJ,zy46 (n:=2*x.cZ) oaa,zy46 (n:=2*x.cZ+1) oaa,zy164,zy181 hb hl,zy182 (m:=⟨1,x.cZ,zy178 _ x.bb,0⟩) (zy179 _ _) (by simpa using hl)]
 rfl
theorem hM_le(k:Int)(xs:List Int):inR (ez k xs) 0 2147483646=true:=by have:=zy162 k xs;rw[bE];grind
theorem Wj{c:Int}{b:List Int}(h0:1<=c)(h1:c<=100000)(hl:b.length<=60)(k:Int):zy169 (zy183 k c b)=true:=by
 simp only[zy169,zy183,encL_len,mac];rw[hM_le];simp[inR,leB];omega
theorem Y0(h0:1<=x.cZ)(h1:x.cZ<=100000)(hl:x.bb.length<=60)(root g e:Int):zy172 root (zy184 root g e x)=true:=by
 simp only[zy172,zy184,Wj h0 h1 hl];simp[zy183,mac,eqB]
def zy186(root g e:Int)(x:aD):ae×Bool:=
 if x.ag=g/\x.bi=e/\zy172 root x=ζ then(⟨x.bz.ga,zy174 (dk (KO root e) (2*x.bz.ga+1)) x.bz.bb⟩,ζ) else(kB,η)
theorem zy187{p:aD}(hb:okB p.bz.bb)(k g e:Int):True/\t9 k g e p=ς (zy186 k g e p):=by
 simp only[t9,zy173 hb,zy167,abJ,zy186]
 cases hg:eqB p.ag g
 .simp_all
 cases he:eqB p.bi e
 .simp_all
 cases hv:zy172 k p
 .simp_all
 have he:=zy61 he
 rw[if_pos ⟨zy61 hg,he,rfl⟩]
 simp only[zy172,hV] at hv
 obtain⟨h1,h2,h3⟩:=hv
 have hlen:=zy171 h1
 have hd:=zy61 h2
 have hm:=zy61 h3
 have hcnt:1<=p.bz.ga/\p.bz.ga<=100000:=by
  simp only[zy169,hV] at h1
  exact bE.1 h1.2.1
 rw[he] at hm
 have ek:eqB p.bz.jD (mac (KO k e) p.bz)=true:=by rw[hm];simp
 simp only[xu,zy170,wV hb (show p.bz.bb.length<=50000 by omega),zy164,zy177 hb (show p.bz.bb.length<=50000 by omega),h1,h2,ek,show leB p.bz.ga 0=η from leB_f.2 oaa,hd,zy46 (n:=2*p.bz.ga) oaa,zy46 (n:=2*p.bz.ga+1) oaa,au]
 simp_all
theorem zy188(h0:1<=x.cZ)(h1:x.cZ<=100000)(hb:okB x.bb)(hl:x.bb.length<=60)(root g e:Int):zy186 root g e (zy184 root g e x)=(x,ζ):=by
 rw[zy186,if_pos ⟨rfl,rfl,Y0 h0 h1 hl _ _ _⟩]
 simp[zy184,zy183,zy180 hb]
def TB(root:Int)(m:aM):Int:=ez (zy165 root [1,2]) [23,m.bk,m.bv,m.ag,m.bi,m.bX]
def zy189(root:Int)(m:aM):aM:={m with jD:=TB root m}
def zy190(root:Int)(m:aM):Bool:=eqB m.jD (TB root m)
theorem zy191(root:Int)(m:aM):qC root m=ς (TB root m):=by simp[qC,mI,vg,zy163,TB]
theorem z8(root:Int)(m:aM):iL root m=ς (zy189 root m):=by simp[iL,zy191,zy189]
theorem zy192(root:Int)(m:aM):f7 root m=ς (zy190 root m):=by simp[f7,zy191,zy190]
@[simp] theorem vSig_sign (root:Int) (m:aM):zy190 root (zy189 root m)=true:=by simp[zy190,zy189,TB,eqB]
def zy193(m:aM):Bool:=inR m.bk 1 8&&(inR m.bv 0 5&&(inR m.ag 0 999999&&(inR m.bi 0 999999&&inR m.bX 0 1000000000000)))
theorem MQ(m:aM):jX m=ς (zy193 m):=by
 simp only[jX,zy83,abJ,zy193]
 grind
def msk(k r:Int):Int:=ez k [1,r]%1000000
theorem zy194(k r:Int):0<=msk k r/\msk k r<1000000:=by unfold msk;omega
theorem W6(k r:Int):kX k r=ς (msk k r):=by simp[kX,zy163,zy156,msk]
def unm(k r a:Int):Int:=(a%1000000-msk k r)%1000000
theorem zy195(k r a:Int):0<=unm k r a/\unm k r a<=999999:=by unfold unm;omega
theorem zy196(k r a:Int):jo k r a=ς (unm k r a):=by
 have:=zy194 k r
 simp only[jo,zy156 _ (show(1:Int)<=1000000 by omega) oaa,W6,abJ,unm];rw[zy46 oaa]
def zy197(x:Int):Int:=if x=0 then 1 else x
def vec(k r q:Int):cM:=bif inR q 0 999999 then⟨r,(q+msk k r)%1000000,ez k [2,r,q],ez k [3,r],zy197 (ez k [4,r,q])⟩ else df
theorem zy198(k:Int)(xs:List Int):1<=zy197 (ez k xs)/\zy197 (ez k xs)<=2147483646:=by have:=zy162 k xs;unfold zy157 zy197 at*;omega
theorem NI(k r q:Int):gv k r q=ς (vec k r q):=by
 simp only[gv,zy83,abJ,vec]
 cases hq:inR q 0 999999
 .rfl
 rw[bE] at hq
 have h1:=zy194 k r
 have h2:=zy162 k [4,r,q]
 simp only[W6,zy156 _ (show(1:Int)<=1000000 by omega) oaa,zy163 (show [2,r,q].length<=100000 by simp),zy163 (show [3,r].length<=100000 by simp),zy163 (show [4,r,q].length<=100000 by simp),Cw,au]
 rw[zy46 oaa]
 by_cases h:ez k [4,r,q]=0
 .rw[show ltB 1 (ez k [4,r,q])=η from ltB_f.2 oaa];simp[zy197,h]
 by_cases h':ez k [4,r,q]=1
 .rw[h'];simp[ltB,zy197]
 rw[show ltB 1 (ez k [4,r,q])=ζ from ltB_t.2 oaa];simp[zy197,h]
theorem zy199{k r q:Int}(h0:0<=q)(h1:q<=999999):unm k r ((q+msk k r)%1000000)=q:=by have:=zy194 k r;unfold unm;omega
def zy200(k last:Int)(v:cM):Int:=
 if v.jD≠ez k [2,v.eQ,unm k v.eQ v.ie] then 1 else if unm k v.eQ v.ie<=last then 2 else if last<unm k v.eQ v.ie-1000 then 3 else 0
theorem NG(k last:Int)(v:cM):kZ k last v=ς (zy200 k last v):=by
 have hu:=zy195 k v.eQ v.ie
 simp only[kZ,zy196,zy163 (show [2,v.eQ,unm k v.eQ v.ie].length<=100000 by simp),abJ,zy200]
 rw[zy46 oaa]
 by_cases h1:v.jD=ez k [2,v.eQ,unm k v.eQ v.ie]
 .rw[show eqB v.jD (ez k [2,v.eQ,unm k v.eQ v.ie])=ζ from eqB_t.2 h1]
  simp only[ne_eq,h1,not_true_eq_false,if_false,au]
  by_cases h2:unm k v.eQ v.ie<=last
  .rw[show leB (unm k v.eQ v.ie) last=ζ from leB_t.2 h2,if_pos h2];rfl
  rw[show leB (unm k v.eQ v.ie) last=η from leB_f.2 oaa,if_neg h2]
  by_cases h3:last<unm k v.eQ v.ie-1000
  .rw[show ltB last (unm k v.eQ v.ie-1000)=ζ from ltB_t.2 h3,if_pos h3];rfl
  rw[show ltB last (unm k v.eQ v.ie-1000)=η from ltB_f.2 oaa,if_neg h3];rfl
 rw[show eqB v.jD (ez k [2,v.eQ,unm k v.eQ v.ie])=η from eqB_f.2 h1]
 simp[h1]
theorem zy201{k r q:Int}(h0:0<=q)(h1:q<=999999)(last:Int):zy200 k last (vec k r q)=if q<=last then 2 else if last<q-1000 then 3 else 0:=by
 have hq:inR q 0 999999=true:=bE.2 ⟨h0,h1⟩
 simp only[vec,hq,cond_true,zy200,zy199 h0 h1,ne_eq,not_true_eq_false,if_false]
def Hi(id:dt)(q:Int):Int:=ez 29 [id.dQ,id.bX,q]
theorem zy202(id:dt)(q:Int):jV id q=ς (Hi id q):=by simp[jV,zy163,Hi]
theorem zy203{α:Type}(p:α->Bool):∀(xs:List α) (i:Nat),i<(xs.takeWhile p).length->∃x,xs[i]?=ς x/\p x=ζ
 |[],i,h=>by simp at h
 |x::xs,i,h=>by
  rw[abY] at h
  cases hp:p x<;>rw[hp] at h
  .simp at h
  cases i with
  |zero=>simp_all
  |succ i=>exact zy203 p xs i (by simpa using h)
theorem zy204{α:Type}(p:α->Bool):∀(xs:List α) (x:α),xs[(xs.takeWhile p).length]?=ς x->p x=η
 |[],x,h=>by simp at h
 |y::xs,x,h=>by
  rw[abY] at h
  cases hp:p y<;>rw[hp] at h
  .simp_all
  exact zy204 p xs x (by simpa using h)
theorem Jl(p:α->Bool)(xs:List α):(xs.takeWhile p).length<=xs.length:=(List.takeWhile_prefix p).length_le
theorem zy205{α:Type}(p:α->Bool):∀xs:List α,xs.take (xs.takeWhile p).length=xs.takeWhile p
 |[]=>rfl
 |x::xs=>by
  rw[abY]
  cases p x
  .rfl
  simp[zy205 p xs]
theorem zy206{α:Type}(p:α->Bool):∀xs:List α,xs.drop (xs.takeWhile p).length=xs.dropWhile p
 |[]=>rfl
 |x::xs=>by
  rw[abY,acb]
  cases p x
  .rfl
  simp[zy206 p xs]
theorem zy207{L:Int->Option (ct Int Int)}(xs:List α)(p:α->Bool)(hl:xs.length<=1048576)(h1:∀(k:Nat) (x:α),xs[k]?=ς x->L k=bif p x then ς (.next (WR ((k:Int)+1))) else ς (.done k))(h0:L xs.length=ς (.done xs.length)):iter L FU 0=ς (((xs.takeWhile p).length:Nat):Int):=by
 have hle:=Jl p xs
 have:Wp (iter L FU 0) (λr=>r=(((xs.takeWhile p).length:Nat):Int)):=by
  refine Wp.iterF (λs=>∃i:Nat,s=(i:Int)/\i<=(xs.takeWhile p).length) (λs=>((xs.length:Int)-s).toNat) ⟨0,rfl,by omega⟩ oaa ?_
  rintro _ ⟨i,rfl,hi⟩
  by_cases e:i<(xs.takeWhile p).length
  .obtain⟨x,hx,hp⟩:=zy203 p xs i e
   rw[h1 i x hx,hp]
   exact⟨⟨i+1,by rw[zy46 oaa];rfl,by omega⟩,by simp only[zy46 (show-9223372036854775808<=(i:Int)+1/\(i:Int)+1<=9223372036854775807 by omega)];omega⟩
  have e:i=(xs.takeWhile p).length:=by omega
  by_cases hn:i<xs.length
  .obtain⟨x,hx⟩:∃x,xs[i]?=ς x:=⟨_,ZM hn⟩
   rw[h1 i x hx,zy204 p xs x (by simp_all)]
   subst e;rfl
  have:i=xs.length:=by omega
  subst this
  rw[h0]
  show(xs.length:Int)=_
  omega
 obtain⟨r,hr,rfl⟩:=this.ex
 exact hr
def before(q:Int)(x:ae):Bool:=ltB x.cZ q
def qi(x:ae)(xs:List ae):List ae:=xs.takeWhile (before x.cZ)++[x]++xs.dropWhile (before x.cZ)
def zy208:List ae->Int->List bD->be
 |[],n,dl=>⟨n,[],dl⟩
 |x::xs,n,dl=>if x.cZ=n/\dl.length<24 then zy208 xs (n+1) (dl++[⟨x.bb⟩]) else⟨n,x::xs,dl⟩
def zy209(r:be)(x:ae):Bool:=!oW r||(ltB 60 (x.bb.length:Int)||(!inR x.cZ r.bC (r.bC+7)||(r.aO.any (λy=>eqB y.cZ x.cZ)||leB 24 (r.aP.length:Int))))
def oE(r:be)(x:ae):be:=
 bif zy209 r x then r else
  let o:=zy208 (qi x r.aO) r.bC r.aP
  bif leB 24 (o.aP.length:Int) then {o with aO:=[]} else o
theorem DO:∀(xs:List ae) (n:Int) (dl:List bD),dl.length<=24->(zy208 xs n dl).aP.length<=24
 |[],n,dl,h=>h
 |x::xs,n,dl,h=>by
  rw[zy208];split
  .exact DO xs _ _ (by simp;omega)
  exact h
theorem DQ{L:be->Option (ct be be)}(hL:∀v:be,v.aO.length<=1000->v.aP.length<=24->0<=v.bC->v.bC<=2000000->L v=match v.aO with
  |[]=>ς (.done v)
  |x::xs=>if x.cZ=v.bC/\v.aP.length<24 then ς (.next ⟨v.bC+1,xs,v.aP++[⟨x.bb⟩]⟩) else ς (.done v)):
 ∀(xs:List ae) (n:Int) (dl:List bD) (fu:Nat),xs.length<=1000->dl.length<=24->0<=n->n+xs.length<=2000000->xs.length<fu->iter L fu ⟨n,xs,dl⟩=ς (zy208 xs n dl)
 |[],n,dl,fu,h1,h2,h3,h4,h5=>by
  cases fu with
  |zero=>omega
  |succ fu=>rw[iter,hL _ h1 h2 h3 (by simp_all)];rfl
 |x::xs,n,dl,fu,h1,h2,h3,h4,h5=>by
  simp only[Z5] at h1 h4 h5
  cases fu with
  |zero=>omega
  |succ fu=>
   rw[iter,hL ⟨n,x::xs,dl⟩ oaa h2 h3 (by grind),zy208]
   simp only
   by_cases e:x.cZ=n/\dl.length<24
   .rw[if_pos e,if_pos e]
    exact DQ hL xs (n+1) _ fu oaa (by simp;omega) oaa oaa oaa
   grind
theorem zy210{xs:List ae}(h:xs.length<=1048576)(q:Int):∃r,CM xs q=ς r/\leB 0 r=xs.any (λy=>eqB y.cZ q):=by
 refine⟨_,s7 (L:=rI xs q) xs (λy=>eqB y.cZ q) oaa (λk x hx hk=>?_) ?_,?_⟩
 .simp[rI,cE hk,hx];cases eqB x.cZ q<;>simp[WRs (k:=k)]
 .simp[rI]
 rcases zy55 (λy:ae=>eqB y.cZ q) xs 0 with⟨e,ha⟩|⟨j,e,x,hx,hp,_⟩
 .rw[show((0:Nat):Int)=0 from rfl] at e
  rw[e,show xs.any (λy=>eqB y.cZ q)=η from by simp_all];simp[leB]
 rw[show((0:Nat):Int)=0 from rfl] at e
 rw[e,show xs.any (λy=>eqB y.cZ q)=ζ from Z7.2 ⟨x,ZL hx,hp⟩,leB_t];omega
theorem wr(h:oW r=ζ):r.bC=(r.aP.length:Int)+1/\r.aP.length<=24/\r.aO.length<=8:=by
 simp only[oW,hV] at h
 obtain⟨h1,h2,h3,h4,h5⟩:=h
 have h2:=ww h2
 have h4:=ww h4
 have h1:=zy61 h1
 rw[zy46 oaa] at h1
 omega
theorem H7(x:ae)(xs:List ae):(qi x xs).length=xs.length+1:=by
 have:(xs.takeWhile (before x.cZ)).length+(xs.dropWhile (before x.cZ)).length=xs.length:=by rw[<-aaf,ab4]
 simp[qi];omega
theorem L2_s:∀v:be,v.aO.length<=1000->v.aP.length<=24->0<=v.bC->v.bC<=2000000->jL v=match v.aO with
 |[]=>ς (.done v)
 |x::xs=>if x.cZ=v.bC/\v.aP.length<24 then ς (.next ⟨v.bC+1,xs,v.aP++[⟨x.bb⟩]⟩) else ς (.done v):=by
 rintro⟨n,p,dl⟩ h1 h2 h3 h4
 cases p with
 |nil=>simp[jL]
 |cons x xs=>
  simp only[Z5] at h1 h2
  have i0:ix (x::xs) 0=ς x:=by simp[ix,leB]
  have hlt:ltB 0 (((x::xs).length:Nat):Int)=true:=ltB_t.2 (by simp_all)
  simp only[jL,i0,hlt,au]
  by_cases e:x.cZ=n
  .by_cases e2:dl.length<24
   .rw[if_pos ⟨e,e2⟩,eqB_t.2 e,show ltB (dl.length:Int) 24=ζ from ltB_t.2 oaa]
    have a1:cW 24 (dl++[(⟨x.bb⟩:bD)]).length=true:=zy53 oaa (by simp;omega)
    have a2:fH (x::xs) 1 (((x::xs).length:Nat):Int)=true:=by simp[fH];omega
    simp only[a1,a2,zy46 (n:=n+1) (by grind),au]
    rfl
   rw[if_neg (λh=>e2 h.2),eqB_t.2 e,show ltB (dl.length:Int) 24=η from ltB_f.2 oaa];rfl
  rw[if_neg (λh=>e h.1),eqB_f.2 e];rfl
theorem zy211(b:Bool)(x y:α):(bif b then ς x else ς y)=ς (bif b then x else y):=by grind
theorem Vy(a b c d e:Bool):(bif !a then ς ζ else bif b then ς ζ else bif !c then ς ζ else bif d then ς ζ else ς e)=ς (!a||(b||(!c||(d||e)))):=by grind
theorem zy212(h:zy68 r) :mE r x=ς (oE r x):=by
 obtain⟨q,hq,hq2⟩:=zy210 h.1.1 x.cZ
 have hw:oW r=ζ->inR x.cZ r.bC (WR (WR (r.bC+8)-1))=inR x.cZ r.bC (r.bC+7):=λhv=>by
  have:=wr hv
  rw[zy46 (n:=r.bC+8) oaa,zy46 oaa,show r.bC+8-1=r.bC+7 by omega]
 have hl:(bif !oW r then ς ζ else(bif ltB 60 (x.bb.length:Int) then ς ζ else(bif !(inR x.cZ r.bC (WR (WR (r.bC+8)-1))) then ς ζ else(bif leB 0 q then ς ζ else ς (leB 24 (r.aP.length:Int))))))=ς (zy209 r x):=by
  rw[hq2,Vy]
  cases hv:oW r
  .simp[zy209,hv]
  rw[hw hv];simp[zy209,hv]
 simp only[mE,zy148 h,SU h.2.1 h.1.1,zy83,hq,abJ,hl]
 rw[oE]
 cases hlt:zy209 r x
 .simp only[zy209,Z2,abQ] at hlt
  obtain⟨l1,l2,l3,l4,l5⟩:=hlt
  have hv:=wr l1
  have l2:=zy60 l2
  have l5:=yp l5
  have hw2:=Jl (before x.cZ) r.aO
  have hrun:=zy207 (L:=jK x r) r.aO (before x.cZ) oaa (λk y hy=>by
   have hk:=(v0.1 hy).1
   simp[jK,cE hk,hy,before]) (by simp[jK])
  have hxs:([]:List ae)++r.aO.take ((((r.aO.takeWhile (before x.cZ)).length:Nat):Int)).toNat++[(⟨x.cZ,[]++x.bb⟩:ae)]++r.aO.drop ((((r.aO.takeWhile (before x.cZ)).length:Nat):Int)).toNat=qi x r.aO:=by
   simp[zy205,zy206,qi]
  have a1:fH r.aO 0 (((r.aO.takeWhile (before x.cZ)).length:Nat):Int)=true:=by simp[fH];omega
  have a2:fH r.aO (((r.aO.takeWhile (before x.cZ)).length:Nat):Int) (r.aO.length:Int)=true:=by simp[fH];omega
  have a3:cW 1 (([]:List Int)++x.bb).length=true:=zy53 oaa (by simp;omega)
  have a4:cW 32 (([]:List ae)++r.aO.take ((((r.aO.takeWhile (before x.cZ)).length:Nat):Int)).toNat).length=true:=zy53 oaa (by simp;omega)
  have a5:cW 32 (([]:List ae)++r.aO.take ((((r.aO.takeWhile (before x.cZ)).length:Nat):Int)).toNat++[(⟨x.cZ,[]++x.bb⟩:ae)]).length=true:=zy53 oaa (by simp;omega)
  simp only[hrun,a1,a2,a3,a4,a5,au]
  rw[hxs,zy53 oaa (show(qi x r.aO).length<=1048577 by grind),DQ L2_s (qi x r.aO) r.bC r.aP FU (by grind) oaa oaa (by grind) (by have:=zy43;grind)]
  have hd:=DO (qi x r.aO) r.bC r.aP oaa
  simp only[zy211,au]
  rw[show eqB (((zy208 (qi x r.aO) r.bC r.aP).aP.length:Nat):Int) 24=leB 24 (((zy208 (qi x r.aO) r.bC r.aP).aP.length:Nat):Int) from by rw[abM];simp[eqB,leB];omega]
  cases leB 24 (((zy208 (qi x r.aO) r.bC r.aP).aP.length:Nat):Int)<;>rfl
 rfl
def zy213(d:aC):aM:=zy189 d.aY ⟨5,d.bv,d.ag,d.bi,0,df,0⟩
def vJ(d:aC):aM:={iJ with bk:=1,bv:=d.bv}
def zy214(d:aC):bj:=
 bif ltB 0 d.gE then⟨{d with gE:=d.gE-1},[]⟩ else bif eqB d.bB 1 then⟨{d with gE:=3},[vJ d]⟩ else bif eqB d.bB 2&&!d.dr then⟨{d with gE:=3},[zy213 d]⟩ else⟨d,[]⟩
def dOn(d:aC):bj:=bif eqB d.bB 0 then⟨{d with bB:=1,gE:=3},[vJ d]⟩ else⟨d,[]⟩
def xe(d:aC):bj:=⟨{d with dr:=η,gE:=3},[zy213 d]⟩
def uv(d:aC)(c:Int):bj:=
 bif eqB c d.bv||!inR c 0 5 then⟨d,[]⟩ else bif eqB d.bB 2&&ltB d.bi 999999 then xe {d with bv:=c,bi:=d.bi+1} else⟨{d with bv:=c},[]⟩
def Hr(d:aC)(m:aM):bj:=
 bif eqB (zy200 d.dx.eV d.dx.dJ m.bY) 0 then
  ⟨{d with dx:={d.dx with dJ:=unm d.dx.eV m.bY.eQ m.bY.ie},ag:=m.ag,aY:=(vec d.dx.eV m.bY.eQ (unm d.dx.eV m.bY.eQ m.bY.ie)).eV},
   [⟨3,d.bv,m.ag,0,ez d.dx.eV [3,m.bY.eQ],df,0⟩]⟩
 else⟨d,[]⟩
def zy215(d:aC)(m:aM):bj:=
 bif !zy193 m||(!eqB m.bv d.bv||eqB d.bB 0) then⟨d,[]⟩ else
 bif eqB m.bk 2&&eqB d.bB 1 then Hr d m else
 bif eqB m.bk 4&&(eqB d.bB 1&&(zy85 d.aY&&(eqB m.ag d.ag&&zy190 d.aY m))) then⟨{d with bB:=2,bi:=m.bi,dr:=ζ},[]⟩ else
 bif eqB m.bk 6&&(eqB d.bB 2&&(eqB m.ag d.ag&&(eqB m.bi d.bi&&zy190 d.aY m))) then⟨{d with dr:=ζ},[]⟩ else
 bif eqB m.bk 7&&(eqB d.bB 3&&ltB d.bi 999999) then xe {d with bB:=2,bi:=d.bi+1} else
 bif eqB m.bk 7&&eqB d.bB 2 then xe d else⟨d,[]⟩
def dAck(d:aC)(r:be):aM:=zy189 d.aY ⟨8,d.bv,d.ag,d.bi,r.bC,df,0⟩
def Bz(d:aC)(x:aD):bj:=
 let o:=zy186 d.aY d.ag d.bi x
 bif eqB d.bB 2&&o.2 then⟨{d with bg:=oE d.bg o.1},[dAck d (oE d.bg o.1)]⟩ else⟨d,[]⟩
def uO(d:aC):aC:=bif eqB d.bB 2 then {d with bB:=3} else d
theorem F6{d:aC}(h:zy69 d):qF d=ς ⟨d,[]⟩:=by simp[qF,zy150 h]
theorem zy216(d:aC):tq d=ς (zy213 d):=by simp[tq,z8,zy213]
theorem zy217{d:aC}(h:zy69 d)(hw:d.gE<=3):rD d=ς (zy214 d):=by
 simp only[rD,zy150 h,abJ,qE,lc,zy216,zy214]
 cases hb:ltB 0 d.gE
 .cases eqB d.bB 1<;>cases eqB d.bB 2<;>cases hp:d.dr<;>rfl
 have:=zy59 hb
 rw[zy46 oaa];rfl
theorem on_s{d:aC}(h:zy69 d):vd d=ς (dOn d):=by
 simp only[vd,F6 h,zy150 h,abJ,qE,lc,dOn]
 cases eqB d.bB 0<;>rfl
theorem Se{d:aC}(he:0<=d.bi/\d.bi<=999999):vi d=ς (xe {d with bi:=d.bi+1}):=by
 simp only[vi,zy216,abJ,lc]
 rw[zy46 oaa];rfl
theorem Yp{d:aC}(h:zy69 d)(he:0<=d.bi/\d.bi<=999999)(c:Int):rv d c=ς (uv d c):=by
 simp only[rv,F6 h,zy150 h,abJ,zy83,Se (d:={d with bv:=c}) he,uv]
 grind
theorem tok_s(k r last:Int):∃t,pw k r last=ς t:=by
 simp only[pw,zy83,abJ,zy163 (show [5,r,last].length<=100000 by simp),zy156 _ (show(1:Int)<=1000 by omega) oaa]
 cases inR last 0 999999<;>exact⟨_,rfl⟩
theorem ask_s{d:aC}(h:zy69 d)(hc:zy89 d.dx=ζ)(m:aM):wb d m=ς (Hr d m):=by
 obtain⟨t,ht⟩:=tok_s d.dx.eV m.bY.eQ d.dx.dJ
 simp only[wb,kJ,zy91,hc,NG,zy196,NI,zy163 (show [3,m.bY.eQ].length<=100000 by simp),ht,zy150 h,Hr,au]
 cases h0:eqB (zy200 d.dx.eV d.dx.dJ m.bY) 0
 .grind
 simp[kh]
theorem sig_s{d:aC}(h:zy69 d)(hc:zy89 d.dx=ζ)(he:0<=d.bi/\d.bi<=999999)(m:aM):mF d m=ς (zy215 d m):=by
 simp only[mF,MQ,F6 h,zy150 h,ask_s h hc,zy87,zy192,Se (d:={d with bB:=2}) he,zy216,lc,abJ,zy215]
 cases zy193 m<;>cases eqB m.bv d.bv<;>cases eqB d.bB 0<;>try rfl
 simp only[ab0,au]
 cases eqB m.bk 2<;>cases eqB d.bB 1<;>try rfl
 all_goals cases eqB m.bk 4<;>cases zy85 d.aY<;>cases eqB m.ag d.ag<;>cases zy190 d.aY m<;>cases eqB m.bk 6<;>cases eqB d.bB 2<;>cases eqB m.bi d.bi<;>cases eqB m.bk 7<;>cases eqB d.bB 3<;>cases ltB d.bi 999999<;>rfl
def W7(x:aD):Prop:=okB x.bz.bb
theorem rad_s{d:aC}(h:zy69 d){x:aD}(hx:W7 x):nP d x=ς (Bz d x):=by
 simp only[nP,(zy187 hx _ _ _).2,F6 h,zy150 h,zy212 h,z8,abJ,Bz]
 cases eqB d.bB 2<;>cases(zy186 d.aY d.ag d.bi x).2<;>rfl
theorem zy218(h:zy68 r)(x:ae):zy68 (oE r x):=by
 rw[oE]
 cases hlt:zy209 r x
 .simp only[zy209,Z2,abQ] at hlt
  obtain⟨l1,l2,l3,l4,l5⟩:=hlt
  have hv:=wr l1
  have l2:=zy60 l2
  have hi:okL zy66 (qi x r.aO):=by
   refine⟨by rw[H7];omega,λy hy=>?_⟩
   simp only[qi,ZO,abo] at hy
   rcases hy with(hy|hy)|hy
   .exact h.1.2 y (aca _ hy)
   .subst hy;exact⟨by omega,λ_ _=>trivial⟩
   exact h.1.2 y (ab5 _ hy)
  have hd:∀(xs:List ae) (n:Int) (dl:List bD),okL zy66 xs->(∀p∈dl,zy67 p)->dl.length<=24->zy68 (zy208 xs n dl):=by
   intro xs
   induction xs with
   |nil=>exact λn dl h1 h2 h3=>⟨h1,by show dl.length<=1048576;omega,h2⟩
   |cons y ys ih=>
    intro n dl h1 h2 h3
    rw[zy208];split
    .exact ih _ _ ⟨by have:=h1.1;grind,λz hz=>h1.2 z (by simp[hz])⟩ (λp hp=>by
      rcases ZO.1 hp with hp|hp
      .exact h2 p hp
      simp at hp;subst hp;exact h1.2 y (by simp)) (by simp;omega)
    exact⟨h1,by grind,h2⟩
  have:=hd _ r.bC r.aP hi h.2.2 oaa
  simp only[cond_false]
  cases leB 24 (((zy208 (qi x r.aO) r.bC r.aP).aP.length:Nat):Int)
  .exact this
  exact⟨⟨by simp,by simp⟩,this.2⟩
 exact h
theorem zy219{d:aC}(h:zy69 d):t0 d=ς (uO d):=by
 simp only[t0,zy150 h,abJ,uO];cases eqB d.bB 2<;>rfl
theorem Mn{α:Type}(p:α->Bool)(x:α)(d:List α)(hx:p x=ζ):∀(t:List α) (i:Nat),(∀y∈t,p y=η)->m0 p (i:Int) (t++x::d)=((i+t.length:Nat):Int)
 |[],i,_=>by simp[m0,hx]
 |y::t,i,h=>by
  rw[Z9,m0,h y (by simp),cond_false]
  have:=Mn p x d hx t (i+1) (λz hz=>h z (by simp[hz]))
  grind
theorem zy220{α:Type}(p:α->Bool):∀(t:List α) (i:Int),(∀y∈t,p y=η)->m0 p i t= -1
 |[],i,_=>rfl
 |y::t,i,h=>by rw[m0,h y (by simp),cond_false];exact zy220 p t _ λz hz=>h z (by simp[hz])
def Fb:List aJ->Int->Int->List aJ
 |[],i,n=>[⟨i,n⟩]
 |x::xs,i,n=>if x.aA<i then x::Fb xs i n else if x.aA=i then⟨i,x.dO+n⟩::xs else⟨i,n⟩::x::xs
def N5:List aJ->Int->Int->List aJ
 |[],i,n=>[]
 |x::xs,i,n=>if x.aA=i then(if n<x.dO then⟨i,x.dO-n⟩::xs else xs) else x::N5 xs i n
def ur(h:List aJ):Int:=(h.map aJ.dO).sum
structure zy221(a:am):Prop where
 t:0<=a.fJ/\a.fJ<=100000
 v:0<=a.bm/\a.bm<=a.fJ
 s:0<=a.dv/\a.dv<=a.fJ
 l:a.aH.length<=8
 r:∀x∈a.aH,0<=x.aA/\1<=x.dO/\x.dO<=100000
 o:a.aH.Pairwise λx y=>x.aA<y.aA
 e:a.bm+a.dv+ur a.aH=a.fJ
theorem zy222{α:Type}{key:α->Int}:∀{xs:List α},(∀(k:Nat) (x y:α),xs[k]?=ς x->xs[k+1]?=ς y->key x<key y)->xs.Pairwise λx y=>key x<key y
 |[],_=>.nil
 |[x],_=>by simp
 |x::y::xs,h=>by
  have ih:=zy222 (xs:=y::xs) (key:=key) λk a b h1 h2=>h (k+1) a b (by simp_all) (by simp_all)
  have hxy:=h 0 x y rfl rfl
  refine List.Pairwise.cons (λz hz=>?_) ih
  rcases ZQ.1 hz with e|hz
  .simp_all
  exact Int.lt_trans hxy (ab9 ih hz)
theorem zy223{key:α->Int}{xs:List α}(h:∀(k:Nat) (x:α),xs[k]?=ς x->zy82 key xs k x=ζ):xs.Pairwise λx y=>key x<key y:=by
 refine zy222 λk x y h1 h2=>?_
 have:=h (k+1) y h2
 simp only[zy82,h1,Z4] at this
 simp_all
theorem zy224{key:α->Int}{xs:List α}(h:xs.Pairwise λx y=>key x<key y){x:α}(hx:xs[k]?=ς x):zy82 key xs k x=true:=by
 cases k with
 |zero=>rfl
 |succ k=>
  have hl:=(v0.1 hx).1
  simp only[zy82,ZM (show k<xs.length by omega),Z4]
  rw[leB_f]
  have:=List.pairwise_iff_getElem.1 h k (k+1) oaa hl oaa
  simp_all
theorem zy225:∀(h:List aJ) (s:Int),(∀x∈h,0<=x.dO/\x.dO<=100000)->0<=s->s+100000*h.length<=9000000000000->h.foldl (λs x=>WR (s+x.dO)) s=s+ur h
 |[],s,_,_,_=>by simp[ur]
 |x::h,s,hx,h0,h1=>by
  have hh:=hx x (by simp)
  simp only[Z5] at h1
  rw[ab1,zy46 oaa,zy225 h _ (λy hy=>hx y (by simp[hy])) oaa oaa]
  simp[ur];omega
theorem NA(l:a.aH.length<=8)(r:∀x∈a.aH,0<=x.aA/\1<=x.dO/\x.dO<=100000):zy126 a=ur a.aH:=by
 rw[zy126,zy225 _ _ (λx hx=>by grind) oaa oaa];omega
theorem rZ:∀{h:List aJ},(∀x∈h,0<=x.aA/\1<=x.dO/\x.dO<=100000)->0<=ur h/\ur h<=100000*h.length/\∀x∈h,x.dO<=ur h
 |[],_=>by simp[ur]
 |x::h,r=>by
  have ih:=rZ (h:=h) λy hy=>r y (by simp[hy])
  have hx:=r x (by simp)
  have e:ur (x::h)=x.dO+ur h:=by simp[ur]
  grind
theorem zy226:ke a=ζ↔zy221 a:=by
 constructor
 .intro h
  simp only[ke,hV,bE,zy78] at h
  obtain⟨h1,h2,h3,h4,h5,h6⟩:=h
  have h4:=ww h4
  have r:∀x∈a.aH,0<=x.aA/\1<=x.dO/\x.dO<=100000:=λx hx=>by
   obtain⟨k,hk⟩:=ZY hx
   have:=h5 k x hk
   simp only[zy129,hV,Z4,bE] at this
   simp_all
  have hs:=rZ r
  refine⟨h1,h2,h3,by omega,r,zy223 λk x hk=>?_,?_⟩
  .have:=h5 k x hk
   simp only[zy129,hV] at this
   simp_all
  have h6:=zy61 h6
  rw[NA oaa r,zy46 (n:=a.bm+a.dv) oaa,zy46 oaa] at h6
  exact h6
 rintro⟨h1,h2,h3,h4,r,h5,h6⟩
 have hs:=rZ r
 simp only[ke,hV,bE,zy78]
 refine⟨h1,h2,h3,leB_t.2 oaa,λk x hk=>?_,eqB_t.2 ?_⟩
 .have hx:=r x (ZL hk)
  simp only[zy129,hV,Z4,bE]
  exact⟨ltB_f.2 oaa,by omega,zy224 h5 hk⟩
 rw[NA oaa r,zy46 (n:=a.bm+a.dv) oaa,zy46 oaa]
 exact h6
theorem zy221.ok(h:zy221 a):zy72 a:=⟨by have:=h.l;omega,λ_ _=>trivial⟩
theorem zy227{h:List aJ}(o:h.Pairwise λx y=>x.aA<y.aA)(i:Int):
 (∃t m d,h=t++⟨i,m⟩::d/\(∀x∈t,x.aA<i)/\∀x∈d,i<x.aA)\/(∃t d,h=t++d/\(∀x∈t,x.aA<i)/\∀x∈d,i<x.aA):=by
 induction h with
 |nil=>exact .inr ⟨[],[],rfl,by simp,by simp⟩
 |cons x h ih=>
  have hx:=λy hy=>ab9 o (a':=y) hy
  by_cases h1:x.aA<i
  .grind
  by_cases h2:x.aA=i
  .exact .inl ⟨[],x.dO,h,by rw[<-h2];rfl,by simp,λy hy=>by simp_all⟩
  refine .inr ⟨[],x::h,rfl,by simp,λy hy=>?_⟩
  grind
theorem LH{d:List aJ}{m n:Int}(h:∀x∈t,x.aA<i):Fb (t++⟨i,m⟩::d) i n=t++⟨i,m+n⟩::d:=by
 induction t with
 |nil=>simp[Fb]
 |cons x t ih=>rw[Z9,Fb,if_pos (h x (by simp)),ih λy hy=>h y (by simp[hy])];rfl
theorem LI{d:List aJ}{n:Int}(h:∀x∈t,x.aA<i)(h2:∀x∈d,i<x.aA):Fb (t++d) i n=t++⟨i,n⟩::d:=by
 induction t with
 |nil=>cases d with
  |nil=>rfl
  |cons y d=>have:=h2 y (by simp);rw[aaC,Fb,if_neg oaa,if_neg oaa];rfl
 |cons x t ih=>rw[Z9,Fb,if_pos (h x (by simp)),ih λy hy=>h y (by simp[hy])];rfl
theorem zy228{d:List aJ}{m n:Int}(h:∀x∈t,x.aA<i):N5 (t++⟨i,m⟩::d) i n=t++(if n<m then⟨i,m-n⟩::d else d):=by
 induction t with
 |nil=>simp[N5]
 |cons x t ih=>rw[Z9,N5,if_neg (by grind),ih λy hy=>h y (by simp[hy])];rfl
theorem zy229{d:List aJ}{m:Int}(e:a.aH=t++⟨i,m⟩::d)(h:∀x∈t,x.aA<i):zy132 a i=m:=by
 rw[zy132,e,List.find?_append,show t.find? (λx=>eqB x.aA i)=ξ from by rw[List.find?_eq_none];intro x hx;have:=h x hx;simp[eqB];omega]
 simp[eqB]
theorem tj(h:∀x∈a.aH,x.aA≠i):zy132 a i=0:=by
 rw[zy132,show a.aH.find? (λx=>eqB x.aA i)=ξ from by simp_all]
theorem zy230{d:List aJ}(h:∀x∈t,x.aA<i)(h2:∀x∈d,i<=x.aA):((t++d).takeWhile λx=>ltB x.aA i)=t:=by
 rw[List.takeWhile_append_of_pos (λx hx=>ltB_t.2 (h x hx))]
 cases d with
 |nil=>simp
 |cons y d=>simp_all
theorem L8{L:Int->Option (ct Int Int)}(ok:zy221 a)(hL:∀v1,L v1=bif ltB v1 (a.aH.length:Int) then(abG (ix a.aH v1) λx2=>bif eqB x2.aA i then(dn (ς v1)) else(ς (.next (WR (v1+1))))) else(dn (ς (-1)))):
 iter L FU 0=ς (m0 (λx=>eqB x.aA i) 0 a.aH):=by
 have:=ok.l
 exact s7 (L:=L) a.aH (λx=>eqB x.aA i) oaa (λk x hx hk=>by
  simp only[hL,cE hk,bh,hx,WRs (k:=k),au]
  rfl) (by simp[hL,dn])
theorem zy231(ok:zy221 a){n:Int}(h0:0<=n/\n<=100000):AZ a.aH i n=ς (Fb a.aH i n):=by
 have hl:=ok.l
 have hrun:=zy207 (L:=ud a.aH i) a.aH (λx=>ltB x.aA i) oaa (λk x hx=>by
  have hk:=(v0.1 hx).1
  simp[ud,cE hk,hx]) (by simp[ud])
 rw[AZ,hrun]
 rcases zy227 ok.o i with⟨t,m,d,e,h1,h2⟩|⟨t,d,e,h1,h2⟩
 .have hm:m<=100000/\1<=m:=by have:=ok.r ⟨i,m⟩ (by rw[e];simp);simp only at this;omega
  have htl:t.length+1<=8:=by have:=congrArg ab2 e;simp at this;omega
  rw[e,zy230 h1 (λx hx=>by grind),LH h1]
  have hx:(t++(⟨i,m⟩:aJ)::d)[t.length]?=ς ⟨i,m⟩:=by simp
  have a1:cW 16 (t++(⟨i,m⟩:aJ)::d).length=true:=zy53 oaa (by grind)
  simp only[cE (show t.length<(t++(⟨i,m⟩:aJ)::d).length by simp),bh,hx,aaC,a1,bF,abL,zy46 (n:=m+n) oaa,au]
  simp
 have htl:t.length<=8/\d.length<=8:=by have:=congrArg ab2 e;simp at this;omega
 rw[e,zy230 h1 (λx hx=>by grind),LI h1 h2]
 have hc:(bif ltB (t.length:Int) (((t++d).length:Nat):Int) then(abG (ix (t++d) (t.length:Int)) λx8=>ς (eqB x8.aA i)) else ς η)=ς false:=by
  cases d with
  |nil=>simp
  |cons y d=>
   have:=h2 y (by simp)
   rw[cE (show t.length<(t++y::d).length by simp),bh,show(t++y::d)[t.length]?=ς y by simp,abJ,eqB_f.2 (show y.aA≠i by omega)];rfl
 have a1:fH (t++d) 0 (t.length:Int)=true:=by simp[fH];omega
 have a2:fH (t++d) (t.length:Int) (((t++d).length:Nat):Int)=true:=by simp[fH];omega
 have a3:cW 16 t.length=true:=zy53 oaa oaa
 have a4:cW 16 (t++[(⟨i,n⟩:aJ)]).length=true:=zy53 oaa (by simp;omega)
 have a5:cW 16 (t++[(⟨i,n⟩:aJ)]++d).length=true:=zy53 oaa (by simp;omega)
 simp_all
theorem zy232{d:List aJ}{m:Int}(h1:∀x∈t,x.aA<i):m0 (λx=>eqB x.aA i) 0 (t++(⟨i,m⟩:aJ)::d)=(t.length:Int):=by
 have:=Mn (λx:aJ=>eqB x.aA i) ⟨i,m⟩ d (by simp) t 0 (λy hy=>eqB_f.2 (by grind))
 simp_all
theorem X5{d:List aJ}(h1:∀x∈t,x.aA<i)(h2:∀x∈d,i<x.aA):m0 (λx=>eqB x.aA i) 0 (t++d)= -1:=
 zy220 _ _ _ λy hy=>eqB_f.2 (by grind)
theorem zy233(ok:zy221 a){d:List aJ}{m n:Int}(e:a.aH=t++⟨i,m⟩::d)(h1:∀x∈t,x.aA<i)(hn:0<=n/\n<=m):A0 a.aH (t.length:Int) n=ς (N5 a.aH i n):=by
 have hl:=ok.l
 have hm:m<=100000/\1<=m:=by have:=ok.r ⟨i,m⟩ (by rw[e];simp);simp only at this;omega
 have htl:t.length+1+d.length<=8:=by have:=congrArg ab2 e;simp at this;omega
 rw[e,zy228 h1]
 have hx:(t++(⟨i,m⟩:aJ)::d)[t.length]?=ς ⟨i,m⟩:=by simp
 have a1:cW 16 (t++(⟨i,m⟩:aJ)::d).length=true:=zy53 oaa (by grind)
 simp only[A0,aaC,a1,bh,hx,abL,au]
 by_cases hb:n<m
 .rw[ltB_t.2 hb,if_pos hb]
  simp only[cond_true,zy46 (n:=m-n) oaa]
  simp
 rw[ltB_f.2 oaa,if_neg hb]
 have a2:fH (t++(⟨i,m⟩:aJ)::d) 0 (t.length:Int)=true:=by simp[fH];omega
 have a3:fH (t++(⟨i,m⟩:aJ)::d) ((t.length+1:Nat):Int) (((t++(⟨i,m⟩:aJ)::d).length:Nat):Int)=true:=by simp[fH];omega
 have e2:(t++(⟨i,m⟩:aJ)::d).drop (t.length+1)=d:=by rw[<-List.drop_drop,List.drop_left];rfl
 have a4:cW 16 (t++d).length=true:=zy53 oaa (by simp;omega)
 simp only[a2,WRs (k:=t.length),a3,abL,e2,List.take_left,a4,au]
def zy234(a:am)(i:Int):Bool:=leB 8 (a.aH.length:Int)&&!a.aH.any λx=>eqB x.aA i
def ol(x y:Int):Int:=if y<x then y else x
def zy235(a:am)(i n:Int):am×Int:=
 bif ltB i 0||(!inR n 1 100000||(eqB a.bm 0||zy234 a i)) then(a,0) else({a with bm:=a.bm-ol n a.bm,aH:=Fb a.aH i (ol n a.bm)},ol n a.bm)
def zy236(a:am)(i n:Int):am:=bif ltB 0 n then {a with dv:=a.dv+n,aH:=N5 a.aH i n} else a
theorem Il(x y:Int):Cy x y=ς (ol x y):=by
 rw[Cy,ol];by_cases h:y<x
 .rw[ltB_t.2 h,if_pos h];rfl
 rw[ltB_f.2 oaa,if_neg h];rfl
theorem min_i(x y:Int):XG x y=ς (ol x y):=Il x y
def zy237(x y:Int):Int:=if x<y then y else x
theorem Ik(x y:Int):Cw x y=ς (zy237 x y):=by
 rw[Cw,zy237];by_cases h:x<y
 .rw[ltB_t.2 h,if_pos h];rfl
 rw[ltB_f.2 oaa,if_neg h];rfl
theorem max_i(x y:Int):XF x y=ς (zy237 x y):=Ik x y
theorem any_A{d:List aJ}{m:Int}:((t++(⟨i,m⟩:aJ)::d).any λx=>eqB x.aA i)=true:=by simp
theorem zy238{d:List aJ}(h1:∀x∈t,x.aA<i)(h2:∀x∈d,i<x.aA):((t++d).any λx=>eqB x.aA i)=false:=by
 rw[List.any_eq_false];intro y hy
 rcases ZO.1 hy with hy|hy
 .have:=h1 y hy;simp[eqB];omega
 have:=h2 y hy;simp[eqB];omega
theorem zy239(ok:zy221 a)(i n:Int):yL a i n=ς (zy235 a i n):=by
 have hv:=zy226.2 ok
 have hd:=ok.v
 have ht:=ok.t
 have hfind:oy a i=ς (m0 (λx=>eqB x.aA i) 0 a.aH):=L8 ok λv=>rfl
 have hf:(bif leB 8 (a.aH.length:Int) then(abG (oy a i) λr5=>ς (ltB r5 0)) else ς η)=ς (zy234 a i):=by
  rw[hfind,zy234]
  cases leB 8 (a.aH.length:Int)
  .rfl
  rcases zy227 ok.o i with⟨t,m,d,e,h1,h2⟩|⟨t,d,e,h1,h2⟩
  .rw[e,zy232 h1,any_A];simp[ltB]
  rw[e,X5 h1 h2,zy238 h1 h2];simp[ltB]
 simp only[yL,zy151 ok.ok,zy131 ok.ok,hv,hf,zy83,Il,zy235,au]
 cases h1:ltB i 0<;>cases h2:inR n 1 100000<;>cases h3:eqB a.bm 0<;>cases h4:zy234 a i<;>try rfl
 rw[bE] at h2
 have h3:=zy62 h3
 have hmin:1<=ol n a.bm/\ol n a.bm<=100000/\ol n a.bm<=a.bm:=by unfold ol;split<;>omega
 simp only[zy231 ok (show 0<=ol n a.bm/\ol n a.bm<=100000 by omega),zy46 (n:=a.bm-ol n a.bm) oaa,ab0,au]
theorem Et(ok:zy221 a)(i:Int):0<=zy132 a i/\zy132 a i<=100000:=by
 rcases zy227 ok.o i with⟨t,m,d,e,h1,h2⟩|⟨t,d,e,h1,h2⟩
 .rw[zy229 e h1];have:=ok.r ⟨i,m⟩ (by rw[e];simp);grind
 rw[tj (λx hx=>by grind)];omega
theorem U9(ok:zy221 a){n:Int}(hn:0<=n/\n<=zy132 a i):Ga a i n=ς (zy236 a i n,ζ):=by
 have hv:=zy226.2 ok
 have ht:=ok.t
 have hs:=ok.s
 have hr:=Et ok i
 have hfind:oy a i=ς (m0 (λx=>eqB x.aA i) 0 a.aH):=L8 ok λv=>rfl
 have hin:inR n 0 (zy132 a i)=true:=bE.2 hn
 simp only[Ga,zy151 ok.ok,zy131 ok.ok,hv,hfind,IQ ok.ok,zy83,hin,zy236,au]
 cases h0:ltB 0 n
 .rfl
 have h0:=zy59 h0
 rcases zy227 ok.o i with⟨t,m,d,e,h1,h2⟩|⟨t,d,e,h1,h2⟩
 .rw[zy229 e h1] at hn hr
  have hc:=zy233 ok e h1 hn
  rw[show m0 (λx=>eqB x.aA i) 0 a.aH=(t.length:Int) by rw[e];exact zy232 h1]
  simp only[hc,zy46 (n:=a.dv+n) oaa,au]
 rw[tj (λx hx=>by grind)] at hn
 omega
structure WOK(w:bu):Prop where
 n:1<=w.bC/\w.bC<=100000
 l:w.aG.length<=8
 f:1<=w.bC-w.aG.length
 u:∀(k:Nat) (x:ae),w.aG[k]?=ς x->x.cZ=w.bC-w.aG.length+k/\x.bb.length<=60
theorem WOK.ok(h:WOK w):zy70 w:=⟨by have:=h.l;omega,λx hx=>by
 obtain⟨k,hk⟩:=ZY hx
 exact⟨by have:=(h.u k x hk).2;omega,λ_ _=>trivial⟩⟩
theorem zy240{n:Nat}:zy102 n=ζ↔n<=60:=by simp[zy102,ltB];omega
theorem GR:zy114 w=ζ↔WOK w:=by
 constructor
 .intro h
  simp only[zy114,hV,bE,zy78,unB,zy240] at h
  obtain⟨h1,h2,h3,h4⟩:=h
  have h2:=ww h2
  have h3:=ww h3
  rw[zy46 oaa] at h3
  refine⟨h1,by omega,h3,λk x hx=>?_⟩
  have hk:=(v0.1 hx).1
  have:=h4 k x hx
  have e:=zy61 this.1
  rw[zy46 (n:=w.bC-(w.aG.length:Int)) oaa,zy46 oaa] at e
  omega
 rintro⟨h1,h2,h3,h4⟩
 simp only[zy114,hV,bE,zy78,unB,zy240]
 refine⟨h1,leB_t.2 oaa,leB_t.2 (by rw[zy46 oaa];omega),λk x hx=>?_⟩
 have hk:=(v0.1 hx).1
 have:=h4 k x hx
 exact⟨eqB_t.2 (by rw[zy46 (n:=w.bC-(w.aG.length:Int)) oaa,zy46 oaa];exact this.1),this.2⟩
def zy241(xs:List ae):Int:=(xs.map λx=>(x.bb.length:Int)).sum
theorem zy242:∀{xs:List ae},(∀x∈xs,x.bb.length<=60)->0<=zy241 xs/\zy241 xs<=60*xs.length
 |[],_=>by simp[zy241]
 |x::xs,h=>by
  have ih:=zy242 (xs:=xs) λy hy=>h y (by simp[hy])
  have:=h x (by simp)
  have e:zy241 (x::xs)=x.bb.length+zy241 xs:=by simp[zy241]
  grind
theorem zy243{xs:List ae}(h:∀x∈xs,x.bb.length<=60)(hl:xs.length<=1000):u5 xs=zy241 xs:=by
 have key:∀(xs:List ae) (s:Int),(∀x∈xs,x.bb.length<=60)->0<=s->s+60*xs.length<=9000000000->xs.foldl (λa x=>WR (a+(x.bb.length:Int))) s=s+zy241 xs:=by
  intro xs
  induction xs with
  |nil=>intro s _ _ _;simp[zy241]
  |cons x xs ih=>
   intro s h h0 h1
   have hx:=h x (by simp)
   simp only[Z5] at h1
   rw[ab1,zy46 oaa,ih _ (λy hy=>h y (by simp[hy])) oaa oaa]
   simp[zy241];omega
 have:=key xs 0 h oaa oaa
 rw[u5,this];omega
theorem WOK.d(h:WOK w):∀x∈w.aG,x.bb.length<=60:=λx hx=>by
 obtain⟨k,hk⟩:=ZY hx;exact(h.u k x hk).2
structure QOK(q:cU):Prop where
 i:0<=q.aA
 u:0<=q.dW
 g:q.dW<=q.cT
 m:q.cT<=100000
theorem El:zy99 q=ζ↔QOK q:=by
 simp only[zy99,hV,leB_t]
 exact⟨λ⟨a,b,c,d⟩=>⟨a,b,c,d⟩,λ⟨a,b,c,d⟩=>⟨a,b,c,d⟩⟩
theorem zy244(h:QOK q):IO q=q.cT-q.dW:=by
 rw[IO,El.2 h];obtain⟨a,b,c,d⟩:=h
 simp only[cond_true];rw[zy46 oaa]
structure SP(s:ah):Prop where
 ok:zy71 s
 rcd:zy92 s.bH=ζ
 plan:zy111 s.ip=ζ
 page:zy94 s.jw=ζ
 win:WOK s.ax
 q:QOK s.bV
 st:0<=s.bB/\s.bB<=1
 k1:s.bB=1->zy85 s.aY=ζ
 k2:0<s.bG->zy85 s.aO.eV=ζ
 ps:0<=s.bG/\s.bG<=999999
 gn:0<=s.ag/\s.ag<=999999
 ep:0<=s.bi/\s.bi<=999999
 rk:0<=s.aY/\s.aY<=2147483646
 ce:0<=s.bv/\s.bv<=5
 qu:0<=s.d9/\s.d9<=5
 zy48:0<=s.d6/\s.d6<=3
 sl:s.av.length<=24
 sd:∀p∈s.av,p.bb.length<=60
 nx:s.ax.bC<=s.av.length+1
 un:∀x∈s.ax.aG,zy116 s x=ζ
 pd:zy241 s.ax.aG<=s.bV.cT-s.bV.dW
theorem zy245(ok:zy71 s):iK s=ζ↔SP s:=by
 constructor
 .intro h
  simp only[iK,hV,bE,GR,El,ZR,zy103,zy240,zy118,zy119] at h
  obtain⟨h1,h2,h3,h4,h5,h6,⟨h7,h8⟩,h9,h10,h11,h12,h13,h14,h15,h16,h17,h18,h19,h20⟩:=h
  have h16:=ww h16
  have h18:=ww h18
  have h20:=ww h20
  rw[zy46 oaa] at h18
  rw[zy244 h5,zy243 h4.d (by have:=h4.l;omega)] at h20
  refine⟨ok,h1,h2,h3,h4,h5,h6,λe=>?_,λe=>?_,h9,h10,h11,h12,h13,h14,h15,by omega,h17,h18,h19,h20⟩
  .simp_all
  rw[ltB_t.2 e] at h8;simp_all
 rintro⟨_,h1,h2,h3,h4,h5,h6,h7,h8,h9,h10,h11,h12,h13,h14,h15,h16,h17,h18,h19,h20⟩
 simp only[iK,hV,bE,GR,El,ZR,zy103,zy240,zy118,zy119]
 refine⟨h1,h2,h3,h4,h5,h6,⟨?_,?_⟩,h9,h10,h11,h12,h13,h14,h15,leB_t.2 oaa,h17,leB_t.2 (by rw[zy46 oaa];omega),h19,leB_t.2 (by rw[zy244 h5,zy243 h4.d (by have:=h4.l;omega)];omega)⟩
 .cases e:eqB s.bB 1
  .rfl
  simp_all
 cases e:ltB 0 s.bG
 .rfl
 simp_all
def zy246(s:ah)(b:List Int):ah×Bool:=bif leB 24 (s.av.length:Int)||ltB 60 (b.length:Int) then(s,η) else({s with av:=s.av++[⟨b⟩]},ζ)
theorem Xq(h:zy71 s){b:List Int}:kY s b=ς (zy246 s b):=by
 simp only[kY,oQ h,abJ,zy246,CN,aaC]
 cases h1:leB 24 (s.av.length:Int)<;>cases h2:ltB 60 (b.length:Int)<;>try rfl
 have h1:=yp h1
 have h2:=zy60 h2
 simp only[ab0,zy53 (by_:=1) (n:=b.length) oaa oaa,zy53 (by_:=24) (n:=(s.av++[(⟨b⟩:bD)]).length) oaa (by simp;omega),au]
def IY(s:ah)(m:aM):bU:=
 let q:=s.bH.cZ+1
 let v:=vec s.bH.eV (Hi s.bH.ID q) q
 bif eqB s.bH.cZ 999999 then⟨s,[]⟩ else⟨{s with bH:={s.bH with cZ:=q},aO:=v,bG:=q},[⟨2,m.bv,q,0,0,v,0⟩]⟩
def wc(s:ah)(k:Int):aM:=zy189 s.aY ⟨k,s.bv,s.ag,s.bi,0,df,0⟩
def zy247(s:ah)(c:Int):ah:=⟨s.bH,s.ip,1,df,0,s.bG,s.aO.eV,s.bi+1,c,0,f8,s.av,s.ax,s.d6,s.bV⟩
def zy248(s:ah)(m:aM):bU:=
 bif leB s.bG 0||(!eqB m.ag s.bG||(!eqB m.bX s.aO.wy||leB 999999 s.bi)) then⟨s,[]⟩ else⟨zy247 s m.bv,[wc (zy247 s m.bv) 4]⟩
def s9(s:ah)(m:aM):Bool:=eqB s.bB 1&&(eqB m.ag s.ag&&zy190 s.aY m)
def xv(s:ah)(m:aM):ah:={s with bi:=m.bi,bv:=m.bv,d9:=0,jw:=f8,d6:=0}
def zy249(s:ah)(m:aM):bU:=
 bif !s9 s m||(ltB m.bi s.bi||(eqB m.bi s.bi&&!eqB m.bv s.bv)) then⟨s,[]⟩ else⟨xv s m,[wc (xv s m) 6]⟩
def kN(w:bu)(k:Int):bu:=bif ltB w.bC k then w else⟨w.bC,w.aG.filter λx=>leB k x.cZ⟩
def vI(q:cU)(n:Int):cU:=bif inR n 0 (q.cT-q.dW) then {q with dW:=q.dW+n} else q
def mr(s:ah)(k:Int):ah:={s with d9:=0,ax:=kN s.ax k,bV:=vI s.bV (zy241 s.ax.aG-zy241 (kN s.ax k).aG)}
def IX(s:ah)(m:aM):bU:=bif !s9 s m||ltB s.ax.bC m.bX then⟨s,[]⟩ else⟨mr s m.bX,[]⟩
def sUp(s:ah)(m:aM):bU:=
 bif !zy193 m then⟨s,[]⟩ else bif eqB m.bk 1 then IY s m else bif eqB m.bk 3 then zy248 s m else bif eqB m.bk 5 then zy249 s m else bif eqB m.bk 8 then IX s m else⟨s,[]⟩
def zy250(s:ah):ah:={s with aO:=df,bG:=0,d9:=0,jw:=f8,d6:=0}
theorem zy251(h:zy71 s):mN s=ς ⟨s,[]⟩:=by simp[mN,oQ h]
theorem zy252(h:zy71 s):vX s=ς (zy250 s):=by simp[vX,oQ h,zy250]
theorem zy253{r:aF}(h:zy92 r=ζ):0<=r.cZ/\r.cZ<=999999:=by
 simp only[zy92,hV,bE] at h;omega
theorem att_s(h:SP s)(m:aM):mD s m=ς (IY s m):=by
 have hr:=zy253 h.rcd
 simp only[mD,zy202,oL,zy93,h.rcd,NI,zy251 h.ok,oQ h.ok,zy46 (n:=s.bH.cZ+1) oaa,IY,au]
 cases he:eqB s.bH.cZ 999999
 .simp only[bF,eqB_f.2 (show s.bH.cZ+1≠s.bH.cZ by omega),abU,abp,au]
 simp_all
theorem zy254(h:SP s)(m:aM):kw s m=ς (zy248 s m):=by
 have he:=h.ep
 simp only[kw,ny,zy251 h.ok,oQ h.ok,qG,z8,abJ,zy46 (n:=s.bi+1) oaa,zy248]
 cases leB s.bG 0<;>cases eqB m.ag s.bG<;>cases eqB m.bX s.aO.wy<;>cases leB 999999 s.bi<;>rfl
theorem zy255(s:ah)(m:aM):tu s m=ς (s9 s m):=by
 simp only[tu,zy192,abJ,s9];grind
theorem VZ(h:SP s)(m:aM):iV s m=ς (zy249 s m):=by
 simp only[iV,zy255,zy251 h.ok,oQ h.ok,qG,z8,abJ,zy249]
 cases s9 s m<;>cases ltB m.bi s.bi<;>cases eqB m.bi s.bi<;>cases eqB m.bv s.bv<;>rfl
theorem zy256(h:WOK w)(k:Int):jI w k=ς (kN w k):=by
 have hl:=h.l
 simp only[jI,zy147 h.ok,abJ,kN]
 cases ltB w.bC k
 .have:=zy45 (step:=gT w k) w.aG (λi s=>((i:Int),s)) (zy51 32 (λx=>leB k x.cZ) (λx=>x)) ς oaa
   (λi x s hx hi=>by
    have hd:=h.d x (ZL hx)
    simp only[gT,cE hi,bh,hx,aaC,zy53 (by_:=1) (n:=x.bb.length) oaa oaa,WRs (k:=i),zy51,au]
    cases leB k x.cZ<;>simp
    cases cW 32 (s.length+1)<;>rfl) (λs=>by simp[gT]) ([]:List ae)
  rw[zy52 oaa _ _ _ _ (by simp;omega)] at this
  simp_all
 rfl
theorem zy257(h:QOK q)(n:Int):∃b,nO q n=ς (vI q n,b):=by
 obtain⟨a,b,c,d⟩:=h
 simp only[nO,zy101,El.2 ⟨a,b,c,d⟩,zy83,zy46 (n:=q.cT-q.dW) oaa,vI,au]
 cases hn:inR n 0 (q.cT-q.dW)
 .simp_all
 rw[bE] at hn
 simp only[zy46 (n:=q.dW+n) oaa,au];simp_all
theorem zy258(p:ae->Bool):∀xs:List ae,zy241 xs=zy241 (xs.filter p)+zy241 (xs.filter λx=>!p x)
 |[]=>rfl
 |x::xs=>by
  have ih:=zy258 p xs
  have e:∀ys,zy241 (x::ys)=x.bb.length+zy241 ys:=λys=>by simp[zy241]
  grind
theorem zy259(h:WOK w){k:Int}(hk:ltB w.bC k=η):zy241 w.aG-zy241 (kN w k).aG=zy241 (w.aG.filter λx=>ltB x.cZ k):=by
 rw[kN,hk,zy258 (λx=>leB k x.cZ) w.aG]
 simp only[cond_false]
 have:(λx:ae=>ltB x.cZ k)=λx=>!leB k x.cZ:=by funext x;rw[uy]
 grind
theorem ack_s(h:SP s)(m:aM):lp s m=ς (IX s m):=by
 obtain⟨b,hb⟩:=zy257 h.q (zy241 s.ax.aG-zy241 (kN s.ax m.bX).aG)
 have hu:=h.win.d
 have hl:=h.win.l
 have hu2:∀x∈(kN s.ax m.bX).aG,x.bb.length<=60:=λx hx=>by
  rw[kN] at hx;grind
 have hl2:(kN s.ax m.bX).aG.length<=8:=by
  rw[kN];cases ltB s.ax.bC m.bX
  .grind
  exact hl
 have s1:=zy242 hu
 have s2:=zy242 hu2
 have zy19:WR (u5 s.ax.aG-u5 (kN s.ax m.bX).aG)=zy241 s.ax.aG-zy241 (kN s.ax m.bX).aG:=by
  rw[zy243 hu oaa,zy243 hu2 oaa,zy46 oaa]
 simp only[lp,zy255,zy251 h.ok,oQ h.ok,zy256 h.win,zy109 (show s.ax.aG.length<=1048576 by omega),zy109 (show(kN s.ax m.bX).aG.length<=1048576 by omega),abJ,zy19,hb,IX]
 cases s9 s m<;>cases ltB s.ax.bC m.bX<;>rfl
theorem up_s(h:SP s)(m:aM):mG s m=ς (sUp s m):=by
 simp only[mG,MQ,zy251 h.ok,att_s h,zy254 h,VZ h,ack_s h,abJ,sUp]
 grind
theorem zy260(t d:List aJ):ur (t++d)=ur t+ur d:=by simp[ur,List.sum_append]
@[simp] theorem sumR_cons (x:aJ) (d:List aJ):ur (x::d)=x.dO+ur d:=by simp[ur]
theorem SE{d:List aJ}{m m':Int}(h:(t++⟨i,m⟩::d).Pairwise λx y=>x.aA<y.aA):(t++⟨i,m'⟩::d).Pairwise λx y=>x.aA<y.aA:=by
 rw[abT,abO] at h ⊢
 simp_all
theorem zy261{d:List aJ}{m:Int}(h:(t++d).Pairwise λx y=>x.aA<y.aA)(h1:∀x∈t,x.aA<i)(h2:∀x∈d,i<x.aA):(t++(⟨i,m⟩:aJ)::d).Pairwise λx y=>x.aA<y.aA:=by
 rw[abT] at h ⊢
 simp_all
theorem zy262{d:List aJ}(h1:∀x∈t,x.aA<i)(h2:∀x∈d,i<x.aA):∀x∈t++d,x.aA≠i:=λx hx=>by
 grind
theorem zy263(ok:zy221 a)(i n:Int):
 zy221 (zy235 a i n).1/\zy132 (zy235 a i n).1 i=zy132 a i+(zy235 a i n).2/\0<=(zy235 a i n).2/\(zy235 a i n).2<=a.bm/\(zy235 a i n).1.bm=a.bm-(zy235 a i n).2/\(zy235 a i n).1.dv=a.dv/\(zy235 a i n).1.fJ=a.fJ:=by
 have hv:=ok.v
 have ht:=ok.t
 have hs:=ok.s
 have hl:=ok.l
 have he:=ok.e
 rw[zy235]
 cases h1:ltB i 0<;>cases h2:inR n 1 100000<;>cases h3:eqB a.bm 0<;>cases h4:zy234 a i<;>simp only[Bool.or_false,Bool.or_true,Bool.true_or,aam,au]<;>try exact⟨ok,by omega,by omega,by omega,by omega,by simp,by simp⟩
 rw[bE] at h2
 have h1:=zy60 h1
 have h3:=zy62 h3
 have hmin:1<=ol n a.bm/\ol n a.bm<=100000/\ol n a.bm<=a.bm:=by unfold ol;split<;>omega
 generalize ol n a.bm=g at*
 rcases zy227 ok.o i with⟨t,m,d,e,k1,k2⟩|⟨t,d,e,k1,k2⟩
 .have hm:=ok.r ⟨i,m⟩ (by rw[e];simp)
  have hsum:=(rZ ok.r).2.2 ⟨i,m⟩ (by rw[e];simp)
  simp only at hm hsum
  rw[e,zy260,sumR_cons] at he
  simp only at he
  have hs1:=rZ (h:=t) λx hx=>ok.r x (by simp_all)
  have hs2:=rZ (h:=d) λx hx=>ok.r x (by simp_all)
  have ho:=ok.o
  rw[e] at ho
  rw[zy229 e k1]
  simp only[e,LH k1]
  have hll:(t++(⟨i,m+g⟩:aJ)::d).length=a.aH.length:=by rw[e];simp
  refine⟨⟨ht,by grind,hs,by simp_all,λx hx=>?_,SE ho,by simp only[zy260,sumR_cons];omega⟩,zy229 (t:=t) (d:=d) rfl k1,by omega,by omega,θ,θ,θ⟩
  rcases ZO.1 hx with hx|hx
  .exact ok.r x (by simp_all)
  rcases ZQ.1 hx with e'|hx
  .grind
  exact ok.r x (by simp_all)
 rw[tj (a:=a) (λx hx=>by grind)]
 have hb:a.aH.length<8:=by
  rw[zy234,e,zy238 k1 k2] at h4
  simp only[Bool.not_false,abp] at h4
  have:=yp h4
  rw[e];omega
 rw[e,zy260] at he
 have ho:=ok.o
 rw[e] at ho
 simp only[e,LI k1 k2]
 refine⟨⟨ht,by grind,hs,by grind,λx hx=>?_,zy261 ho k1 k2,by simp only[zy260,sumR_cons];omega⟩,Eq.trans (zy229 (t:=t) (d:=d) rfl k1) oaa,by omega,by omega,θ,θ,θ⟩
 rcases ZO.1 hx with hx|hx
 .exact ok.r x (by simp_all)
 rcases ZQ.1 hx with e'|hx
 .simp_all
 exact ok.r x (by simp_all)
theorem zy264(ok:zy221 a){n:Int}(hn:0<=n/\n<=zy132 a i):
 zy221 (zy236 a i n)/\zy132 (zy236 a i n) i=zy132 a i-n/\(zy236 a i n).dv=a.dv+n/\(zy236 a i n).bm=a.bm/\(zy236 a i n).fJ=a.fJ:=by
 have hv:=ok.v
 have ht:=ok.t
 have hs:=ok.s
 have hl:=ok.l
 have he:=ok.e
 rw[zy236]
 cases h0:ltB 0 n
 .have h0:=zy60 h0
  grind
 have h0:=zy59 h0
 simp only[cond_true]
 rcases zy227 ok.o i with⟨t,m,d,e,k1,k2⟩|⟨t,d,e,k1,k2⟩
 .rw[zy229 e k1] at hn ⊢
  have hm:=ok.r ⟨i,m⟩ (by rw[e];simp)
  simp only at hm
  rw[e,zy260,sumR_cons] at he
  have hs1:=rZ (h:=t) λx hx=>ok.r x (by simp_all)
  have hs2:=rZ (h:=d) λx hx=>ok.r x (by simp_all)
  have ho:=ok.o
  rw[e] at ho
  have hll:t.length+1+d.length=a.aH.length:=by rw[e];simp;omega
  simp only at he
  simp only[e,zy228 k1]
  by_cases hb:n<m
  .simp only[if_pos hb]
   refine⟨⟨ht,by omega,by grind,by simp;omega,λx hx=>?_,SE ho,by simp only[zy260,sumR_cons];omega⟩,zy229 (t:=t) (d:=d) rfl k1,θ,θ,θ⟩
   rcases ZO.1 hx with hx|hx
   .exact ok.r x (by simp_all)
   rcases ZQ.1 hx with e'|hx
   .grind
   exact ok.r x (by simp_all)
  simp only[if_neg hb]
  have ho2:(t++d).Pairwise λx y=>x.aA<y.aA:=ho.sublist (by simp)
  refine⟨⟨ht,by omega,by grind,by simp;omega,λx hx=>ok.r x (by grind),ho2,by simp only[zy260];omega⟩,?_,θ,θ,θ⟩
  rw[tj (a:={a with dv:=a.dv+n,aH:=t++d}) (zy262 k1 k2)];omega
 rw[tj (λx hx=>by grind)] at hn
 omega
structure MOK(a:am)(q:cU):Prop where
 acc:zy221 a
 quo:QOK q
 res:zy132 a q.aA=q.cT
theorem zy265:zy134 a q=ζ↔MOK a q:=by
 simp only[zy134,hV,zy226,El,eqB_t]
 exact⟨λ⟨x,y,z⟩=>⟨x,y,z⟩,λ⟨x,y,z⟩=>⟨x,y,z⟩⟩
def zy266(a:am)(q:cU)(n:Int):am×cU:=
 let r:=zy235 a q.aA n
 (r.1,{q with cT:=q.cT+r.2})
theorem zy267(h:MOK a q)(n:Int):MOK (zy266 a q n).1 (zy266 a q n).2/\q.cT<=(zy266 a q n).2.cT:=by
 obtain⟨h1,h2,h3,h4,h5,h6,h7⟩:=zy263 h.acc q.aA n
 have:=Et h1 q.aA
 have hr:=h.res
 obtain⟨a1,a2,a3,a4⟩:=h.quo
 exact⟨⟨h1,⟨a1,a2,by simp only[zy266];omega,by simp only[zy266];omega⟩,by simp only[zy266];omega⟩,by simp only[zy266];omega⟩
theorem O0(h:MOK a q)(n:Int):nQ a q n=ς (zy266 a q n):=by
 have h0:=(zy267 h n).1.quo
 have hq:=h.quo
 simp only[zy266] at h0
 have hg:=h0.m
 have hg2:=h0.g
 simp only at hg hg2
 simp only[nQ,zy239 h.acc,zy135 h.acc.ok,zy265.2 h,zy101,zy46 (n:=q.cT+(zy235 a q.aA n).2) (by have:=hq.u;omega),El.2 h0,zy266,au]
def lD(a:am)(q:cU):am×cU:=(zy236 a q.aA q.dW,⟨q.aA,q.cT-q.dW,0⟩)
theorem OZ(h:MOK a q):MOK (lD a q).1 (lD a q).2/\(lD a q).1.dv=a.dv+q.dW/\(lD a q).1.fJ=a.fJ/\(lD a q).1.bm=a.bm:=by
 obtain⟨a1,a2,a3,a4⟩:=h.quo
 have hr:=h.res
 obtain⟨h1,h2,h3,h4,h5⟩:=zy264 h.acc (i:=q.aA) (n:=q.dW) oaa
 exact⟨⟨h1,⟨a1,by simp[lD],by simp only[lD];omega,by simp only[lD];omega⟩,by simp only[lD];omega⟩,h3,h5,h4⟩
theorem SY(h:MOK a q):pu a q=ς (lD a q):=by
 obtain⟨a1,a2,a3,a4⟩:=h.quo
 have hr:=h.res
 simp only[pu,zy135 h.acc.ok,zy265.2 h,U9 h.acc (i:=q.aA) (n:=q.dW) oaa,zy46 (n:=q.cT-q.dW) oaa,lD,au]
def ml(s:ah)(n:Int):Int:=zy237 0 (zy241 s.ax.aG+n-(s.bV.cT-s.bV.dW))
theorem zy268(hw:WOK s.ax)(hq:QOK s.bV){n:Int}(hn:0<=n/\n<=1000):mC s n=ς (ml s n):=by
 have hs:=zy242 hw.d
 have hl:=hw.l
 obtain⟨a1,a2,a3,a4⟩:=hq
 simp only[mC,mB,zy109 (show s.ax.aG.length<=1048576 by omega),zy243 hw.d (show s.ax.aG.length<=1000 by omega),zy110,zy244 ⟨a1,a2,a3,a4⟩,Ik,abJ,ml,zy46 (n:=zy241 s.ax.aG+n) oaa,zy46 (n:=zy241 s.ax.aG+n-(s.bV.cT-s.bV.dW)) oaa]
def zy269(s:ah)(a:am)(n:Int):ah×am:=
 bif leB (ml s n) 0 then(s,a) else
  let r:=zy266 a s.bV (zy237 (ml s n) s.ip.er)
  ({s with bV:=r.2},r.1)
theorem zy270(h:SP s)(hm:MOK a s.bV){n:Int}(hn:0<=n/\n<=1000):pp s a n=ς (zy269 s a n):=by
 simp only[pp,oQ h.ok,zy268 h.win h.q hn,zy151 hm.acc.ok,Ik,O0 hm,abJ,zy269]
 grind
def oP(w:bu)(b:List Int):bu:=⟨w.bC+1,w.aG++[⟨w.bC,b⟩]⟩
theorem zy271(h:WOK w){b:List Int}(hn:w.bC<100000)(hl:w.aG.length<8)(hb:b.length<=60):WOK (oP w b):=by
 have h1:=h.n
 have h3:=h.f
 refine⟨by simp only[oP];omega,by simp[oP];omega,by simp[oP];omega,λk x hx=>?_⟩
 simp only[oP] at hx ⊢
 rw[aaf,List.length_singleton]
 by_cases hk:k<w.aG.length
 .rw[ZU hk] at hx
  have:=h.u k x hx
  omega
 grind
theorem zy272(h:WOK w){b:List Int}(hn:w.bC<100000)(hl:w.aG.length<8)(hb:b.length<=60):ov w b=ς (oP w b,⟨w.bC,b⟩,ζ):=by
 have h1:=h.n
 have hs:=zy271 h hn hl hb
 have e:(⟨WR (w.bC+1),w.aG++[(⟨w.bC,b⟩:ae)]⟩:bu)=oP w b:=by rw[zy46 oaa];rfl
 simp only[ov,zy147 h.ok,aaC,zy53 (by_:=1) (n:=b.length) oaa oaa,zy53 (by_:=32) (n:=(w.aG++[(⟨w.bC,b⟩:ae)]).length) oaa (by simp;omega),e,I9 hs.ok,GR.2 hs,au]
structure SG(s:ah)(a:am):Prop where
 sp:SP s
 b1:∀p∈s.av,okB p.bb
 b2:∀x∈s.ax.aG,okB x.bb
 mo:MOK a s.bV
def rr(s:ah):Option bD:=bif leB s.ax.bC (s.av.length:Int)&&ltB (s.ax.aG.length:Int) 8 then s.av[(s.ax.bC-1).toNat]? else ξ
def iI:Nat->ah->am->List aD->ah×am×List aD
 |0,s,a,r=>(s,a,r)
 |k+1,s,a,r=>match rr s with
  |none=>(s,a,r)
  |some x=>
   let e:=zy269 s a (x.bb.length:Int)
   bif ltB 0 (ml e.1 (x.bb.length:Int)) then(e.1,e.2,r)
   else iI k {e.1 with ax:=oP e.1.ax x.bb} e.2 (r++[zy184 e.1.aY e.1.ag e.1.bi ⟨e.1.ax.bC,x.bb⟩])
theorem zy273(h:SP s){x:bD}(e:rr s=ς x):x∈s.av/\ix s.av (WR (s.ax.bC-1))=ς x/\s.av[(s.ax.bC-1).toNat]?=ς x/\s.ax.bC<=s.av.length/\s.ax.aG.length<8/\x.bb.length<=60:=by
 have hn:=h.win.n
 rw[rr] at e
 cases h1:leB s.ax.bC (s.av.length:Int)<;>cases h2:ltB (s.ax.aG.length:Int) 8<;>rw[h1,h2] at e<;>try cases e
 have h1:=ww h1
 have h2:=zy59 h2
 have e:s.av[(s.ax.bC-1).toNat]?=ς x:=e
 have hm:=ZL e
 refine⟨hm,?_,e,h1,by omega,h.sd x hm⟩
 rw[zy46 oaa,ix,leB_t.2 (show 0<=s.ax.bC-1 by omega)]
 exact e
theorem Ku(h:SP s)(e:rr s=ξ):(leB s.ax.bC (s.av.length:Int)&&ltB (s.ax.aG.length:Int) 8)=false:=by
 have hn:=h.win.n
 cases h1:leB s.ax.bC (s.av.length:Int)&&ltB (s.ax.aG.length:Int) 8
 .rfl
 rw[rr,h1] at e
 rw[hV] at h1
 have h1:=ww h1.1
 have e:s.av[(s.ax.bC-1).toNat]?=none:=e
 rw[List.getElem?_eq_none_iff] at e
 omega
theorem zy274(h:SG s a){n:Int}(hn:0<=n/\n<=60):SG (zy269 s a n).1 (zy269 s a n).2:=by
 rw[zy269]
 cases leB (ml s n) 0
 .obtain⟨h1,h2⟩:=zy267 h.mo (zy237 (ml s n) s.ip.er)
  have hp:=h.sp.pd
  have hu:(zy266 a s.bV (zy237 (ml s n) s.ip.er)).2.dW=s.bV.dW:=rfl
  exact⟨{h.sp with q:=h1.quo,pd:=by grind},h.b1,h.b2,h1⟩
 exact h
theorem zy275(h:SG s a){x:bD}(e:rr s=ς x)(hq:ltB 0 (ml s (x.bb.length:Int))=η):SG {s with ax:=oP s.ax x.bb} a:=by
 obtain⟨hm,_,hx,hn,hl,hb⟩:=zy273 h.sp e
 have hs:=h.sp.sl
 have hq:=zy60 hq
 have hnn:=h.sp.win.n
 have hpd:zy241 (s.ax.aG++[⟨s.ax.bC,x.bb⟩])<=s.bV.cT-s.bV.dW:=by
  have zy19:zy241 (s.ax.aG++[⟨s.ax.bC,x.bb⟩])=zy241 s.ax.aG+x.bb.length:=by simp[zy241]
  rw[ml,zy237] at hq
  rw[zy19]
  split at hq<;>omega
 refine⟨{h.sp with ok:=⟨h.sp.ok.1,h.sp.ok.2.1,(zy271 h.sp.win oaa hl hb).ok⟩,win:=zy271 h.sp.win oaa hl hb,nx:=by simp only[oP];omega,un:=λy hy=>?_,pd:=hpd},h.b1,λy hy=>?_,h.mo⟩
 .simp only[oP,ZO,abo] at hy
  rcases hy with hy|rfl
  .exact h.sp.un y hy
  simp only[zy116,hx,I5];simp_all
 simp only[oP,ZO,abo] at hy
 rcases hy with hy|rfl
 .exact h.b2 y hy
 exact h.b1 x hm
theorem zy276(s:ah)(a:am)(n:Int):∃q,(zy269 s a n).1={s with bV:=q}:=by
 rw[zy269];cases leB (ml s n) 0
 .simp_all
 grind
theorem zy277(s0:ah):∀(k fu:Nat) (s:ah) (a:am) (g:List aM) (r:List aD),SG s a->s.av=s0.av->s.aY=s0.aY->s.ag=s0.ag->s.bi=s0.bi->k<=2->k<fu->r.length+k<=1000->
 iter (rC s0) fu ((2:Int)-(k:Nat),⟨s,a,g,r⟩)=ς ⟨(iI k s a r).1,(iI k s a r).2.1,g,(iI k s a r).2.2⟩
 |0,fu,s,a,g,r,h,c1,c2,c3,c4,h1,h2,h3=>by
  cases fu with
  |zero=>omega
  |succ fu=>rw[iter];simp[rC,iI]
 |k+1,fu,s,a,g,r,h,c1,c2,c3,c4,h1,h2,h3=>by
  cases fu with
  |zero=>omega
  |succ fu=>
   have hlt:ltB ((2:Int)-((k+1:Nat):Int)) 2=true:=ltB_t.2 oaa
   have hc:(bif leB s.ax.bC (s0.av.length:Int) then ς (ltB (s.ax.aG.length:Int) 8) else ς η)=ς (leB s.ax.bC (s.av.length:Int)&&ltB (s.ax.aG.length:Int) 8):=by
    rw[<-c1]
    cases leB s.ax.bC (s.av.length:Int)<;>rfl
   rw[iter]
   simp only[rC,hlt,hc,iI,au]
   cases e:rr s with
   |none=>rw[Ku h.sp e];rfl
   |some x=>
    obtain⟨hm,hx,_,hn,hl,hb⟩:=zy273 h.sp e
    have hcc:(leB s.ax.bC (s.av.length:Int)&&ltB (s.ax.aG.length:Int) 8)=true:=by rw[leB_t.2 hn,ltB_t.2 oaa];rfl
    have he:=zy274 h (n:=(x.bb.length:Int)) oaa
    have hsl:=h.sp.sl
    have hnn:=h.sp.win.n
    rw[c1] at hx
    simp only[hcc,hx,zy270 h.sp h.mo (n:=(x.bb.length:Int)) oaa,zy268 he.sp.win he.sp.q (n:=(x.bb.length:Int)) oaa,au]
    cases hq:ltB 0 (ml (zy269 s a (x.bb.length:Int)).1 (x.bb.length:Int))
    .obtain⟨q,hk⟩:=zy276 s a (x.bb.length:Int)
     have e2:rr (zy269 s a (x.bb.length:Int)).1=ς x:=by rw[hk];exact e
     have hg:=zy275 he e2 hq
     have hw:(zy269 s a (x.bb.length:Int)).1.ax=s.ax:=by rw[hk]
     have hww:=he.sp.win
     have d1:(zy269 s a (x.bb.length:Int)).1.aY=s0.aY:=by rw[hk];exact c2
     have d2:(zy269 s a (x.bb.length:Int)).1.ag=s0.ag:=by rw[hk];exact c3
     have d3:(zy269 s a (x.bb.length:Int)).1.bi=s0.bi:=by rw[hk];exact c4
     simp only[zy272 hww (b:=x.bb) (by grind) (by simp_all) hb,vl,zy185 (x:=⟨(zy269 s a (x.bb.length:Int)).1.ax.bC,x.bb⟩) (by grind) (by grind) (h.b1 x hm) (by grind),<-d1,<-d2,<-d3,zy53 (by_:=64) (n:=(r++[zy184 (zy269 s a (x.bb.length:Int)).1.aY (zy269 s a (x.bb.length:Int)).1.ag (zy269 s a (x.bb.length:Int)).1.bi ⟨(zy269 s a (x.bb.length:Int)).1.ax.bC,x.bb⟩]).length) oaa (by simp;omega),zy46 (n:=(2:Int)-((k+1:Nat):Int)+1) oaa,au]
     rw[show(2:Int)-((k+1:Nat):Int)+1=2-(k:Nat) by omega]
     exact zy277 s0 k fu _ _ _ _ hg (by simp_all) d1 d2 d3 oaa oaa (by simp;omega)
    rfl
theorem zy278(h:SG s a)(hs:s.bB=1):ve s a=ς ⟨(iI 2 s a []).1,(iI 2 s a []).2.1,[],(iI 2 s a []).2.2⟩:=by
 have:=zy277 s 2 FU s a [] [] h rfl rfl rfl rfl oaa (by have:=zy43;omega) (by simp)
 rw[show(2:Int)-((2:Nat):Int)=0 by omega] at this
 have hz:({dB with a8:=s,eo:=a}:b8)=⟨s,a,[],[]⟩:=rfl
 simp only[ve,qH,vj,oQ h.sp.ok,zy151 h.mo.acc.ok,zy125 h.sp.ok,(zy245 h.sp.ok).2 h.sp,eqB_t.2 hs,hz,this,au]
theorem I8:∀(k:Nat) (s:ah) (a:am) (r:List aD),SG s a->SG (iI k s a r).1 (iI k s a r).2.1
 |0,s,a,r,h=>h
 |k+1,s,a,r,h=>by
  rw[iI]
  cases e:rr s with
  |none=>exact h
  |some x=>
   obtain⟨hm,hx,_,hn,hl,hb⟩:=zy273 h.sp e
   have he:=zy274 h (n:=(x.bb.length:Int)) oaa
   simp only
   cases hq:ltB 0 (ml (zy269 s a (x.bb.length:Int)).1 (x.bb.length:Int))
   .obtain⟨q,hk⟩:=zy276 s a (x.bb.length:Int)
    exact I8 k _ _ _ (zy275 he (by rw[hk];exact e) hq)
   exact he
theorem zy279(xs:List α):(xs.filter λ_=>ζ)=xs:=List.filter_eq_self.2 (by simp)
def zy280(s:ah):List aD:=bif eqB s.bB 1 then(s.ax.aG.take 2).map λx=>zy184 s.aY s.ag s.bi x else []
theorem zy281(h:WOK s.ax)(hx:x∈s.ax.aG):1<=x.cZ/\x.cZ<s.ax.bC/\x.cZ<=100000/\x.bb.length<=60:=by
 obtain⟨k,hk⟩:=ZY hx
 have hl:=(v0.1 hk).1
 have:=h.u k x hk
 have h1:=h.f
 have h2:=h.n
 omega
theorem zy282(h:SG s a):lI s=ς (zy280 s):=by
 have key:∀(n:Nat) (fu k:Nat) (r:List aD),n=(s.ax.aG.take 2).length-k->k<=(s.ax.aG.take 2).length->n<fu->r.length+n<=100->eqB s.bB 1=ζ->
  iter (iF s) fu ((k:Int),r)=ς (r++((s.ax.aG.take 2).drop k).map λx=>zy184 s.aY s.ag s.bi x):=by
  intro n
  have hle:(s.ax.aG.take 2).length=min 2 s.ax.aG.length:=by simp
  induction n with
  |zero=>
   intro fu k r hn hk hf hr hs
   cases fu with
   |zero=>omega
   |succ fu=>
    have hk':k=(s.ax.aG.take 2).length:=by omega
    have hc:(bif ltB (k:Int) (s.ax.aG.length:Int) then(bif ltB (k:Int) 2 then ς (eqB s.bB 1) else ς η) else ς η)=ς false:=by
     by_cases h2:k<s.ax.aG.length
     .rw[cE h2,ltB_f.2 (show(2:Int)<=k by omega)];rfl
     rw[ltB_f.2 (show(s.ax.aG.length:Int)<=k by omega)];rfl
    rw[iter]
    simp only[iF,hc,au]
    simp_all
  |succ n ih=>
   intro fu k r hn hk hf hr hs
   cases fu with
   |zero=>omega
   |succ fu=>
    have hlt:k<(s.ax.aG.take 2).length:=by omega
    have hc:(bif ltB (k:Int) (s.ax.aG.length:Int) then(bif ltB (k:Int) 2 then ς (eqB s.bB 1) else ς η) else ς η)=ς true:=by
     rw[cE (show k<s.ax.aG.length by omega),ltB_t.2 (show(k:Int)<2 by omega),hs];rfl
    obtain⟨x,hx⟩:∃x,s.ax.aG[k]?=ς x:=⟨_,ZM (show k<s.ax.aG.length by omega)⟩
    have hxm:=ZL hx
    have hu:=zy281 h.sp.win hxm
    have hd:(s.ax.aG.take 2).drop k=x::(s.ax.aG.take 2).drop (k+1):=by
     rw[aas hlt];congr 1
     have:=(v0.1 hx).2
     simpa using this
    rw[iter]
    simp only[iF,hc,bh,hx,vl,zy185 (x:=x) oaa oaa (h.b2 x hxm) oaa,zy53 (by_:=64) (n:=(r++[zy184 s.aY s.ag s.bi x]).length) oaa (by simp;omega),WRs (k:=k),au]
    rw[ih fu (k+1) _ oaa oaa oaa (by simp;omega) hs,hd]
    simp
 rw[lI,zy280]
 cases hs:eqB s.bB 1
 .have h0:iter (iF s) FU (0,[])=ς []:=by
   have:FU=(FU-1)+1:=by have:=zy43;omega
   rw[this,iter]
   have hc:(bif ltB 0 (s.ax.aG.length:Int) then(bif ltB 0 2 then ς (eqB s.bB 1) else ς η) else ς η)=ς false:=by
    rw[hs];cases ltB 0 (s.ax.aG.length:Int)<;>cases ltB 0 2<;>rfl
   simp only[iF,hc,au]
  rw[h0];rfl
 have:=key _ FU 0 [] rfl oaa (by have:=zy43;simp;omega) (by simp;omega) hs
 simp_all
def zy283(m:aV)(a:Int):List Int:=(m.bp.zipIdx.filter λy=>eqB y.1.gB a).map λy=>(y.2:Int)
def zy284(m:aV):List Int:=(ZN m.bp.length).map λ(k:Nat)=>(k:Int)
def zy285(m:aV)(a t:Int):List Int:=bif eqB t 1&&ltB 0 (((zy283 m a).length:Nat):Int) then zy283 m a else bif inR t 1 4 then zy284 m else []
theorem zy286{xs:List α}{y:α×Nat}(h:xs.zipIdx[k]?=ς y):xs[k]?=ς y.1/\y.2=k:=by
 grind
theorem zy287(h:m.bp.length<=1000)(a:Int):pk m a=ς (zy283 m a):=by
 have hrun:=zy45 (step:=ji m a) m.bp.zipIdx (λi r=>((i:Int),r)) (zy51 8 (λy=>eqB y.1.gB a) (λy=>(y.2:Int))) ς (by simp;omega)
  (λi y r hy hi=>by
   obtain⟨hx,e⟩:=zy286 hy
   have hi:i<m.bp.length:=by simpa using hi
   simp only[ji,cE hi,bh,hx,WRs (k:=i),zy51,e,au]
   cases eqB y.1.gB a
   .rfl
   cases cW 8 (r++[(i:Int)]).length<;>rfl) (λr=>by simp[ji]) ([]:List Int)
 rw[zy52 oaa _ _ _ _ (by simp;omega)] at hrun
 rw[pk,show iter (ji m a) FU (0,[])=_ from hrun]
 rfl
theorem zy288(n:Nat):∀(v:List Int),v.length=n->(∀k:Nat,k<n->v[k]?=ς (k:Int))->v=(ZN n).map λ(k:Nat)=>(k:Int):=by
 intro v hv h
 apply abW
 grind
theorem VY(h:m.bp.length<=1000)(a t:Int):pt m a t=ς (zy285 m a t):=by
 simp only[pt,zy287 h,abJ,zy285,zy284]
 cases hb:inR t 1 4
 .have h0:iter (gL m t) FU (0,[])=ς []:=by
   have:FU=(FU-1)+1:=by have:=zy43;omega
   rw[this,iter]
   simp only[gL,zy83,hb,abJ]
   cases ltB 0 (m.bp.length:Int)<;>rfl
  grind
 have hrun:=zy45 (step:=gL m t) m.bp.zipIdx (λi r=>((i:Int),r)) (zy51 8 (λ_=>ζ) (λy=>(y.2:Int))) ς (by simp;omega)
  (λi y r hy hi=>by
   obtain⟨hx,e⟩:=zy286 hy
   have hi:i<m.bp.length:=by simpa using hi
   simp only[gL,cE hi,zy83,hb,WRs (k:=i),zy51,e,au]
   simp_all) (λr=>by simp[gL]) ([]:List Int)
 rw[zy52 oaa _ _ _ _ (by simp;omega)] at hrun
 have hall:(m.bp.zipIdx.filter λ_=>ζ).map (λy:fk×Nat=>(y.2:Int))=(ZN m.bp.length).map λ(k:Nat)=>(k:Int):=by
  rw[zy279]
  refine zy288 _ _ (by simp) λk hk=>?_
  simp[List.getElem?_zipIdx,ZM hk]
 grind
def zy289(p:cP)(m:aV):cP×List Int:=
 bif ltB 0 p.gE then({p with gE:=p.gE-1},[]) else
  let t:=bif ltB p.eS 4 then p.eS+1 else 1
  (⟨p.gB,t,3⟩,zy285 m p.gB t)
structure POK(p:cP):Prop where
 a:0<=p.eS/\p.eS<=4
 w:0<=p.gE/\p.gE<=3
theorem WC{p:cP}(hp:POK p)(h:m.bp.length<=1000):rE p m=ς (zy289 p m):=by
 have h1:=hp.a
 have h2:=hp.w
 simp only[rE,VY h,abJ,zy289,zy46 (n:=p.gE-1) oaa,zy46 (n:=p.eS+1) oaa,zy211]
def zy290(m:aV)(c:Int):Int:=bif zy138 m c then(match m.bp[c.toNat]? with|some x=>x.gB|none=>0) else 0
def zy291(c:Int):aM:={iJ with bk:=7,bv:=c}
def I2(s:ah)(a:am)(m:aV):b8:=
 let r:=zy289 {s.jw with gB:=zy290 m s.bv} m
 ⟨{s with jw:=r.1},a,r.2.map zy291,[]⟩
theorem zy292{L:Int×List aM->Option (ct (Int×List aM) (List aM))}(xs:List Int)(hl:xs.length<=10000)(hL:∀(v:Int) (r:List aM),L (v,r)=bif ltB v (xs.length:Int) then(abG (ix xs v) λx10=>bif cW 88 (r++[{iJ with bk:=7,bv:=x10}]).length then(ς (.next (WR (v+1),(r++[{iJ with bk:=7,bv:=x10}])))) else ξ) else(ς (.done r))):
 iter L FU (0,[])=ς (xs.map zy291):=by
 have hrun:=zy45 (step:=L) xs (λi r=>((i:Int),r)) (zy51 88 (λ_=>ζ) zy291) ς oaa
  (λi x r hx hi=>by
   simp only[hL,cE hi,bh,hx,WRs (k:=i),zy51,zy291,au]
   simp_all) (λr=>by simp[hL]) ([]:List aM)
 rw[zy52 oaa _ _ _ _ (by simp;omega)] at hrun
 refine Eq.trans (show iter L FU (0,[])=_ from hrun) (by rw[zy279,aaC])
theorem zy293{p:cP}(h:m.bp.length<=1000):(zy289 p m).2.length<=1000:=by
 have hc:(zy283 m p.gB).length<=1000:=by
  simp only[zy283,List.length_map]
  have:=List.length_filter_le (λy:fk×Nat=>eqB y.1.gB p.gB) m.bp.zipIdx
  simp at this;omega
 rw[zy289];cases ltB 0 p.gE
 .simp only[cond_false,zy285]
  cases eqB (bif ltB p.eS 4 then p.eS+1 else 1) 1&&ltB 0 (((zy283 m p.gB).length:Nat):Int)
  .cases inR (bif ltB p.eS 4 then p.eS+1 else 1) 1 4<;>simp[zy284];omega
  exact hc
 simp
theorem zy294(h:SP s)(ha:zy221 a)(hp:POK s.jw)(hm:1<=m.bp.length/\m.bp.length<=1000):vk s a m=ς (I2 s a m):=by
 have hz:({dB with a8:=s,eo:=a}:b8)=⟨s,a,[],[]⟩:=rfl
 have hin:(bif zy138 m s.bv then(abG (ix m.bp s.bv) λx4=>ς x4.gB) else ς 0)=ς (zy290 m s.bv):=by
  rw[zy290]
  cases hc:zy138 m s.bv
  .rfl
  obtain⟨d,_,h1,h2⟩:=zy143 hc
  simp_all
 have hpp:POK {s.jw with gB:=zy290 m s.bv}:=⟨hp.a,hp.w⟩
 have hr:=zy292 (L:=At (zy289 {s.jw with gB:=zy290 m s.bv} m)) _ (by have:=zy293 (p:={s.jw with gB:=zy290 m s.bv}) hm.2;omega) (λv r=>rfl)
 simp only[vk,qH,oQ h.ok,zy151 ha.ok,zy83,abJ,zy46 (n:=(m.bp.length:Int)-1) oaa,hz]
 rw[show inR s.bv 0 ((m.bp.length:Int)-1)=zy138 m s.bv from rfl,hin]
 simp only[abJ,WC hpp hm.2,hr,I2]
def zy295(s:ah)(a:am):am×cU:=bif leB s.ip.er s.bV.dW then lD a s.bV else(a,s.bV)
def zy296(s:ah):Bool:=ltB 0 (s.ax.aG.length:Int)
def zy297(s:ah):Int:=bif zy296 s then ol 5 (s.d9+1) else 0
def zy298(s:ah):List aD×Int:=bif zy296 s&&ltB 0 s.d6 then([],s.d6-1) else bif zy296 s then(zy280 s,3) else([],s.d6)
def zy299(s:ah)(a:am)(m:aV):b8:=
 let g:=zy295 s a
 let t:=iI 2 {s with d9:=zy297 s,d6:=(zy298 s).2,bV:=g.2} g.1 []
 ⟨t.1,t.2.1,[],(zy298 s).1++t.2.2⟩
def zy300(s:ah)(a:am)(m:aV):b8:=
 bif !eqB s.bB 1 then⟨s,a,[],[]⟩ else bif ltB 4 (zy297 s) then I2 {s with d9:=zy297 s,bV:=(zy295 s a).2} (zy295 s a).1 m else zy299 s a m
theorem BQ(h:SG s a):MOK (zy295 s a).1 (zy295 s a).2/\(zy295 s a).2.cT-(zy295 s a).2.dW=s.bV.cT-s.bV.dW/\(zy295 s a).2.aA=s.bV.aA/\(zy295 s a).1.dv+(zy295 s a).2.dW=a.dv+s.bV.dW/\(zy295 s a).1.fJ=a.fJ/\(zy295 s a).1.bm=a.bm:=by
 rw[zy295]
 cases leB s.ip.er s.bV.dW
 .exact⟨h.mo,rfl,rfl,rfl,rfl,rfl⟩
 obtain⟨h1,h2,h3,h4⟩:=OZ h.mo
 simp only[cond_true]
 exact⟨h1,by simp[lD],rfl,by rw[h2];simp[lD],h3,h4⟩
theorem yB(h:SP s):0<=zy297 s/\zy297 s<=5:=by
 have:=h.qu
 rw[zy297];cases zy296 s
 .simp
 simp only[cond_true,ol];omega
theorem zy301(h:SP s):0<=(zy298 s).2/\(zy298 s).2<=3:=by
 have:=h.zy48
 rw[zy298];cases zy296 s
 .exact this
 cases hb:ltB 0 s.d6
 .simp
 have:=zy59 hb
 simp;omega
theorem SG.upd(h:SG s a){q r:Int}(hq:0<=q/\q<=5)(hr:0<=r/\r<=3):SG {s with d9:=q,d6:=r,bV:=(zy295 s a).2} (zy295 s a).1:=by
 obtain⟨h1,h2,_⟩:=BQ h
 have hp:=h.sp.pd
 exact⟨{h.sp with q:=h1.quo,qu:=hq,zy48:=hr,pd:=by simp_all},h.b1,h.b2,h1⟩
theorem NV(s:ah):(zy280 s).length<=2:=by
 rw[zy280];grind
theorem Eu(s:ah):(zy298 s).1.length<=2:=by
 have:=NV s
 rw[zy298];grind
theorem zy302:∀(k:Nat) (s:ah) (a:am) (r:List aD),(iI k s a r).2.2.length<=r.length+k
 |0,s,a,r=>by simp[iI]
 |k+1,s,a,r=>by
  rw[iI]
  cases rr s with
  |none=>simp
  |some x=>
   simp only
   cases ltB 0 (ml (zy269 s a (x.bb.length:Int)).1 (x.bb.length:Int))
   .have:=zy302 k {(zy269 s a (x.bb.length:Int)).1 with ax:=oP (zy269 s a (x.bb.length:Int)).1.ax x.bb} (zy269 s a (x.bb.length:Int)).2 (r++[zy184 (zy269 s a (x.bb.length:Int)).1.aY (zy269 s a (x.bb.length:Int)).1.ag (zy269 s a (x.bb.length:Int)).1.bi ⟨(zy269 s a (x.bb.length:Int)).1.ax.bC,x.bb⟩])
    grind
   simp_all
theorem zy303(h:SG s a)(hm:1<=m.bp.length/\m.bp.length<=1000)(hp:POK s.jw):py s a m=ς (zy300 s a m):=by
 have hz:({dB with a8:=s,eo:=a}:b8)=⟨s,a,[],[]⟩:=rfl
 have hqu:=h.sp.qu
 have hrt:=h.sp.zy48
 simp only[py,vj,qH,oQ h.sp.ok,zy151 h.mo.acc.ok,zy125 h.sp.ok,(zy245 h.sp.ok).2 h.sp,abJ,hz,zy300]
 cases hs:eqB s.bB 1
 .rfl
 have hst:=zy61 hs
 have hq:=yB h.sp
 have hr:=zy301 h.sp
 have hqq:∀(k:Int->Option b8),(abG (bif ltB 0 (s.ax.aG.length:Int) then(abG (Cy 5 (WR (s.d9+1))) λr9=>ς r9) else ς 0) k)=k (zy297 s):=λk=>by
  rw[zy297,zy296,zy46 (n:=s.d9+1) oaa,Il]
  grind
 have hrr:∀(u:cU) (k:List aD×Int->Option b8),SG {s with d9:=zy297 s,d6:=3,bV:=u} (zy295 s a).1->
  (abG (bif ltB 0 (s.ax.aG.length:Int) then ς (ltB 0 s.d6) else ς η) λ(v11:Bool)=>abG (bif v11 then(ς (([]:List aD),WR (s.d6-1))) else(abG (bif ltB 0 (s.ax.aG.length:Int) then(abG (lI {s with d9:=zy297 s,d6:=3,bV:=u}) λr16=>ς (r16,3)) else(ς (([]:List aD),s.d6))) λx=>ς (x.1,x.2))) k)=k ((zy298 s).1,(zy298 s).2):=λu k hu=>by
  rw[zy298,zy296,zy46 (n:=s.d6-1) oaa,zy282 hu]
  cases ltB 0 (s.ax.aG.length:Int)<;>cases ltB 0 s.d6<;>rfl
 have hl:cW 64 ((zy298 s).1++(iI 2 {s with d9:=zy297 s,d6:=(zy298 s).2,bV:=(zy295 s a).2} (zy295 s a).1 []).2.2).length=true:=by
  have h1:=Eu s
  have h2:=zy302 2 {s with d9:=zy297 s,d6:=(zy298 s).2,bV:=(zy295 s a).2} (zy295 s a).1 []
  simp only[ab3] at h2
  exact zy53 oaa (by simp;omega)
 have hu:=h.upd hq (show(0:Int)<=3/\(3:Int)<=3 by omega)
 have hv:=h.upd hq hr
 have hw:=h.upd hq h.sp.zy48
 have hpp:POK ({s with d9:=zy297 s,bV:=(zy295 s a).2}:ah).jw:=hp
 have zy19:=zy294 (s:={s with d9:=zy297 s,bV:=(zy295 s a).2}) hw.sp hw.mo.acc hpp hm
 have e2:=zy278 hv hst
 rw[zy295] at hu zy19 e2 hl
 simp only[au]
 rw[zy299,zy295]
 cases hg:leB s.ip.er s.bV.dW
 .rw[hg] at hu zy19 e2 hl
  simp only[cond_false] at hu zy19 e2 hl ⊢
  have hu':=hrr s.bV
  rw[zy295,hg] at hu'
  rw[hqq]
  cases ltB 4 (zy297 s)
  .simp_all
  simp_all
 rw[hg] at hu zy19 e2 hl
 simp only[cond_true] at hu zy19 e2 hl ⊢
 have hu':=hrr (lD a s.bV).2
 rw[zy295,hg] at hu'
 simp only[SY h.mo,abJ]
 rw[hqq]
 cases ltB 4 (zy297 s)
 .simp_all
 simp_all
structure RP(r:be):Prop where
 ok:zy68 r
 v:oW r=ζ
 b1:∀x∈r.aO,okB x.bb
 b2:∀p∈r.aP,okB p.bb
structure DP(d:aC):Prop where
 card:zy89 d.dx=ζ
 st:0<=d.bB/\d.bB<=3
 ce:0<=d.bv/\d.bv<=5
 gn:0<=d.ag/\d.ag<=999999
 ep:0<=d.bi/\d.bi<=999999
 rk:0<=d.aY/\d.aY<=2147483646
 k:2<=d.bB->zy85 d.aY=ζ
 wt:0<=d.gE/\d.gE<=3
 rc:RP d.bg
theorem DP.ok{d:aC}(h:DP d):zy69 d:=h.rc.ok
theorem DP.v{d:aC}(h:DP d):zy106 d=true:=by
 have:=h.st
 simp only[zy106,hV,bE]
 refine⟨h.card,h.st,h.ce,h.gn,h.ep,h.rk,?_,h.wt,h.rc.v⟩
 cases e:inR d.bB 2 3
 .rfl
 rw[bE] at e;rw[h.k e.1];rfl
theorem DP.of{d:aC}(h:zy106 d=ζ)(ok:zy69 d)(b1:∀x∈d.bg.aO,okB x.bb)(b2:∀p∈d.bg.aP,okB p.bb):DP d:=by
 simp only[zy106,hV,bE] at h
 obtain⟨h1,h2,h3,h4,h5,h6,h7,h8,h9⟩:=h
 refine⟨h1,h2,h3,h4,h5,h6,λe=>?_,h8,⟨ok,h9,b1,b2⟩⟩
 rw[bE.2 ⟨e,h2.2⟩] at h7;simp_all
theorem ya{d:aC}(h:DP d):DP (zy214 d).bA:=by
 have hw:=h.wt
 rw[zy214]
 cases hb:ltB 0 d.gE
 .cases eqB d.bB 1
  .cases eqB d.bB 2&&!d.dr
   .exact h
   exact {h with wt:=⟨by simp,by simp⟩}
  exact {h with wt:=⟨by simp,by simp⟩}
 have:=zy59 hb
 exact {h with wt:=⟨by grind,by grind⟩}
theorem zy304{d:aC}(h:DP d):DP (dOn d).bA:=by
 rw[dOn]
 cases eqB d.bB 0
 .exact h
 exact {h with st:=⟨by simp,by simp⟩,wt:=⟨by simp,by simp⟩,k:=λe=>by simp at e}
theorem zy305{d:aC}(h:DP d):DP (xe d).bA:={h with wt:=⟨by simp[xe],by simp[xe]⟩}
theorem Hu{d:aC}(h:DP d)(c:Int):DP (uv d c).bA:=by
 have he:=h.ep
 rw[uv]
 cases h1:eqB c d.bv||!inR c 0 5
 .simp only[Z2,abQ] at h1
  have hc:=bE.1 h1.2
  cases h2:eqB d.bB 2&&ltB d.bi 999999
  .exact {h with ce:=hc}
  rw[hV] at h2
  have:=zy59 h2.2
  exact zy305 {h with ce:=hc,ep:=⟨by grind,by grind⟩}
 exact h
theorem zy306{d:aC}(h:DP d):DP (uO d):=by
 rw[uO]
 cases e:eqB d.bB 2
 .exact h
 have e:=zy61 e
 exact {h with st:=⟨by simp,by simp⟩,k:=λ_=>h.k (by omega)}
theorem NH{k r q:Int}(h0:0<=q)(h1:q<=999999):1<=(vec k r q).eV/\(vec k r q).eV<=2147483646:=by
 rw[vec,bE.2 ⟨h0,h1⟩];exact zy198 _ _
theorem zy307{m:aM}(h:zy193 m=ζ):(1<=m.bk/\m.bk<=8)/\(0<=m.bv/\m.bv<=5)/\(0<=m.ag/\m.ag<=999999)/\(0<=m.bi/\m.bi<=999999)/\0<=m.bX/\m.bX<=1000000000000:=by
 simp only[zy193,hV,bE] at h;exact h
theorem zy308{d:aC}(h:DP d){m:aM}(hm:zy193 m=ζ)(h1:d.bB=1):DP (Hr d m).bA:=by
 obtain⟨_,_,hg,_⟩:=zy307 hm
 have hu:=zy195 d.dx.eV m.bY.eQ m.bY.ie
 have hk:=NH (k:=d.dx.eV) (r:=m.bY.eQ) hu.1 hu.2
 rw[Hr]
 cases eqB (zy200 d.dx.eV d.dx.dJ m.bY) 0
 .exact h
 refine {h with card:=?_,gn:=hg,rk:=⟨by grind,by simp_all⟩,k:=λe=>by simp_all}
 have hc:=h.card
 simp only[zy89,hV] at hc ⊢
 exact⟨hc.1,hc.2.1,bE.2 hu⟩
theorem zy309{d:aC}(h:DP d)(m:aM):DP (zy215 d m).bA:=by
 have he:=h.ep
 rw[zy215]
 cases h1:!zy193 m||(!eqB m.bv d.bv||eqB d.bB 0)
 .have hm:zy193 m=true:=by revert h1;cases zy193 m<;>simp
  obtain⟨_,_,hg,hep,_⟩:=zy307 hm
  simp only[cond_false]
  cases h2:eqB m.bk 2&&eqB d.bB 1
  .simp only[cond_false]
   cases h4:eqB m.bk 4&&(eqB d.bB 1&&(zy85 d.aY&&(eqB m.ag d.ag&&zy190 d.aY m)))
   .simp only[cond_false]
    cases h6:eqB m.bk 6&&(eqB d.bB 2&&(eqB m.ag d.ag&&(eqB m.bi d.bi&&zy190 d.aY m)))
    .simp only[cond_false]
     cases h7:eqB m.bk 7&&(eqB d.bB 3&&ltB d.bi 999999)
     .simp only[cond_false]
      cases h8:eqB m.bk 7&&eqB d.bB 2
      .exact h
      exact zy305 h
     simp only[hV] at h7
     have h3:=zy61 h7.2.1
     have:=zy59 h7.2.2
     exact zy305 {h with st:=⟨by simp,by simp⟩,ep:=⟨by grind,by grind⟩,k:=λ_=>h.k (by omega)}
    exact {h with}
   simp only[hV] at h4
   exact {h with st:=⟨by simp,by simp⟩,ep:=hep,k:=λ_=>h4.2.2.1}
  rw[hV] at h2
  exact zy308 h hm (zy61 h2.2)
 exact h
theorem zy310:∀(xs:List ae) (n:Int) (dl:List bD),∃t d,xs=t++d/\zy208 xs n dl=⟨n+t.length,d,dl++t.map λx=>⟨x.bb⟩⟩/\(∀(k:Nat) (x:ae),t[k]?=ς x->x.cZ=n+k)/\((∃y ys,d=y::ys/\(y.cZ≠n+t.length\/24<=dl.length+t.length))\/d=[])/\(t≠[]->dl.length+t.length<=24)
 |[],n,dl=>⟨[],[],rfl,by simp[zy208],by simp,.inr rfl,by simp⟩
 |x::xs,n,dl=>by
  rw[zy208]
  by_cases h:x.cZ=n/\dl.length<24
  .rw[if_pos h]
   obtain⟨t,d,zy19,e2,e3,e4,e5⟩:=zy310 xs (n+1) (dl++[⟨x.bb⟩])
   refine⟨x::t,d,by rw[zy19];rfl,?_,λk y hy=>?_,?_,λ_=>?_⟩
   .rw[e2];simp;omega
   .cases k with
    |zero=>simp_all
    |succ k=>grind
   .grind
   simp only[Z5]
   by_cases ht:t=[]
   .grind
   grind
  rw[if_neg h]
  refine⟨[],x::xs,rfl,by simp,by simp,.inl ⟨x,xs,rfl,?_⟩,by simp⟩
  grind
structure RcV(r:be):Prop where
 n:r.bC=(r.aP.length:Int)+1
 l:r.aP.length<=24
 d:∀p∈r.aP,p.bb.length<=60
 pl:r.aO.length<=8
 pr:∀x∈r.aO,r.bC+1<=x.cZ/\x.cZ<=r.bC+7/\x.bb.length<=60
 po:r.aO.Pairwise λx y=>x.cZ<y.cZ
theorem zy311:oW r=ζ↔RcV r:=by
 constructor
 .intro h
  have hl:=wr h
  simp only[oW,hV,zy103,ZR,zy240,zy78] at h
  obtain⟨h1,h2,h3,h4,h5⟩:=h
  have hp:∀(k:Nat) (x:ae),r.aO[k]?=ς x->(r.bC+1<=x.cZ/\x.cZ<=r.bC+7)/\zy82 ae.cZ r.aO k x=ζ/\x.bb.length<=60:=λk x hx=>by
   have:=h5 k x hx
   simp only[yA,hV,bE,zy240] at this
   rw[zy46 (n:=r.bC+1) oaa,zy46 (n:=r.bC+8) oaa,zy46 (n:=r.bC+8-1) oaa] at this
   grind
  refine⟨hl.1,hl.2.1,h3,hl.2.2,λx hx=>?_,zy223 λk x hx=>(hp k x hx).2.1⟩
  obtain⟨k,hk⟩:=ZY hx
  grind
 rintro⟨h1,h2,h3,h4,h5,h6⟩
 simp only[oW,hV,zy103,ZR,zy240,zy78]
 refine⟨eqB_t.2 (by rw[zy46 oaa];exact h1),leB_t.2 oaa,h3,leB_t.2 oaa,λk x hx=>?_⟩
 have:=h5 x (ZL hx)
 simp only[yA,hV,bE,zy240]
 rw[zy46 (n:=r.bC+1) oaa,zy46 (n:=r.bC+8) oaa,zy46 (n:=r.bC+8-1) oaa]
 exact⟨by omega,zy224 h6 hx,this.2.2⟩
theorem LJ{α:Type}{key:α->Int}:∀{xs:List α} {a b:Int},(xs.Pairwise λx y=>key x<key y)->(∀x∈xs,a<=key x/\key x<=b)->(xs.length:Int)<=max 0 (b-a+1)
 |[],a,b,_,_=>by simp;omega
 |x::xs,a,b,h,hr=>by
  have hx:=hr x (by simp)
  have ih:=LJ (xs:=xs) (a:=key x+1) (b:=b) (abO.1 h).2 λy hy=>⟨by have:=(abO.1 h).1 y hy;omega,(hr y (by simp[hy])).2⟩
  grind
theorem WW{x:ae}:∀{xs:List ae},(xs.Pairwise λa b=>a.cZ<b.cZ)->∀y∈xs.dropWhile (before x.cZ),x.cZ<=y.cZ
 |[],_,y,hy=>by simp at hy
 |z::xs,h,y,hy=>by
  rw[acb] at hy
  cases hb:before x.cZ z<;>rw[hb] at hy
  .have hz:=zy60 hb
   rcases ZQ.1 hy with e|hy
   .simp_all
   have:=(abO.1 h).1 y hy;omega
  exact WW (abO.1 h).2 y hy
theorem zy312{α:Type}(p:α->Bool):∀(xs:List α) (y:α),y∈xs.takeWhile p->p y=ζ
 |[],y,h=>by simp at h
 |x::xs,y,h=>by
  rw[abY] at h
  cases hp:p x<;>rw[hp] at h
  .simp at h
  rcases ZQ.1 h with e|h
  .simp_all
  exact zy312 p xs y h
theorem tw_lt{q:Int}{xs:List ae}:∀y∈xs.takeWhile (before q),y.cZ<q:=λy hy=>zy59 (show ltB y.cZ q=ζ from zy312 (before q) xs y hy)
theorem zy313{xs:List ae}(h:xs.Pairwise λa b=>a.cZ<b.cZ)(hn:∀y∈xs,y.cZ≠x.cZ):(qi x xs).Pairwise λa b=>a.cZ<b.cZ:=by
 have e:=ab4 (p:=before x.cZ) (l:=xs)
 rw[<-e,abT] at h
 obtain⟨h1,h2,h3⟩:=h
 rw[qi,List.append_assoc,abT]
 refine⟨h1,abO.2 ⟨λy hy=>?_,h2⟩,λa ha b hb=>?_⟩
 .have hm:y∈xs:=ab5 _ hy
  have:=hn y hm
  have hge:x.cZ<=y.cZ:=by
   have hs:xs.Pairwise λa b=>a.cZ<b.cZ:=by rw[<-e,abT];exact⟨h1,h2,h3⟩
   exact WW hs y hy
  omega
 rcases ZO.1 hb with hb|hb
 .simp at hb;subst hb;exact tw_lt a ha
 simp_all
theorem ym{y:ae}{xs:List ae}:y∈qi x xs↔y=x\/y∈xs:=by
 rw[qi]
 constructor
 .intro h
  simp only[ZO,abo] at h
  rcases h with(h|h)|h
  .exact .inr (aca _ h)
  .exact .inl h
  exact .inr (ab5 _ h)
 rintro(h|h)
 .simp[h]
 rw[<-ab4 (p:=before x.cZ) (l:=xs)] at h
 grind
theorem zy314(h:RcV r)(hl:zy209 r x=η):
 ∃t d,qi x r.aO=t++d/\(∀(k:Nat) (y:ae),t[k]?=ς y->y.cZ=r.bC+k)/\(oE r x).bC=r.bC+t.length/\(oE r x).aP=r.aP++t.map (λy=>⟨y.bb⟩)/\RcV (oE r x)/\
  ((oE r x).aO=d\/(oE r x).aO=[])/\r.aP.length+t.length<=24/\(x.cZ=r.bC->t≠[]):=by
 obtain⟨t,d,zy19,e2,e3,e4,e5⟩:=zy310 (qi x r.aO) r.bC r.aP
 have hl2:=hl
 simp only[zy209,Z2,abQ] at hl
 obtain⟨l1,l2,l3,l4,l5⟩:=hl
 have l2:=zy60 l2
 rw[bE] at l3
 have l5:=yp l5
 have hn:∀y∈r.aO,y.cZ≠x.cZ:=λy hy=>by
  simp_all
 have hasc:=zy313 h.po hn
 have hrng:∀y∈qi x r.aO,r.bC<=y.cZ/\y.cZ<=r.bC+7/\y.bb.length<=60:=λy hy=>by
  rcases ym.1 hy with rfl|hy
  .omega
  have:=h.pr y hy;omega
 have hlen:=LJ (key:=ae.cZ) hasc (a:=r.bC) (b:=r.bC+7) λy hy=>⟨(hrng y hy).1,(hrng y hy).2.1⟩
 have htl:r.aP.length+t.length<=24:=by
  by_cases ht:t=[]
  .grind
  exact e5 ht
 have hd:∀y∈d,r.bC+t.length<=y.cZ:=λy hy=>by
  by_cases ht:t=[]
  .simp_all
  obtain⟨k,hk⟩:∃k,t.length=k+1:=⟨t.length-1,by have:=acd.2 ht;omega⟩
  grind
 have hdl:(r.aP++t.map λy=>(⟨y.bb⟩:bD)).length=r.aP.length+t.length:=by simp
 have hdata:∀p∈r.aP++t.map λy=>(⟨y.bb⟩:bD),p.bb.length<=60:=λp hp=>by
  rcases ZO.1 hp with hp|hp
  .exact h.d p hp
  obtain⟨y,hy,rfl⟩:=aaA.1 hp
  simp_all
 have hnx:=h.n
 have hsome:x.cZ=r.bC->t≠[]:=λe ht=>by
  subst ht
  simp only[aaC] at zy19
  rcases e4 with⟨y,ys,e,h4⟩|e
  .simp only[ab3] at h4
   have hy:y.cZ<=x.cZ:=by
    have hx:x∈d:=by rw[<-zy19];exact ym.2 (.inl rfl)
    rw[e] at hx
    rcases ZQ.1 hx with e'|hx
    .simp_all
    rw[zy19,e] at hasc
    have:=(abO.1 hasc).1 x hx
    omega
   grind
  have:(qi x r.aO).length=0:=by rw[zy19,e];rfl
  rw[H7] at this;omega
 refine⟨t,d,zy19,e3,?_⟩
 rw[oE,hl2]
 simp only[cond_false,e2,hdl]
 cases h24:leB 24 ((r.aP.length+t.length:Nat):Int)
 .have h24:=yp h24
  simp only[cond_false]
  refine⟨θ,θ,⟨by grind,by simp_all,hdata,?_,λy hy=>?_,?_⟩,.inl trivial,htl,hsome⟩
  .grind
  .have h1:=hrng y (by simp_all)
   have h2:=hd y hy
   refine⟨?_,by grind,h1.2.2⟩
   simp only
   rcases e4 with⟨z,zs,e,h4⟩|e
   .have hz:=hd z (by rw[e];simp)
    have hzn:z.cZ≠r.bC+t.length:=by rcases h4 with h4|h4;exact h4;omega
    rw[e] at hy
    rcases ZQ.1 hy with e'|hy'
    .grind
    rw[zy19,e,abT] at hasc
    have:=(abO.1 hasc.2.1).1 y hy'
    omega
   simp_all
  grind
 have h24:=ww h24
 simp only[cond_true]
 exact⟨θ,θ,⟨by grind,by simp_all,hdata,by simp,by simp,.nil⟩,.inr trivial,htl,hsome⟩
theorem zy315(h:RP r)(hx:okB x.bb):RP (oE r x):=by
 cases hl:zy209 r x
 .have hv:=zy311.1 h.v
  obtain⟨t,d,zy19,e3,e4,e5,e6,e7,e8,e9⟩:=zy314 hv hl
  have hb:∀y∈t++d,okB y.bb:=λy hy=>by
   rw[<-zy19] at hy
   rcases ym.1 hy with rfl|hy
   .exact hx
   exact h.b1 y hy
  refine⟨zy218 h.ok x,zy311.2 e6,λy hy=>?_,λp hp=>?_⟩
  .grind
  rw[e5] at hp
  rcases ZO.1 hp with hp|hp
  .exact h.b2 p hp
  grind
 rw[oE,hl];exact h
theorem zy316(root g e:Int)(x:aD):okB (zy186 root g e x).1.bb:=by
 rw[zy186];split
 .exact zy176 _ _
 intro y hy;simp[kB] at hy
theorem zy317{d:aC}(h:DP d)(x:aD):DP (Bz d x).bA:=by
 simp only[Bz]
 cases eqB d.bB 2&&(zy186 d.aY d.ag d.bi x).2
 .exact h
 exact {h with rc:=zy315 h.rc (zy316 _ _ _ _)}
theorem zy318:zy94 f8=true:=by decide+kernel
theorem zy319{k:Int}:∀{xs:List ae} {f:Int},(∀(i:Nat) (x:ae),xs[i]?=ς x->x.cZ=f+i)->(xs.filter λx=>leB k x.cZ)=xs.drop (k-f).toNat
 |[],f,_=>by simp
 |x::xs,f,h=>by
  have hx:x.cZ=f:=by have:=h 0 x rfl;simpa using this
  have ih:=zy319 (k:=k) (xs:=xs) (f:=f+1) λi y hy=>by have:=h (i+1) y (by simp_all);omega
  rw[List.filter_cons,hx]
  by_cases hk:k<=f
  .rw[leB_t.2 hk,if_pos rfl,ih,show(k-f).toNat=0 by omega,show(k-(f+1)).toNat=0 by omega];rfl
  rw[leB_f.2 oaa,if_neg (by simp),ih,show(k-f).toNat=(k-(f+1)).toNat+1 by omega];rfl
theorem DC(h:WOK w){k:Int}(hk:ltB w.bC k=η):kN w k=⟨w.bC,w.aG.drop (k-(w.bC-w.aG.length)).toNat⟩:=by
 rw[kN,hk,zy319 (f:=w.bC-w.aG.length) λi x hx=>(h.u i x hx).1];rfl
theorem G3(h:WOK w)(k:Int):WOK (kN w k):=by
 cases hk:ltB w.bC k
 .have hl:=h.l
  have hf:=h.f
  have hn:=h.n
  rw[DC h hk]
  generalize (k-(w.bC-w.aG.length)).toNat=m
  refine⟨hn,by simp;omega,by simp;omega,λi x hx=>?_⟩
  simp only at hx ⊢
  rw[List.getElem?_drop] at hx
  have hi:=(v0.1 hx).1
  have:=h.u _ x hx
  grind
 rw[kN,hk];exact h
theorem zy320(w:bu)(k:Int):∀x∈(kN w k).aG,x∈w.aG:=λx hx=>by
 rw[kN] at hx;grind
theorem zy321(h:WOK w)(k:Int):0<=zy241 (kN w k).aG/\zy241 (kN w k).aG<=zy241 w.aG:=by
 have h1:=zy242 λx hx=>h.d x (zy320 w k x hx)
 refine⟨h1.1,?_⟩
 cases hk:ltB w.bC k
 .have:=zy259 h hk
  have h2:=zy242 (xs:=w.aG.filter λx=>ltB x.cZ k) λx hx=>h.d x (List.mem_filter.1 hx).1
  omega
 rw[kN,hk];simp_all
theorem zy322{n:Int}(h:0<=n/\n<=q.cT-q.dW):vI q n={q with dW:=q.dW+n}:=by rw[vI,bE.2 h];rfl
theorem zy323(h:SG s a)(k:Int):SG (mr s k) a/\(mr s k).bV={s.bV with dW:=s.bV.dW+(zy241 s.ax.aG-zy241 (kN s.ax k).aG)}:=by
 have hs:=zy321 h.sp.win k
 have hp:=h.sp.pd
 have hq:=h.sp.q
 have e:(mr s k).bV={s.bV with dW:=s.bV.dW+(zy241 s.ax.aG-zy241 (kN s.ax k).aG)}:=zy322 ⟨by omega,by omega⟩
 have hu:=hq.u
 have hg:=hq.g
 have hq':QOK (mr s k).bV:=by rw[e];exact⟨hq.i,by grind,by grind,hq.m⟩
 refine⟨⟨{h.sp with ok:=⟨h.sp.ok.1,h.sp.ok.2.1,(G3 h.sp.win k).ok⟩,win:=G3 h.sp.win k,q:=hq',qu:=⟨by simp[mr],by simp[mr]⟩,nx:=?_,un:=λx hx=>h.sp.un x (zy320 _ _ x hx),pd:=?_},h.b1,λx hx=>h.b2 x (zy320 _ _ x hx),⟨h.mo.acc,hq',?_⟩⟩,e⟩
 .have:(mr s k).ax.bC=s.ax.bC:=by simp only[mr,kN];cases ltB s.ax.bC k<;>rfl
  rw[this];exact h.sp.nx
 .rw[e];simp only[mr];omega
 rw[e];exact h.mo.res
theorem zy324(h:SG s a)(m:aM):SG (IY s m).a8 a:=by
 have hr:=zy253 h.sp.rcd
 simp only[IY]
 cases he:eqB s.bH.cZ 999999
 .have he:=zy62 he
  have hk:=NH (k:=s.bH.eV) (r:=Hi s.bH.ID (s.bH.cZ+1)) (q:=s.bH.cZ+1) oaa oaa
  refine⟨{h.sp with rcd:=?_,k2:=λ_=>?_,ps:=⟨by grind,by grind⟩},h.b1,h.b2,h.mo⟩
  .have hc:=h.sp.rcd
   simp only[zy92,hV] at hc
   simp only[cond_false,zy92,hV]
   exact⟨hc.1,hc.2.1,bE.2 oaa⟩
  exact bE.2 hk
 exact h
theorem zy325(h:SG s a){c:Int}(hc:0<=c/\c<=5)(hp:0<s.bG)(he:s.bi<999999):SG (zy247 s c) a:=by
 have hk:=h.sp.k2 hp
 have hkr:=bE.1 hk
 have hep:=h.sp.ep
 exact⟨{h.sp with page:=zy318,st:=⟨by simp[zy247],by simp[zy247]⟩,k1:=λ_=>hk,k2:=λe=>by simp[zy247] at e,ps:=⟨by simp[zy247],by simp[zy247]⟩,gn:=h.sp.ps,ep:=⟨by simp only[zy247];omega,by simp only[zy247];omega⟩,rk:=⟨by simp only[zy247];omega,by simp only[zy247];omega⟩,ce:=hc,qu:=⟨by simp[zy247],by simp[zy247]⟩},h.b1,h.b2,h.mo⟩
theorem zy326(h:SG s a){m:aM}(hm:zy193 m=ζ):SG (zy248 s m).a8 a:=by
 obtain⟨_,hc,_⟩:=zy307 hm
 rw[zy248]
 cases hb:leB s.bG 0||(!eqB m.ag s.bG||(!eqB m.bX s.aO.wy||leB 999999 s.bi))
 .simp only[Z2] at hb
  exact zy325 h hc (yp hb.1) (yp hb.2.2.2)
 exact h
theorem Tm(h:SG s a){m:aM}(hm:zy193 m=ζ):SG (zy249 s m).a8 a:=by
 obtain⟨_,hc,_,he,_⟩:=zy307 hm
 rw[zy249]
 cases !s9 s m||(ltB m.bi s.bi||(eqB m.bi s.bi&&!eqB m.bv s.bv))
 .exact⟨{h.sp with page:=zy318,ep:=he,ce:=hc,qu:=⟨by simp[xv],by simp[xv]⟩,zy48:=⟨by simp[xv],by simp[xv]⟩},h.b1,h.b2,h.mo⟩
 exact h
theorem zy327(h:SG s a)(m:aM):SG (IX s m).a8 a:=by
 rw[IX]
 cases !s9 s m||ltB s.ax.bC m.bX
 .exact(zy323 h m.bX).1
 exact h
theorem YY(h:SG s a)(m:aM):SG (sUp s m).a8 a:=by
 rw[sUp]
 cases hm:zy193 m
 .exact h
 cases eqB m.bk 1
 .cases eqB m.bk 3
  .cases eqB m.bk 5
   .cases eqB m.bk 8
    .exact h
    exact zy327 h m
   exact Tm h hm
  exact zy326 h hm
 exact zy324 h m
theorem Th(h:SG s a):SG (zy250 s) a:=
 ⟨{h.sp with page:=zy318,k2:=λe=>by simp[zy250] at e,ps:=⟨by simp[zy250],by simp[zy250]⟩,qu:=⟨by simp[zy250],by simp[zy250]⟩,zy48:=⟨by simp[zy250],by simp[zy250]⟩},h.b1,h.b2,h.mo⟩
theorem zy328(h:SG s a){b:List Int}(hb:okB b):SG (zy246 s b).1 a:=by
 rw[zy246]
 cases h1:leB 24 (s.av.length:Int)||ltB 60 (b.length:Int)
 .simp only[Z2] at h1
  have h2:=yp h1.1
  have h3:=zy60 h1.2
  have hnx:=h.sp.nx
  refine⟨{h.sp with ok:=⟨h.sp.ok.1,⟨by simp;omega,λp hp=>?_⟩,h.sp.ok.2.2⟩,sl:=by simp;omega,sd:=λp hp=>?_,nx:=by simp;omega,un:=λx hx=>?_},λp hp=>?_,h.b2,h.mo⟩
  .rcases ZO.1 hp with hp|hp
   .exact h.sp.ok.2.1.2 p hp
   simp at hp;subst hp;exact⟨by grind,λ_ _=>trivial⟩
  .rcases ZO.1 hp with hp|hp
   .exact h.sp.sd p hp
   grind
  .have hu:=h.sp.un x hx
   have hs:=zy281 h.sp.win hx
   simp only[zy116,cond_false] at hu ⊢
   rw[ZU oaa]
   exact hu
  rcases ZO.1 hp with hp|hp
  .exact h.b1 p hp
  simp_all
 exact h
theorem zy329{p:cP}(ha:0<=p.gB/\p.gB<=2)(hp:POK p)(m:aV):zy94 (zy289 p m).1=true:=by
 have h1:=hp.a
 have h2:=hp.w
 rw[zy289]
 simp only[zy94,hV,bE]
 cases hb:ltB 0 p.gE
 .simp only[cond_false]
  refine⟨ha,?_,by omega⟩
  cases hc:ltB p.eS 4
  .simp
  have:=zy59 hc
  grind
 have:=zy59 hb
 grind
theorem zy330{p:cP}(h:zy94 p=ζ):POK p:=by
 simp only[zy94,hV,bE] at h;exact⟨h.2.1,h.2.2⟩
theorem zy331(h:zy142 m=ζ)(c:Int):0<=zy290 m c/\zy290 m c<=2:=by
 rw[zy290]
 cases hc:zy138 m c
 .simp
 obtain⟨d,_,_,h2⟩:=zy143 hc
 simp only[zy142,hV,zy78] at h
 have:=h.2 _ d h2
 simp only[zy141,hV,bE] at this
 simp_all
theorem CJ(h:SG s a)(hm:zy142 m=ζ):SG (zy300 s a m).a8 (zy300 s a m).eo:=by
 rw[zy300]
 cases eqB s.bB 1
 .exact h
 simp only[au]
 have hq:=yB h.sp
 cases ltB 4 (zy297 s)
 .exact I8 2 _ _ _ (h.upd hq (zy301 h.sp))
 have h1:=h.upd hq h.sp.zy48
 have hp:=zy330 h.sp.page
 exact⟨{h1.sp with page:=zy329 (p:={s.jw with gB:=zy290 m s.bv}) (zy331 hm _) ⟨hp.a,hp.w⟩ m},h1.b1,h1.b2,h1.mo⟩
structure FP(nd nc:Nat)(f:bT):Prop where
 d:0<=f.bA/\f.bA<nd
 c:0<=f.bv/\f.bv<nc
 b:okB f.cz.bz.bb
 ok:zy75 f
structure MP(nc:Nat)(i:Nat)(d:aC)(s:ah)(a:am):Prop where
 dp:DP d
 dc:d.bv<nc
 sg:SG s a
 sc:s.bv<nc
 si:s.bV.aA=i
 ids:zy144 d s=ζ
structure NP(B:Int)(n:ab):Prop where
 map:zy142 n.dV=ζ
 mok:zy65 n.dV
 core:kE n.d8=ζ
 up:n.d8.eG≠0
 ld:n.aj.length<=4
 ls:n.an.length=n.aj.length
 la:n.aU.length=n.aj.length
 m:∀(i:Nat) d s a,n.aj[i]?=ς d->n.an[i]?=ς s->n.aU[i]?=ς a->MP n.dV.bp.length i d s a
 fl:n.aZ.length<=200
 fs:∀f∈n.aZ,FP n.aj.length n.dV.bp.length f
 dn:inR n.cX 0 (WR ((lO .i64 1 (n.dV.bp.length:Int))-1))=ζ
 nw:0<=n.oG/\n.oG<=100000
 lo:0<=n.jM/\n.jM<=B
theorem mj(h:zy142 m=ζ):1<=m.bp.length/\m.bp.length<=6:=by
 simp only[zy142,hV,bE] at h;omega
theorem NP.at_(h:NP B n){i:Nat}(hi:i<n.aj.length):∃d s a,n.aj[i]?=ς d/\n.an[i]?=ς s/\n.aU[i]?=ς a/\MP n.dV.bp.length i d s a:=by
 have h1:=h.ls
 have h2:=h.la
 obtain⟨d,hd⟩:∃d,n.aj[i]?=ς d:=⟨_,ZM hi⟩
 obtain⟨s,hs⟩:∃s,n.an[i]?=ς s:=⟨_,ZM (show i<n.an.length by omega)⟩
 obtain⟨a,ha⟩:∃a,n.aU[i]?=ς a:=⟨_,ZM (show i<n.aU.length by omega)⟩
 exact⟨d,s,a,hd,hs,ha,h.m i d s a hd hs ha⟩
theorem NP.mono{B':Int}(h:NP B n)(hb:B<=B'):NP B' n:={h with lo:=⟨h.lo.1,by have:=h.lo.2;omega⟩}
def zy332(n:ab)(f:bT):ab:=bif leB 200 (n.aZ.length:Int) then {n with jM:=WR (n.jM+1)} else {n with aZ:=n.aZ++[f]}
theorem zy333(hf:zy75 f):gz n f=ς (zy332 n f):=by
 simp only[gz,zy153 hf,abJ,zy332]
 cases hb:leB 200 (n.aZ.length:Int)
 .have:=yp hb
  rw[zy53 oaa (by simp;omega)];rfl
 rfl
theorem zy334(h:NP B n)(hf:FP n.aj.length n.dV.bp.length f)(hB:B<4611686018427387904):NP (B+1) (zy332 n f):=by
 have hl:=h.lo
 rw[zy332]
 cases hb:leB 200 (n.aZ.length:Int)
 .have hb:=yp hb
  refine {h.mono (show B<=B+1 by omega) with fl:=by simp;omega,fs:=λg hg=>?_}
  rcases ZO.1 hg with hg|hg
  .exact h.fs g hg
  simp_all
 exact {h.mono (show B<=B+1 by omega) with lo:=by simp only[cond_true];rw[zy46 oaa];omega}
theorem zy335(n:ab)(f:bT):(zy332 n f).aj=n.aj/\(zy332 n f).an=n.an/\(zy332 n f).aU=n.aU/\(zy332 n f).dV=n.dV/\(zy332 n f).cX=n.cX/\(zy332 n f).d8=n.d8/\(zy332 n f).oG=n.oG:=by
 rw[zy332];grind
def sends(n:ab)(l:List bT):ab:=l.foldl zy332 n
theorem i6:∀(l:List bT) (n:ab),(sends n l).aj=n.aj/\(sends n l).an=n.an/\(sends n l).aU=n.aU/\(sends n l).dV=n.dV/\(sends n l).cX=n.cX/\(sends n l).d8=n.d8/\(sends n l).oG=n.oG
 |[],n=>⟨rfl,rfl,rfl,rfl,rfl,rfl,rfl⟩
 |f::l,n=>by
  have h1:=zy335 n f
  have h2:=i6 l (zy332 n f)
  have e:sends n (f::l)=sends (zy332 n f) l:=rfl
  simp_all
theorem zy336:∀(l:List bT) {B:Int} {n:ab},NP B n->(∀f∈l,FP n.aj.length n.dV.bp.length f)->B+l.length<4611686018427387904->NP (B+l.length) (sends n l)
 |[],B,n,h,_,_=>by simpa [sends] using h
 |f::l,B,n,h,hf,hB=>by
  simp only[Z5] at hB ⊢
  have h1:=zy334 h (hf f (by simp)) oaa
  have hk:=zy335 n f
  have:=zy336 l h1 (λg hg=>by simp_all) oaa
  rw[show B+((l.length+1:Nat):Int)=B+1+(l.length:Int) by omega]
  exact this
theorem zy337(g:ab->bT->Option ab){α:Type}(mk:α->bT)(hg:∀n x,g n (mk x)=ς (zy332 n (mk x))):∀(l:List α) (n:ab),kP (λ(n:ab) x=>abG (g n (mk x)) λr=>ς (ct.next (ρ:=ab) r)) ς l n=ς (sends n (l.map mk))
 |[],n=>rfl
 |x::l,n=>by rw[kP,hg];exact zy337 g mk hg l _
def zy338(i:Int)(up:Bool)(m:aM):bT:=⟨i,up,η,m.bv,m,fj⟩
def zy339(i c:Int)(x:aD):bT:=⟨i,η,ζ,c,iJ,x⟩
theorem GV:zy74 fj:=⟨by decide,λ_ _=>trivial⟩
theorem GB(i:Int)(up:Bool)(m:aM):zy75 (zy338 i up m):=GV
theorem K2(n:ab)(i:Int)(up:Bool){l:List aM}(hl:l.length<=1048576):jZ n i up l=ς (sends n (l.map (zy338 i up))):=by
 have:=zy45 (step:=ka i up l) l (λk n=>((k:Int),n)) (λn x=>abG (gz n (zy338 i up x)) λr=>ς (.next r)) ς oaa
  (λk x n hx hk=>by
   simp only[ka,cE hk,bh,hx,WRs (k:=k),zy338,au]
   simp_all) (λn=>by simp[ka]) n
 rw[zy337 gz (zy338 i up) (λn x=>zy333 (GB i up x))] at this
 rw[jZ,show iter (ka i up l) FU (0,n)=_ from this];rfl
def zy340(n:ab)(i:Nat)(r:bj):ab:=sends {n with aj:=n.aj.set i r.bA} (r.dF.map (zy338 i ζ))
theorem zy341{i:Nat}(hi:i<n.aj.length){r:bj}(hr:r.dF.length<=1048576):ic n (i:Int) r=ς (zy340 n i r):=by
 simp only[ic,bh,ZM hi,abJ,abL,K2 _ _ _ hr,zy340]
theorem zy342{nd nc:Nat}{i:Nat}(hi:i<nd){up:Bool}{m:aM}(hm:0<=m.bv/\m.bv<nc):FP nd nc (zy338 i up m):=
 ⟨by simp only[zy338];omega,hm,λx hx=>by simp[zy338,fj,kC] at hx,GB _ _ _⟩
theorem nM{xs:List α}{i j:Nat}{x y:α}(h:(xs.set i x)[j]?=ς y):(i=j/\x=y)\/(i≠j/\xs[j]?=ς y):=by
 grind
theorem NP.setM(h:NP B n){i:Nat}{d:aC}(hm:MP n.dV.bp.length i d s a):
 NP B {n with aj:=n.aj.set i d,an:=n.an.set i s,aU:=n.aU.set i a}:=by
 have h1:=h.ls
 have h2:=h.la
 refine {h with ld:=by simpa using h.ld,ls:=by simp_all,la:=by simp_all,m:=λj d' s' a' hd hs ha=>?_,fs:=λf hf=>by rw[List.length_set];exact h.fs f hf}
 rcases nM hd with⟨zy19,e2⟩|⟨zy19,e2⟩<;>rcases nM hs with⟨e3,e4⟩|⟨e3,e4⟩<;>rcases nM ha with⟨e5,e6⟩|⟨e5,e6⟩<;>first|omega|skip
 .simp_all
 exact h.m j d' s' a' e2 e4 e6
theorem zy343{xs:List α}{i:Nat}{x:α}(h:xs[i]?=ς x):xs.set i x=xs:=by
 apply abW
 grind
theorem NP.setD(h:NP B n){i:Nat}{d:aC}(hs:n.an[i]?=ς s)(ha:n.aU[i]?=ς a)(hm:MP n.dV.bp.length i d s a):NP B {n with aj:=n.aj.set i d}:=by
 have:=h.setM hm
 rwa [zy343 hs,zy343 ha] at this
theorem NP.setS(h:NP B n){i:Nat}{d:aC}(hd:n.aj[i]?=ς d)(ha:n.aU[i]?=ς a)(hm:MP n.dV.bp.length i d s a):NP B {n with an:=n.an.set i s}:=by
 have:=h.setM hm
 rwa [zy343 hd,zy343 ha] at this
structure DK(c:Int)(d:aC)(r:bj):Prop where
 id:r.bA.dx.ID=d.dx.ID
 key:r.bA.dx.eV=d.dx.eV
 cell:r.bA.bv=c
 sg:∀m∈r.dF,m.bv=c
 len:r.dF.length<=1
theorem DK.none(d:aC):DK d.bv d ⟨d,[]⟩:=⟨rfl,rfl,rfl,by simp,by simp⟩
theorem U4(d:aC):DK d.bv d (xe d):=⟨rfl,rfl,rfl,by simp[xe,zy213,zy189],by simp[xe]⟩
theorem Hq{d d':aC}(h:d'.dx=d.dx):DK d'.bv d (xe d'):=⟨by rw[<-h];rfl,by rw[<-h];rfl,rfl,by simp[xe,zy213,zy189],by simp[xe]⟩
theorem uP(d:aC):DK d.bv d (zy214 d):=by
 rw[zy214]
 cases ltB 0 d.gE<;>cases eqB d.bB 1<;>cases eqB d.bB 2&&!d.dr<;>exact⟨rfl,rfl,rfl,by simp[vJ,zy213,zy189],by simp⟩
theorem zy344(d:aC):DK d.bv d (dOn d):=by
 rw[dOn];cases eqB d.bB 0<;>exact⟨rfl,rfl,rfl,by simp[vJ],by simp⟩
theorem zy345(d:aC)(m:aM):DK d.bv d (zy215 d m):=by
 rw[zy215]
 cases !zy193 m||(!eqB m.bv d.bv||eqB d.bB 0)
 .simp only[cond_false]
  cases eqB m.bk 2&&eqB d.bB 1
  .simp only[cond_false]
   cases eqB m.bk 4&&(eqB d.bB 1&&(zy85 d.aY&&(eqB m.ag d.ag&&zy190 d.aY m)))
   .simp only[cond_false]
    cases eqB m.bk 6&&(eqB d.bB 2&&(eqB m.ag d.ag&&(eqB m.bi d.bi&&zy190 d.aY m)))
    .simp only[cond_false]
     cases eqB m.bk 7&&(eqB d.bB 3&&ltB d.bi 999999)
     .simp only[cond_false]
      cases eqB m.bk 7&&eqB d.bB 2
      .exact .none d
      exact U4 d
     exact Hq (d:=d) (d':={d with bB:=2,bi:=d.bi+1}) rfl
    exact⟨rfl,rfl,rfl,by simp,by simp⟩
   exact⟨rfl,rfl,rfl,by simp,by simp⟩
  simp only[cond_true,Hr]
  cases eqB (zy200 d.dx.eV d.dx.dJ m.bY) 0<;>exact⟨rfl,rfl,rfl,by simp,by simp⟩
 exact .none d
theorem LV(d:aC)(x:aD):DK d.bv d (Bz d x):=by
 simp only[Bz]
 cases eqB d.bB 2&&(zy186 d.aY d.ag d.bi x).2
 .exact .none d
 exact⟨rfl,rfl,rfl,by simp[dAck,zy189],by simp⟩
theorem zy346(d:aC)(c:Int):DK d.bv d (uv d c)\/(0<=c/\c<=5)/\DK c d (uv d c):=by
 rw[uv]
 cases h:eqB c d.bv||!inR c 0 5
 .simp only[Z2,abQ] at h
  right;refine⟨bE.1 h.2,?_⟩
  simp only[cond_false]
  cases eqB d.bB 2&&ltB d.bi 999999
  .exact⟨rfl,rfl,rfl,by simp,by simp⟩
  exact Hq (d:=d) (d':={d with bv:=c,bi:=d.bi+1}) rfl
 exact .inl (.none d)
structure SK(c:Int)(s:ah)(r:bU):Prop where
 id:r.a8.bH.ID=s.bH.ID
 key:r.a8.bH.eV=s.bH.eV
 si:r.a8.bV.aA=s.bV.aA
 cell:r.a8.bv=s.bv\/r.a8.bv=c
 sg:∀m∈r.dF,m.bv=c
 len:r.dF.length<=1
 sub:r.a8.av=s.av
theorem SK.none(c:Int)(s:ah):SK c s ⟨s,[]⟩:=⟨rfl,rfl,rfl,.inl rfl,by simp,by simp,rfl⟩
theorem Ts(s:ah)(m:aM):SK m.bv s (sUp s m):=by
 rw[sUp]
 cases zy193 m
 .exact .none _ s
 simp only[au]
 cases eqB m.bk 1
 .simp only[cond_false]
  cases eqB m.bk 3
  .simp only[cond_false]
   cases eqB m.bk 5
   .simp only[cond_false]
    cases eqB m.bk 8
    .exact .none _ s
    simp only[cond_true,IX]
    cases !s9 s m||ltB s.ax.bC m.bX
    .refine⟨rfl,rfl,?_,.inl rfl,by simp,by simp,rfl⟩
     simp only[cond_false,mr,vI]
     grind
    exact .none _ s
   simp only[cond_true,zy249]
   cases !s9 s m||(ltB m.bi s.bi||(eqB m.bi s.bi&&!eqB m.bv s.bv))
   .exact⟨rfl,rfl,rfl,.inr rfl,by simp[wc,zy189,xv],by simp,rfl⟩
   exact .none _ s
  simp only[cond_true,zy248]
  cases leB s.bG 0||(!eqB m.ag s.bG||(!eqB m.bX s.aO.wy||leB 999999 s.bi))
  .exact⟨rfl,rfl,rfl,.inr rfl,by simp[wc,zy189,zy247],by simp,rfl⟩
  exact .none _ s
 simp only[cond_true,IY]
 cases eqB s.bH.cZ 999999
 .exact⟨rfl,rfl,rfl,.inl rfl,by simp,by simp,rfl⟩
 exact .none _ s
theorem MP.dev{nc i:Nat}{d:aC}(h:MP nc i d s a){c:Int}{r:bj}(hk:DK c d r)(hd:DP r.bA)(hc:c<nc):MP nc i r.bA s a:=by
 refine⟨hd,by rw[hk.cell];exact hc,h.sg,h.sc,h.si,?_⟩
 have:=h.ids
 simp only[zy144,hk.id,hk.key] at this ⊢;exact this
theorem MP.ses{nc i:Nat}{d:aC}(h:MP nc i d s a){c:Int}{r:bU}(hk:SK c s r)(hs:SG r.a8 a)(hc:c<nc):MP nc i d r.a8 a:=by
 refine⟨h.dp,h.dc,hs,?_,by rw[hk.si];exact h.si,?_⟩
 .rcases hk.cell with e|e<;>rw[e]
  .exact h.sc
  exact hc
 have:=h.ids
 simp only[zy144,hk.id,hk.key] at this ⊢;exact this
theorem ku(h:NP B n){i:Nat}{d:aC}(hd:n.aj[i]?=ς d){c:Int}{r:bj}(hk:DK c d r)(hr:DP r.bA)(hc:c<n.dV.bp.length)(hB:B+1<4611686018427387904):NP (B+1) (zy340 n i r):=by
 have hi:=(v0.1 hd).1
 obtain⟨d',s,a,h1,h2,h3,hm⟩:=h.at_ hi
 rw[hd] at h1;cases h1
 have hn:=h.setD h2 h3 (hm.dev hk hr hc)
 have hl:=hk.len
 have:=zy336 (r.dF.map (zy338 i ζ)) hn (λf hf=>by
  obtain⟨m,hm',rfl⟩:=aaA.1 hf
  rw[show({n with aj:=n.aj.set i r.bA}:ab).aj.length=n.aj.length by simp]
  refine zy342 hi ?_
  rw[hk.sg m hm',<-hk.cell];exact⟨hr.ce.1,by rw[hk.cell];exact hc⟩) (by simp;omega)
 exact this.mono (by simp;omega)
def zy347(n:ab)(i:Nat)(r:bU):ab:=sends {n with an:=n.an.set i r.a8} (r.dF.map (zy338 i η))
theorem zy348(h:NP B n){i:Nat}(hs:n.an[i]?=ς s){c:Int}{r:bU}(hk:SK c s r)(hr:∀a,SG s a->SG r.a8 a)(hc:0<=c/\c<n.dV.bp.length)(hB:B+1<4611686018427387904):NP (B+1) (zy347 n i r):=by
 have hi:=(v0.1 hs).1
 have hls:=h.ls
 obtain⟨d,s',a,h1,h2,h3,hm⟩:=h.at_ (show i<n.aj.length by omega)
 rw[hs] at h2;cases h2
 have hn:=h.setS h1 h3 (hm.ses hk (hr a hm.sg) hc.2)
 have hl:=hk.len
 have:=zy336 (r.dF.map (zy338 i η)) hn (λf hf=>by
  obtain⟨m,hm',rfl⟩:=aaA.1 hf
  refine zy342 (show i<n.aj.length by omega) ?_
  rw[hk.sg m hm'];exact hc) (by simp;omega)
 exact this.mono (by simp;omega)
def kK(n:ab)(k:Nat):ab:={n with aZ:=n.aZ.take k++n.aZ.drop (k+1)}
theorem zy349(h:NP B n)(k:Nat):NP B (kK n k):=by
 have:=h.fl
 refine {h with fl:=by simp[kK];omega,fs:=λf hf=>?_}
 have:f∈n.aZ:=by
  simp only[kK,ZO] at hf
  rcases hf with hf|hf
  .grind
  grind
 exact h.fs f this
theorem Ny(hl:n.aZ.length<=200)(hf:n.aZ[k]?=ς f):vp n (k:Int)=ς (f,kK n k):=by
 have hk:=(v0.1 hf).1
 have a1:fH n.aZ 0 (k:Int)=true:=by simp[fH];omega
 have a2:fH n.aZ ((k+1:Nat):Int) (n.aZ.length:Int)=true:=by simp[fH];omega
 have a3:cW 176 (n.aZ.take k).length=true:=zy53 oaa (by simp;omega)
 have a4:cW 176 (n.aZ.take k++n.aZ.drop (k+1)).length=true:=zy53 oaa (by simp;omega)
 simp only[vp,bh,hf,a1,WRs (k:=k),a2,aaC,abL,a3,a4,kK,au]
def zy350(n:ab)(c:Int):Bool:=zy138 n.dV c&&eqB (zo .i64 (E9 .i64 n.cX c) 1) 0
theorem zy351(hm:1<=n.dV.bp.length/\n.dV.bp.length<=6)(c:Int):th n c=ς (zy350 n c):=by
 have hmin:ol (n.dV.bp.length:Int) 6=(n.dV.bp.length:Int):=by unfold ol;split<;>omega
 simp only[th,Il,hmin,zy83,abJ,zy46 (n:=(n.dV.bp.length:Int)-1) oaa,zy350]
 rw[show inR c 0 ((n.dV.bp.length:Int)-1)=zy138 n.dV c from rfl]
 cases hc:zy138 n.dV c
 .rfl
 have:=bE.1 (show inR c 0 ((n.dV.bp.length:Int)-1)=ζ from hc)
 rw[leB_t.2 this.1];rfl
def zy352(n:ab):ab:={n with jM:=WR (n.jM+1)}
theorem zy353(h:NP B n)(hB:B<4611686018427387904):NP (B+1) (zy352 n):=by
 have hl:=h.lo
 exact {h.mono (show B<=B+1 by omega) with lo:=by simp only[zy352];rw[zy46 oaa];omega}
def zy354(n:ab)(k:Nat):ab:=match n.aZ[k]? with
 |none=>n
 |some f=>
  let n1:=kK n k
  let i:=f.bA.toNat
  bif !zy350 n1 f.bv then zy352 n1 else
  bif f.eH then(bif f.dL||!eqB f.bw.bv f.bv then n1 else match n1.an[i]? with
   |none=>n1
   |some s=>zy347 n1 i (sUp s f.bw))
  else match n1.aj[i]? with
   |none=>n1
   |some d=>bif !eqB d.bv f.bv then zy352 n1 else zy340 n1 i (bif f.dL then Bz d f.cz else zy215 d f.bw)
theorem zy355(h:NP B n)(k:Nat)(hB:B+1<4611686018427387904):NP (B+1) (zy354 n k):=by
 rw[zy354]
 cases hf:n.aZ[k]? with
 |none=>exact h.mono oaa
 |some f=>
  have hp:=h.fs f (ZL hf)
  have h1:=zy349 h k
  simp only
  cases zy350 (kK n k) f.bv
  .exact zy353 h1 oaa
  simp only[au]
  cases f.eH
  .simp only[cond_false]
   cases hd:(kK n k).aj[f.bA.toNat]? with
   |none=>exact h1.mono oaa
   |some d=>
    have hdi:=(v0.1 hd).1
    obtain⟨d',s,a,zy19,e2,e3,hm⟩:=h1.at_ hdi
    rw[hd] at zy19;cases zy19
    simp only
    cases eqB d.bv f.bv
    .exact zy353 h1 oaa
    simp only[au]
    cases f.dL
    .exact ku h1 hd (zy345 d f.bw) (zy309 hm.dp _) hm.dc hB
    exact ku h1 hd (LV d f.cz) (zy317 hm.dp _) hm.dc hB
  simp only[cond_true]
  cases he:f.dL||!eqB f.bw.bv f.bv
  .simp only[cond_false]
   simp only[Z2,abQ] at he
   have he:=zy61 he.2
   cases hs:(kK n k).an[f.bA.toNat]? with
   |none=>exact h1.mono oaa
   |some s=>exact zy348 h1 hs (Ts s f.bw) (λa ha=>YY ha _) (by rw[he];exact hp.c) hB
  exact h1.mono oaa
theorem zy356(i:Int)(h:0<=i):i=(i.toNat:Int):=by omega
theorem N7(h:NP B n)(hk:k<n.aZ.length):rQ n (k:Int)=ς (zy354 n k):=by
 obtain⟨f,hf⟩:∃f,n.aZ[k]?=ς f:=⟨_,ZM hk⟩
 have hp:=h.fs f (ZL hf)
 have h1:=zy349 h k
 have hls:=h1.ls
 have hdd:=hp.d
 obtain⟨d,s,a,zy19,e2,e3,hm⟩:=h1.at_ (show f.bA.toNat<(kK n k).aj.length by simp only[kK];omega)
 have hdev:=zy356 f.bA hdd.1
 have hix:ix (kK n k).an f.bA=ς s:=by rw[hdev,bh];exact e2
 have hixd:ix (kK n k).aj f.bA=ς d:=by rw[hdev,bh];exact zy19
 have hdl:=(v0.1 zy19).1
 have hp1:ic (kK n k) f.bA (Bz d f.cz)=ς (zy340 (kK n k) f.bA.toNat (Bz d f.cz)):=by
  rw[hdev];exact zy341 oaa (by have:=(LV d f.cz).len;omega)
 have hp2:ic (kK n k) f.bA (zy215 d f.bw)=ς (zy340 (kK n k) f.bA.toNat (zy215 d f.bw)):=by
  rw[hdev];exact zy341 oaa (by have:=(zy345 d f.bw).len;omega)
 have hp3:∀n',jZ n' f.bA η (sUp s f.bw).dF=ς (sends n' ((sUp s f.bw).dF.map (zy338 (f.bA.toNat:Int) η))):=λn'=>by
  rw[<-hdev];exact K2 _ _ _ (by have:=(Ts s f.bw).len;omega)
 simp only[rQ,Ny h.fl hf,zy351 (mj h1.map),hix,hixd,up_s hm.sg.sp,rad_s hm.dp.ok (show W7 f.cz from hp.b),sig_s hm.dp.ok hm.dp.card hm.dp.ep,hp1,hp2,hp3,abJ,zy354,hf,zy19,e2,zy347,zy352]
 grind
theorem zy357(n:ab)(i:Nat)(r:bj):(zy340 n i r).aj.length=n.aj.length/\(zy340 n i r).dV=n.dV/\(zy340 n i r).an=n.an/\(zy340 n i r).aU=n.aU/\(zy340 n i r).oG=n.oG:=by
 have:=i6 (r.dF.map (zy338 i ζ)) {n with aj:=n.aj.set i r.bA}
 rw[zy340,this.1,this.2.1,this.2.2.1,this.2.2.2.1,this.2.2.2.2.2.2];simp
def zy358:Nat->Nat->ab->ab
 |0,_,n=>n
 |c+1,i,n=>match n.aj[i]? with
  |none=>n
  |some d=>zy358 c (i+1) (zy340 n i (zy214 d))
theorem zy359{L:Int×ab->Option (ct (Int×ab) ab)}(N:Nat)(hN:N<=4)(hL:∀(i:Nat) (n:ab),n.aj.length=N->(i<N->∀d,n.aj[i]?=ς d->DP d->L ((i:Int),n)=ς (.next (((i+1:Nat):Int),zy340 n i (zy214 d))))/\(N<=i->L ((i:Int),n)=ς (.done n))):
 ∀(c i:Nat) {B:Int} (n:ab) (fu:Nat),NP B n->i+c=N->n.aj.length=N->c<fu->B+c<4611686018427387904->iter L fu ((i:Int),n)=ς (zy358 c i n)/\NP (B+c) (zy358 c i n)/\(zy358 c i n).aj.length=N/\(zy358 c i n).dV=n.dV
 |0,i,B,n,fu,h,h1,h2,h3,hB=>by
  cases fu with
  |zero=>omega
  |succ fu=>
   rw[iter,(hL i n h2).2 oaa]
   exact⟨rfl,by simpa [zy358] using h,h2,rfl⟩
 |c+1,i,B,n,fu,h,h1,h2,h3,hB=>by
  cases fu with
  |zero=>omega
  |succ fu=>
   obtain⟨d,s,a,zy19,e2,e3,hm⟩:=h.at_ (show i<n.aj.length by omega)
   have hp:=ku h zy19 (uP d) (ya hm.dp) hm.dc oaa
   have hk:=zy357 n i (zy214 d)
   rw[iter,(hL i n h2).1 oaa d zy19 hm.dp,zy358,zy19]
   simp only
   have ih:=zy359 N hN hL c (i+1) (zy340 n i (zy214 d)) fu hp oaa oaa oaa oaa
   grind
def zy360(x:aD):Prop:=okB x.bz.bb/\x.bz.bb.length<=60
theorem xB(k g e:Int)(h:x.bb.length<=60):zy360 (zy184 k g e x):=⟨zy179 _ _,by simp[zy184,zy183];exact h⟩
theorem G5(h:WOK s.ax):∀x∈zy280 s,zy360 x:=by
 rw[zy280];cases eqB s.bB 1
 .simp
 intro x hx
 obtain⟨y,hy,rfl⟩:=aaA.1 hx
 exact xB _ _ _ (h.d y (List.mem_of_mem_take hy))
theorem zy361(s:ah)(a:am)(n:Int):(zy269 s a n).1.bV.aA=s.bV.aA:=by rw[zy269];cases leB (ml s n) 0<;>rfl
theorem zy362:∀(k:Nat) (s:ah) (a:am) (r:List aD),SG s a->(∀x∈r,zy360 x)->
 (iI k s a r).1.bH=s.bH/\(iI k s a r).1.bv=s.bv/\(iI k s a r).1.bV.aA=s.bV.aA/\(iI k s a r).1.av=s.av/\∀x∈(iI k s a r).2.2,zy360 x
 |0,s,a,r,h,hr=>⟨rfl,rfl,rfl,rfl,hr⟩
 |k+1,s,a,r,h,hr=>by
  rw[iI]
  cases e:rr s with
  |none=>simp_all
  |some x=>
   obtain⟨hm,hx,_,hn,hl,hb⟩:=zy273 h.sp e
   have he:=zy274 h (n:=(x.bb.length:Int)) oaa
   obtain⟨q,hk⟩:=zy276 s a (x.bb.length:Int)
   have hid:=zy361 s a (x.bb.length:Int)
   simp only
   cases hq:ltB 0 (ml (zy269 s a (x.bb.length:Int)).1 (x.bb.length:Int))
   .simp only[cond_false]
    have ih:=zy362 k {(zy269 s a (x.bb.length:Int)).1 with ax:=oP (zy269 s a (x.bb.length:Int)).1.ax x.bb} (zy269 s a (x.bb.length:Int)).2
     (r++[zy184 (zy269 s a (x.bb.length:Int)).1.aY (zy269 s a (x.bb.length:Int)).1.ag (zy269 s a (x.bb.length:Int)).1.bi ⟨(zy269 s a (x.bb.length:Int)).1.ax.bC,x.bb⟩])
     (zy275 he (by rw[hk];exact e) hq) (λy hy=>by
      rcases ZO.1 hy with hy|hy
      .exact hr y hy
      simp at hy;subst hy;exact xB _ _ _ hb)
    simp_all
   simp_all
theorem zy363{a t:Int}:∀c∈zy285 m a t,0<=c/\c<m.bp.length:=by
 intro c hc
 have h1:∀c∈zy283 m a,0<=c/\c<m.bp.length:=λc hc=>by
  obtain⟨y,hy,rfl⟩:=aaA.1 hc
  grind
 have h2:∀c∈zy284 m,0<=c/\c<m.bp.length:=λc hc=>by
  obtain⟨k,hk,rfl⟩:=aaA.1 hc
  simp_all
 rw[zy285] at hc;grind
structure TK(nc:Nat)(s:ah)(a:am)(t:b8):Prop where
 rcd:t.a8.bH=s.bH
 cell:t.a8.bv=s.bv
 si:t.a8.bV.aA=s.bV.aA
 sub:t.a8.av=s.av
 pg:∀m∈t.lF,0<=m.bv/\m.bv<nc
 pl:t.lF.length<=1000
 rd:∀x∈t.cz,zy360 x
 rl:t.cz.length<=4
theorem zy364(h:SG s a)(hm:m.bp.length<=1000):TK m.bp.length s a (zy300 s a m):=by
 rw[zy300]
 cases eqB s.bB 1
 .exact⟨rfl,rfl,rfl,rfl,by simp,by simp,by simp,by simp⟩
 simp only[au]
 have hg:=BQ h
 have hq:=yB h.sp
 cases ltB 4 (zy297 s)
 .simp only[cond_false,zy299]
  have hk:=zy362 2 _ _ [] (h.upd hq (zy301 h.sp)) (by simp)
  have hl:=zy302 2 {s with d9:=zy297 s,d6:=(zy298 s).2,bV:=(zy295 s a).2} (zy295 s a).1 []
  have hr:=Eu s
  refine⟨hk.1,hk.2.1,hk.2.2.1.trans hg.2.2.1,hk.2.2.2.1,by simp,by simp,λx hx=>?_,by grind⟩
  rcases ZO.1 hx with hx|hx
  .rw[zy298] at hx;revert hx
   cases zy296 s
   .simp
   cases ltB 0 s.d6
   .exact G5 h.sp.win x
   simp
  simp_all
 simp only[cond_true,I2]
 refine⟨rfl,rfl,hg.2.2.1,rfl,λx hx=>?_,by have:=zy293 (p:={s.jw with gB:=zy290 m s.bv}) hm;simp_all,by simp,by simp⟩
 obtain⟨c,hc,rfl⟩:=aaA.1 hx
 simp only[zy291]
 rw[zy289] at hc;revert hc
 cases ltB 0 s.jw.gE
 .exact zy363 c
 simp
def zy365(n:ab)(i:Nat)(t:b8):ab:=
 sends (sends {n with an:=n.an.set i t.a8,aU:=n.aU.set i t.eo} (t.lF.map (zy338 i η))) (t.cz.map (zy339 i t.a8.bv))
theorem zy366{nd nc i:Nat}(hi:i<nd){c:Int}(hc:0<=c/\c<nc){x:aD}(hx:zy360 x):FP nd nc (zy339 i c x):=
 ⟨by simp only[zy339];omega,hc,hx.1,⟨by have:=hx.2;simp only[zy339];omega,λ_ _=>trivial⟩⟩
theorem zy367(n:ab)(i:Nat)(t:b8):(zy365 n i t).aj=n.aj/\(zy365 n i t).dV=n.dV/\(zy365 n i t).an.length=n.an.length/\(zy365 n i t).oG=n.oG:=by
 have h1:=i6 (t.lF.map (zy338 i η)) {n with an:=n.an.set i t.a8,aU:=n.aU.set i t.eo}
 have h2:=i6 (t.cz.map (zy339 i t.a8.bv)) (sends {n with an:=n.an.set i t.a8,aU:=n.aU.set i t.eo} (t.lF.map (zy338 i η)))
 rw[zy365,h2.1,h2.2.1,h2.2.2.2.1,h2.2.2.2.2.2.2,h1.1,h1.2.1,h1.2.2.2.1,h1.2.2.2.2.2.2];simp
theorem Ck(h:NP B n){i:Nat}(hs:n.an[i]?=ς s)(ha:n.aU[i]?=ς a){t:b8}(hk:TK n.dV.bp.length s a t)(hg:SG t.a8 t.eo)(hB:B+2000<4611686018427387904):NP (B+2000) (zy365 n i t):=by
 have hi:=(v0.1 hs).1
 have hls:=h.ls
 obtain⟨d,s',a',h1,h2,h3,hm⟩:=h.at_ (show i<n.aj.length by omega)
 rw[hs] at h2;cases h2
 rw[ha] at h3;cases h3
 have hmp:MP n.dV.bp.length i d t.a8 t.eo:=by
  refine⟨hm.dp,hm.dc,hg,by rw[hk.cell];exact hm.sc,by rw[hk.si];exact hm.si,?_⟩
  have:=hm.ids
  simp only[zy144,hk.rcd] at this ⊢;exact this
 have hn:=h.setM hmp
 rw[zy343 h1] at hn
 have hpl:=hk.pl
 have hrl:=hk.rl
 have k1:=i6 (t.lF.map (zy338 i η)) {n with an:=n.an.set i t.a8,aU:=n.aU.set i t.eo}
 have p1:=zy336 (t.lF.map (zy338 i η)) hn (λf hf=>by
  obtain⟨m,hm',rfl⟩:=aaA.1 hf
  exact zy342 (show i<n.aj.length by omega) (hk.pg m hm')) (by simp;omega)
 have p2:=zy336 (t.cz.map (zy339 i t.a8.bv)) p1 (λf hf=>by
  obtain⟨x,hx,rfl⟩:=aaA.1 hf
  rw[k1.1,k1.2.2.2.1]
  exact zy366 (show i<n.aj.length by omega) (by rw[hk.cell];exact⟨hm.sg.sp.ce.1,hm.sc⟩) (hk.rd x hx)) (by simp;omega)
 exact p2.mono (by simp;omega)
def zy368:Nat->Nat->ab->ab
 |0,_,n=>n
 |c+1,i,n=>match n.an[i]?,n.aU[i]? with
  |some s,ς a=>zy368 c (i+1) (zy365 n i (zy300 s a n.dV))
  |_,_=>n
theorem zy369{L:Int×ab->Option (ct (Int×ab) ab)}(N:Nat)(hN:N<=4)(hL:∀(i:Nat) (n:ab),n.an.length=N->(i<N->∀s a,n.an[i]?=ς s->n.aU[i]?=ς a->SG s a->zy142 n.dV=ζ->L ((i:Int),n)=ς (.next (((i+1:Nat):Int),zy365 n i (zy300 s a n.dV))))/\(N<=i->L ((i:Int),n)=ς (.done n))):
 ∀(c i:Nat) {B:Int} (n:ab) (fu:Nat),NP B n->i+c=N->n.an.length=N->c<fu->B+2000*c<4611686018427387904->iter L fu ((i:Int),n)=ς (zy368 c i n)/\NP (B+2000*c) (zy368 c i n)/\(zy368 c i n).aj=n.aj/\(zy368 c i n).dV=n.dV
 |0,i,B,n,fu,h,h1,h2,h3,hB=>by
  cases fu with
  |zero=>omega
  |succ fu=>
   rw[iter,(hL i n h2).2 oaa]
   exact⟨rfl,by simpa [zy368] using h,rfl,rfl⟩
 |c+1,i,B,n,fu,h,h1,h2,h3,hB=>by
  cases fu with
  |zero=>omega
  |succ fu=>
   have hls:=h.ls
   obtain⟨d,s,a,zy19,e2,e3,hm⟩:=h.at_ (show i<n.aj.length by omega)
   have hml:=mj h.map
   have hp:=Ck h e2 e3 (zy364 hm.sg oaa) (CJ hm.sg h.map) oaa
   have hk:=zy367 n i (zy300 s a n.dV)
   rw[iter,(hL i n h2).1 oaa s a e2 e3 hm.sg h.map,zy368,e2,e3]
   simp only
   have ih:=zy369 N hN hL c (i+1) (zy365 n i (zy300 s a n.dV)) fu hp oaa oaa oaa oaa
   grind
def zy370(n:ab):Bool×ab:=
 bif leB 100000 n.oG then(η,n) else
  let n1:=zy358 n.aj.length 0 {n with oG:=n.oG+1}
  (ζ,zy368 n1.an.length 0 n1)
theorem zy371{B:Int}{n:ab}(h:NP B n)(hB:B+10000<4611686018427387904):y3 n=ς (zy370 n)/\True/\NP (B+10000) (zy370 n).2:=by
 have hnw:=h.nw
 have hld:=h.ld
 rw[zy370,y3]
 cases hb:leB 100000 n.oG
 .have hb:=yp hb
  simp only[cond_false]
  have h1:NP B {n with oG:=n.oG+1}:={h with nw:=by grind}
  rw[zy46 (n:=n.oG+1) oaa]
  have rs:=zy359 (L:=rR) n.aj.length hld (λi n' hn'=>⟨λhi d hd hp=>by
   simp only[rR,hn',cE hi,bh,hd,zy217 hp.ok hp.wt.2,zy341 (show i<n'.aj.length by omega) (show(zy214 d).dF.length<=1048576 by have:=(uP d).len;omega),WRs (k:=i),au],λhi=>by
   simp only[rR,hn',ltB_f.2 (show(n.aj.length:Int)<=(i:Int) by omega),cond_false]⟩) n.aj.length 0 _ FU h1 oaa rfl (by have:=zy43;omega) oaa
  rw[show((0:Nat):Int)=0 from rfl] at rs
  have h2:=(rs).2.1
  have hls:=h2.ls
  have hl2:=h2.ld
  generalize zy358 n.aj.length 0 {n with oG:=n.oG+1}=n1 at*
  have radS:∀(n':ab) (i:Nat) (t:b8),(∀x∈t.cz,zy360 x)->t.cz.length<=4->iter (lJ (i:Int) t) FU (0,n')=ς (sends n' (t.cz.map (zy339 i t.a8.bv))):=λn' i t ht hl=>by
   have:=zy45 (step:=lJ (i:Int) t) t.cz (λk n=>((k:Int),n)) (λn x=>abG (gz n (zy339 i t.a8.bv x)) λr=>ς (.next r)) ς oaa
    (λk x n hx hk=>by
     simp only[lJ,cE hk,bh,hx,WRs (k:=k),zy339,au]
     simp_all) (λn=>by simp[lJ]) n'
   refine Eq.trans (show iter (lJ (i:Int) t) FU (0,n')=_ from this) ?_
   clear this
   have key:∀(l:List aD) (n':ab),(∀x∈l,zy360 x)->kP (λ(n:ab) x=>abG (gz n (zy339 i t.a8.bv x)) λr=>ς (ct.next (ρ:=ab) r)) ς l n'=ς (sends n' (l.map (zy339 i t.a8.bv))):=by
    intro l
    induction l with
    |nil=>intro n' _;rfl
    |cons x l ih=>intro n' hx;rw[kP,zy333 (f:=zy339 i t.a8.bv x) ⟨by have:=(hx x (by simp)).2;simp only[zy339];omega,λ_ _=>trivial⟩];exact ih _ λy hy=>hx y (by simp[hy])
   simp_all
  have ss:=zy369 (L:=rS) n1.an.length oaa (λi n' hn'=>⟨λhi s a hs ha hg hm=>by
   have hml:=mj hm
   have hk:=zy364 hg (m:=n'.dV) oaa
   simp only[rS,hn',cE hi,bh,hs,ha,zy303 hg (m:=n'.dV) oaa (zy330 hg.sp.page),abL,K2 _ _ _ (show(zy300 s a n'.dV).lF.length<=1048576 by have:=hk.pl;omega),radS _ i _ hk.rd hk.rl,zy365,WRs (k:=i),au],λhi=>by
   simp only[rS,hn',ltB_f.2 (show(n1.an.length:Int)<=(i:Int) by omega),cond_false]⟩) n1.an.length 0 n1 FU h2 oaa rfl (by have:=zy43;omega) oaa
  rw[show((0:Nat):Int)=0 from rfl] at ss
  rw[rs.1]
  simp only[abJ]
  rw[ss.1]
  exact⟨zy48,zy48,(ss).2.1.mono oaa⟩
 exact⟨zy48,zy48,h.mono oaa⟩
def y6(p:bW)(k:Int):Bool:=kE p&&(inR k 0 (p.fD-1)&&eqB (zo .i64 (E9 .i64 p.eG k) 1) 1)
theorem zy372{p:bW}(h:kE p=ζ):1<=p.fD/\p.fD<=6:=by
 simp only[kE,hV,bE] at h;exact h.1
theorem Nt(p:bW)(k:Int):oo p k=ς (y6 p k):=by
 simp only[oo,zy98,zy83,abJ,y6]
 cases hp:kE p
 .rfl
 have:=zy372 hp
 rw[zy46 (n:=p.fD-1) oaa]
 cases hk:inR k 0 (p.fD-1)
 .rfl
 rw[leB_t.2 (bE.1 hk).1];rfl
def oV(p:bW)(k:Int)(up:Bool):bW:=
 bif !kE p||!inR k 0 (p.fD-1) then p else⟨p.fD,bif up then bOr .i64 p.eG (lO .i64 1 k) else vB .i64 p.eG (lO .i64 1 k)⟩
theorem zy373(p:bW)(k:Int)(up:Bool):px p k up=ς (oV p k up):=by
 simp only[px,zy98,zy83,abJ,oV]
 cases hp:kE p
 .rfl
 have:=zy372 hp
 rw[zy46 (n:=p.fD-1) oaa]
 cases hk:inR k 0 (p.fD-1)
 .rfl
 rw[leB_t.2 (bE.1 hk).1];grind
theorem zy374:∀c∈ZN 7,∀d∈ZN (2^c),∀i∈ZN c,
 (inR (GY .i64 (d:Int) (lO .i64 1 (i:Int))) 0 (WR (lO .i64 1 (c:Int)-1))&&(inR (bOr .i64 (d:Int) (lO .i64 1 (i:Int))) 0 (WR (lO .i64 1 (c:Int)-1))&&inR (vB .i64 (d:Int) (lO .i64 1 (i:Int))) 0 (WR (lO .i64 1 (c:Int)-1))))=true:=by decide+kernel
theorem zy375:∀c∈ZN 7,WR (lO .i64 1 (c:Int)-1)=((2^c:Nat):Int)-1:=by decide+kernel
theorem MC{c:Nat}(hc:c<=6){d k:Int}(hd:inR d 0 (WR (lO .i64 1 (c:Int)-1))=ζ)(hk:0<=k/\k<c):
 inR (GY .i64 d (lO .i64 1 k)) 0 (WR (lO .i64 1 (c:Int)-1))=ζ/\inR (bOr .i64 d (lO .i64 1 k)) 0 (WR (lO .i64 1 (c:Int)-1))=ζ/\inR (vB .i64 d (lO .i64 1 k)) 0 (WR (lO .i64 1 (c:Int)-1))=true:=by
 have hd':=bE.1 hd
 rw[zy375 c (abV.2 oaa)] at hd'
 have:=zy374 c (abV.2 oaa) d.toNat (abV.2 oaa) k.toNat (abV.2 oaa)
 grind
theorem zy376{p:bW}(h:kE p=ζ)(k:Int)(up:Bool):kE (oV p k up)=ζ/\(oV p k up).fD=p.fD:=by
 rw[oV,h]
 cases hk:inR k 0 (p.fD-1)
 .simp_all
 have hk:=bE.1 hk
 have hp:=zy372 h
 simp only[kE,hV] at h
 have hm:=MC (c:=p.fD.toNat) oaa (d:=p.eG) (k:=k) (by grind) oaa
 rw[show(p.fD.toNat:Int)=p.fD by omega] at hm
 simp only[ab0,kE,hV,au]
 grind
def wt(a b:Int):Int:=abH (WR (ez 17 [a,b]*ez 17 [a,b])) 2147483647
theorem wt_s(a b:Int):gU a b=ς (wt a b):=by simp[gU,zy163,wt]
def zy377(p:bW)(i v:Int)(k:Int):Int:=bif y6 p k&&(ltB v 0||ltB (wt v i) (wt k i)) then k else v
def zy378(p:bW)(i:Int):Nat->Nat->Int->Int
 |0,_,v=>v
 |c+1,k,v=>zy378 p i c (k+1) (zy377 p i v k)
def sel(p:bW)(i:Int):Int:=zy378 p i p.fD.toNat 0 (-1)
theorem zy379{p:bW}(h:kE p=ζ)(i:Int):∀(c k fu:Nat) (v:Int),k+c=p.fD.toNat->c<fu->iter (kx p i) fu (v,(k:Int))=ς (zy378 p i c k v)
 |0,k,fu,v,h1,h2=>by
  have hp:=zy372 h
  cases fu with
  |zero=>omega
  |succ fu=>rw[iter];simp[kx,ltB_f.2 (show p.fD<=(k:Int) by omega),zy378]
 |c+1,k,fu,v,h1,h2=>by
  have hp:=zy372 h
  cases fu with
  |zero=>omega
  |succ fu=>
   have hc:(bif ltB (k:Int) p.fD then ς (ltB (k:Int) 6) else ς η)=ς true:=by rw[ltB_t.2 (show(k:Int)<p.fD by omega),ltB_t.2 (show(k:Int)<6 by omega)];rfl
   have hs:(abG (bif y6 p k then(bif ltB v 0 then ς ζ else ς (ltB (wt v i) (wt k i))) else ς η) λ(v12:Bool)=>abG (bif v12 then ς (k:Int) else ς v) λ(v15:Int)=>ς (ct.next (ρ:=Int) (v15,WR ((k:Int)+1))))=ς (.next (zy377 p i v k,((k+1:Nat):Int))):=by
    rw[zy47 oaa,zy377]
    cases y6 p k<;>cases ltB v 0<;>cases ltB (wt v i) (wt k i)<;>rfl
   rw[iter]
   simp only[kx,hc,Nt,wt_s,hs,au]
   exact zy379 h i c (k+1) fu _ oaa oaa
theorem zy380{p:bW}(h:kE p=ζ)(i:Int):kW p i=ς (sel p i):=by
 have hp:=zy372 h
 have:=zy379 h i p.fD.toNat 0 FU (-1) oaa (by have:=zy43;omega)
 rw[show((0:Nat):Int)=0 from rfl] at this
 rw[kW,this];rfl
def uS(p q:bW):Nat->Nat->List ah->List ah
 |0,_,l=>l
 |c+1,i,l=>uS p q c (i+1) (bif eqB (sel p i) (sel q i) then l else match l[i]? with
  |some s=>l.set i (zy250 s)
  |none=>l)
def zy381(n:ab)(k:Int)(up:Bool):Bool×ab:=
 let q:=oV n.d8 k up
 bif !inR k 0 (n.d8.fD-1)||(booB (y6 n.d8 k) up||eqB q.eG 0) then(η,n) else(ζ,{n with an:=uS n.d8 q n.an.length 0 n.an,d8:=q})
theorem zy382(p q:bW):∀(c i:Nat) (l:List ah) (j:Nat),(uS p q c i l)[j]?=l[j]?\/∃s,l[j]?=ς s/\(uS p q c i l)[j]?=ς (zy250 s)
 |0,i,l,j=>.inl rfl
 |c+1,i,l,j=>by
  rw[uS]
  cases eqB (sel p i) (sel q i)
  .simp only[cond_false]
   cases hi:l[i]? with
   |none=>exact zy382 p q c (i+1) l j
   |some s=>
    simp only
    by_cases e:i=j
    .subst e
     have hg:(l.set i (zy250 s))[i]?=ς (zy250 s):=by simp[(v0.1 hi).1]
     rcases zy382 p q c (i+1) (l.set i (zy250 s)) i with h|⟨t,h1,h2⟩
     .simp_all
     rw[hg] at h1;cases h1;exact .inr ⟨s,hi,h2⟩
    have hg:(l.set i (zy250 s))[j]?=l[j]?:=by rw[aa7,if_neg e]
    rcases zy382 p q c (i+1) (l.set i (zy250 s)) j with h|⟨t,h1,h2⟩
    .simp_all
    grind
  exact zy382 p q c (i+1) l j
theorem D0(p q:bW):∀(c i:Nat) (l:List ah),(uS p q c i l).length=l.length
 |0,i,l=>rfl
 |c+1,i,l=>by
  rw[uS,D0]
  grind
theorem zy383{L:Int×List ah->Option (ct (Int×List ah) (List ah))}{p q:bW}(N:Nat)(hL:∀(i:Nat) (l:List ah),l.length=N->(i<N->(∀s∈l,zy71 s)->L ((i:Int),l)=ς (.next (((i+1:Nat):Int),bif eqB (sel p i) (sel q i) then l else match l[i]? with|some s=>l.set i (zy250 s)|none=>l)))/\(N<=i->L ((i:Int),l)=ς (.done l))):
 ∀(c i fu:Nat) (l:List ah),i+c=N->l.length=N->(∀s∈l,zy71 s)->c<fu->iter L fu ((i:Int),l)=ς (uS p q c i l)
 |0,i,fu,l,h1,h2,h3,h4=>by
  cases fu with
  |zero=>omega
  |succ fu=>rw[iter,(hL i l h2).2 oaa];rfl
 |c+1,i,fu,l,h1,h2,h3,h4=>by
  cases fu with
  |zero=>omega
  |succ fu=>
   rw[iter,(hL i l h2).1 oaa h3,uS]
   simp only
   refine zy383 N hL c (i+1) fu _ oaa ?_ (λs hs=>?_) oaa
   .grind
   revert hs
   cases eqB (sel p i) (sel q i)
   .simp only[cond_false]
    cases hi:l[i]? with
    |none=>exact h3 s
    |some t=>
     intro hs
     rcases List.mem_or_eq_of_mem_set hs with hs|rfl
     .exact h3 s hs
     exact h3 t (ZL hi)
   exact h3 s
theorem Jb(h:NP B n)(k:Int)(up:Bool):uj n k up=ς (zy381 n k up)/\True/\NP B (zy381 n k up).2:=by
 have hp:=zy372 h.core
 have hls:=h.ls
 have hq:=zy376 h.core k up
 have hok:∀s∈n.an,zy71 s:=λs hs=>by
  obtain⟨i,hi⟩:=ZY hs
  have hlt:=(v0.1 hi).1
  obtain⟨d,s',a,zy19,e2,e3,hm⟩:=h.at_ (show i<n.aj.length by omega)
  rw[hi] at e2;cases e2;exact hm.sg.sp.ok
 have hl4:=h.ld
 have r1:=zy383 (L:=nX n (oV n.d8 k up)) (p:=n.d8) (q:=oV n.d8 k up) n.an.length (λi l hl=>⟨λhi hl3=>by
  obtain⟨s,hs⟩:∃s,l[i]?=ς s:=⟨_,ZM oaa⟩
  simp only[nX,hl,cE hi,zy380 h.core,zy380 hq.1,bh,hs,zy252 (hl3 s (ZL hs)),abL,WRs (k:=i),au]
  grind,λhi=>by
  simp only[nX,hl,ltB_f.2 (show(n.an.length:Int)<=(i:Int) by omega),cond_false]⟩) n.an.length 0 FU n.an oaa rfl hok (by have:=zy43;omega)
 rw[show((0:Nat):Int)=0 from rfl] at r1
 refine⟨?_,θ,?_⟩
 .simp only[uj,zy373,zy83,Nt,r1,abJ,zy46 (n:=n.d8.fD-1) oaa,zy381]
  grind
 simp only[zy381]
 cases hb:!inR k 0 (n.d8.fD-1)||(booB (y6 n.d8 k) up||eqB (oV n.d8 k up).eG 0)
 .simp only[Z2] at hb
  refine {h with core:=hq.1,up:=zy62 hb.2.2,ls:=by simp only[cond_false];rw[D0];exact hls,m:=λi d s a hd hs ha=>?_}
  simp only[cond_false] at hd hs ha ⊢
  rcases zy382 n.d8 (oV n.d8 k up) n.an.length 0 n.an i with e|⟨t,zy19,e2⟩
  .rw[e] at hs;exact h.m i d s a hd hs ha
  rw[e2] at hs;cases hs
  have hm:=h.m i d t a hd zy19 ha
  exact⟨hm.dp,hm.dc,Th hm.sg,hm.sc,hm.si,hm.ids⟩
 exact h
theorem zy384:eqB 3 2=false:=by simp[eqB]
theorem zy385:eqB 4 2=false:=by simp[eqB]
theorem zy386:eqB 4 3=false:=by simp[eqB]
theorem zy387:eqB 6 5=false:=by simp[eqB]
theorem zy388:eqB 7 5=false:=by simp[eqB]
theorem zy389:eqB 7 6=false:=by simp[eqB]
theorem zy390:eqB 8 5=false:=by simp[eqB]
theorem zy391:eqB 8 6=false:=by simp[eqB]
theorem zy392:eqB 8 7=false:=by simp[eqB]
theorem zy393:eqB 3 4=false:=by simp[eqB]
theorem zy394:eqB 2 3=false:=by simp[eqB]
structure EP(e:cY):Prop where
 d:okB e.bb
 f:zy75 e.bN
 r:okB e.bN.cz.bz.bb
def tY(n:ab)(e:cY):Bool×ab:=
 bif !inR e.cV 0 ((n.aZ.length:Int)-1) then(η,n) else
 bif eqB e.bk 2 then(ζ,zy354 n e.cV.toNat) else
 bif eqB e.bk 3 then(ζ,zy352 (kK n e.cV.toNat)) else
 bif leB 200 (n.aZ.length:Int) then(η,n) else match n.aZ[e.cV.toNat]? with
  |none=>(ζ,n)
  |some f=>(ζ,zy332 n f)
theorem zy395(h:NP B n)(e:cY)(hk:e.bk=2\/e.bk=3\/e.bk=4)(hB:B+1<4611686018427387904):
 ui n e=ς (tY n e)/\True/\NP (B+1) (tY n e).2:=by
 have hfl:=h.fl
 simp only[ui,zy83,tY,zy46 (n:=(n.aZ.length:Int)-1) oaa,abJ]
 cases hr:inR e.cV 0 ((n.aZ.length:Int)-1)
 .exact⟨zy48,zy48,h.mono oaa⟩
 have hr:=bE.1 hr
 obtain⟨k,hk'⟩:∃k:Nat,e.cV=k:=⟨e.cV.toNat,by omega⟩
 have hlt:k<n.aZ.length:=by omega
 obtain⟨f,hf⟩:∃f,n.aZ[k]?=ς f:=⟨_,ZM hlt⟩
 have hp:=h.fs f (ZL hf)
 simp only[hk',abL,N7 h hlt,Ny h.fl hf,zy333 hp.ok,bh,hf,au]
 rcases hk with e2|e2|e2<;>rw[e2]<;>simp only[zy384,zy385,zy386,zy387,zy388,zy389,zy390,zy391,zy392,zy393,zy394,bF,au]
 .exact⟨zy48,zy48,zy355 h k hB⟩
 .exact⟨zy48,zy48,zy353 (zy349 h k) oaa⟩
 cases leB 200 (n.aZ.length:Int)
 .exact⟨zy48,zy48,zy334 h hp oaa⟩
 exact⟨zy48,zy48,h.mono oaa⟩
def zy396(n:ab)(e:cY):Bool×ab:=
 bif !inR e.cV 0 ((n.aj.length:Int)-1) then(η,n) else match n.aj[e.cV.toNat]?,n.an[e.cV.toNat]? with
  |some d,ς s=>
   bif eqB e.bk 5 then(bif !eqB d.bB 0 then(η,n) else(ζ,zy340 n e.cV.toNat (dOn d))) else
   bif eqB e.bk 6 then(bif eqB e.bv d.bv||!zy138 n.dV e.bv then(η,n) else(ζ,zy340 n e.cV.toNat (uv d e.bv))) else
   bif eqB e.bk 7 then(bif !eqB d.bB 2 then(η,n) else(ζ,{n with aj:=n.aj.set e.cV.toNat (uO d)})) else
   bif(zy246 s e.bb).2 then(ζ,{n with an:=n.an.set e.cV.toNat (zy246 s e.bb).1}) else(η,n)
  |_,_=>(η,n)
theorem zy397(d:aC):(uO d).dx=d.dx/\(uO d).bv=d.bv:=by
 rw[uO];grind
theorem zy398(h:NP B n)(e:cY)(he:EP e)(hk:e.bk=5\/e.bk=6\/e.bk=7\/e.bk=8)(hB:B+1<4611686018427387904):
 A2 n e=ς (zy396 n e)/\True/\NP (B+1) (zy396 n e).2:=by
 have hl:=h.ld
 have hm6:=mj h.map
 have hnm:NP (B+1) n:=h.mono oaa
 simp only[A2,zy83,zy396,zy46 (n:=(n.aj.length:Int)-1) oaa,zy46 (n:=(n.dV.bp.length:Int)-1) oaa,abJ]
 cases hr:inR e.cV 0 ((n.aj.length:Int)-1)
 .simp_all
 have hr:=bE.1 hr
 obtain⟨k,hk'⟩:∃k:Nat,e.cV=k:=⟨e.cV.toNat,by omega⟩
 have hlt:k<n.aj.length:=by omega
 obtain⟨d,s,a,zy19,e2,e3,hm⟩:=h.at_ hlt
 have l1:=(zy344 d).len
 have l2:(uv d e.bv).dF.length<=1:=by rcases zy346 d e.bv with h|h;exact h.len;exact h.2.len
 simp only[hk',abL,bh,zy19,e2,on_s hm.dp.ok,Yp hm.dp.ok hm.dp.ep,zy219 hm.dp.ok,Xq hm.sg.sp.ok,zy341 hlt (show(dOn d).dF.length<=1048576 by omega),zy341 hlt (show(uv d e.bv).dF.length<=1048576 by omega),au]
 try rw[show inR e.bv 0 ((n.dV.bp.length:Int)-1)=zy138 n.dV e.bv from rfl]
 rcases hk with e4|e4|e4|e4<;>rw[e4]<;>simp only[zy384,zy385,zy386,zy387,zy388,zy389,zy390,zy391,zy392,zy393,zy394,bF,au]
 .cases eqB d.bB 0
  .simp_all
  exact⟨zy48,zy48,ku h zy19 (zy344 d) (zy304 hm.dp) hm.dc hB⟩
 .cases hx:eqB e.bv d.bv<;>cases hy:zy138 n.dV e.bv<;>try exact⟨zy48,zy48,hnm⟩
  refine⟨zy48,zy48,?_⟩
  have hc:=bE.1 (show inR e.bv 0 ((n.dV.bp.length:Int)-1)=ζ from hy)
  rcases zy346 d e.bv with h'|h'
  .exact ku h zy19 h' (Hu hm.dp _) hm.dc hB
  exact ku h zy19 h'.2 (Hu hm.dp _) oaa hB
 .cases eqB d.bB 2
  .simp_all
  refine⟨zy48,zy48,NP.mono (B:=B) ?_ oaa⟩
  have hik:=zy397 d
  refine h.setD e2 e3 ⟨zy306 hm.dp,by rw[hik.2];exact hm.dc,hm.sg,hm.sc,hm.si,?_⟩
  have:=hm.ids
  simp only[zy144,hik.1] at this ⊢;exact this
 cases hb:(zy246 s e.bb).2
 .have hs:(zy246 s e.bb).1=s:=by
   revert hb;rw[zy246];cases leB 24 (s.av.length:Int)||ltB 60 (e.bb.length:Int)
   .simp_all
   intro _;rfl
  refine⟨?_,zy48,hnm⟩
  first|trivial|(rw[hs,zy343 e2];rfl)
 refine⟨zy48,zy48,NP.mono (B:=B) ?_ oaa⟩
 have hg:=zy328 hm.sg he.d
 refine h.setS zy19 e3 ⟨hm.dp,hm.dc,hg,?_,?_,?_⟩
 all_goals
  rw[zy246]
  cases leB 24 (s.av.length:Int)||ltB 60 (e.bb.length:Int)
 .exact hm.sc
 .exact hm.sc
 .exact hm.si
 .exact hm.si
 .exact hm.ids
 exact hm.ids
def Cc(n:ab)(c:Int)(up:Bool):Bool×ab:=
 bif !zy138 n.dV c||booB (zy350 n c) up then(η,n) else(ζ,{n with cX:=GY .i64 n.cX (lO .i64 1 c)})
theorem zy399(h:NP B n)(e:cY):
 yX n e.cV (eqB e.bk 10)=ς (Cc n e.cV (eqB e.bk 10))/\True/\NP B (Cc n e.cV (eqB e.bk 10)).2:=by
 have hm6:=mj h.map
 simp only[yX,zy83,zy351 hm6,Cc,zy46 (n:=(n.dV.bp.length:Int)-1) oaa,abJ]
 try rw[show inR e.cV 0 ((n.dV.bp.length:Int)-1)=zy138 n.dV e.cV from rfl]
 cases hc:zy138 n.dV e.cV
 .simp_all
 have hi:=bE.1 (show inR e.cV 0 ((n.dV.bp.length:Int)-1)=ζ from hc)
 rw[leB_t.2 hi.1]
 cases booB (zy350 n e.cV) (eqB e.bk 10)
 .exact⟨zy48,zy48,{h with dn:=(MC hm6.2 h.dn oaa).1}⟩
 simp_all
def zy400(n:ab)(f:bT):Bool:=ltB (n.aZ.length:Int) 200&&(inR f.bA 0 ((n.aj.length:Int)-1)&&zy138 n.dV f.bv)
def zy401(n:ab)(f:bT):Bool×ab:=bif !zy400 n f then(η,n) else(ζ,zy332 n f)
theorem zy402(h:NP B n)(e:cY)(he:EP e)(hB:B<4611686018427387904):
 (abG (iY n e.bN) λr13=>bif !r13 then(ς (η,n)) else(abG (gz n e.bN) λr14=>ς (ζ,r14)))=ς (zy401 n e.bN)/\True/\NP (B+1) (zy401 n e.bN).2:=by
 have hm6:=mj h.map
 have hl:=h.ld
 simp only[iY,zy83,zy333 he.f,zy401,zy400,zy46 (n:=(n.dV.bp.length:Int)-1) oaa,zy46 (n:=(n.aj.length:Int)-1) oaa,abJ]
 try rw[show inR e.bN.bv 0 ((n.dV.bp.length:Int)-1)=zy138 n.dV e.bN.bv from rfl]
 try rw[show leB 200 (n.aZ.length:Int)=!ltB (n.aZ.length:Int) 200 by simp only[leB,ltB];grind]
 cases h1:ltB (n.aZ.length:Int) 200<;>cases h2:inR e.bN.bA 0 ((n.aj.length:Int)-1)<;>cases h3:zy138 n.dV e.bN.bv<;>try exact⟨zy48,zy48,h.mono oaa⟩
 have hd:=bE.1 h2
 have hc:=bE.1 (show inR e.bN.bv 0 ((n.dV.bp.length:Int)-1)=ζ from h3)
 exact⟨zy48,zy48,zy334 h ⟨by omega,by omega,he.r,he.f⟩ oaa⟩
def zy403(n:ab)(e:cY):Bool×ab:=
 if e.bk=1 then zy370 n else
 if e.bk=2\/e.bk=3\/e.bk=4 then tY n e else
 if e.bk=5\/e.bk=6\/e.bk=7\/e.bk=8 then zy396 n e else
 if e.bk=9\/e.bk=10 then Cc n e.cV (eqB e.bk 10) else
 if e.bk=11\/e.bk=12 then zy381 n e.cV (eqB e.bk 12) else
 if e.bk=13 then zy401 n e.bN else(η,n)
theorem zy404(h:NP B n)(he:EP e)(hB:B+10000<4611686018427387904):
 zy28 n e=ς (zy403 n e)/\True/\NP (B+10000) (zy403 n e).2:=by
 rw[zy403,zy28]
 by_cases h1:e.bk=1
 .rw[if_pos h1,h1]
  have:=zy371 h hB
  simp_all
 rw[if_neg h1]
 have n1:eqB e.bk 1=false:=by simpa [eqB] using h1
 by_cases h2:e.bk=2\/e.bk=3\/e.bk=4
 .rw[if_pos h2]
  have:=zy395 h e h2 oaa
  have hb':(bif eqB e.bk 2 then(ς (eqB e.bk 2)) else(abG (bif eqB e.bk 3 then(ς (eqB e.bk 3)) else(ς (eqB e.bk 4))) λ(v3:Bool)=>ς v3))=ς true:=by
   rcases h2 with e|e|e<;>rw[e]<;>simp only[zy384,zy385,zy386,zy387,zy388,zy389,zy390,zy391,zy392,zy393,zy394,bF,au]<;>rfl
  rw[n1,hb']
  simp only[this.1,au]
  exact⟨zy48,zy48,this.2.2.mono oaa⟩
 rw[if_neg h2]
 have hb':(bif eqB e.bk 2 then(ς (eqB e.bk 2)) else(abG (bif eqB e.bk 3 then(ς (eqB e.bk 3)) else(ς (eqB e.bk 4))) λ(v3:Bool)=>ς v3))=ς false:=by
  rw[show eqB e.bk 2=η by simp_all,show eqB e.bk 3=η by simp_all,show eqB e.bk 4=η by simp_all];rfl
 rw[n1,hb']
 simp only[au]
 by_cases h3:e.bk=5\/e.bk=6\/e.bk=7\/e.bk=8
 .rw[if_pos h3]
  have:=zy398 h e he h3 oaa
  have hb3:(bif eqB e.bk 5 then(ς (eqB e.bk 5)) else(abG (bif eqB e.bk 6 then(ς (eqB e.bk 6)) else(abG (bif eqB e.bk 7 then(ς (eqB e.bk 7)) else(ς (eqB e.bk 8))) λ(v7:Bool)=>ς v7)) λ(v6:Bool)=>ς v6))=ς true:=by
   rcases h3 with e|e|e|e<;>rw[e]<;>simp only[zy384,zy385,zy386,zy387,zy388,zy389,zy390,zy391,zy392,zy393,zy394,bF,au]<;>rfl
  rw[hb3]
  simp only[this.1,au]
  exact⟨zy48,zy48,this.2.2.mono oaa⟩
 rw[if_neg h3]
 have hb3:(bif eqB e.bk 5 then(ς (eqB e.bk 5)) else(abG (bif eqB e.bk 6 then(ς (eqB e.bk 6)) else(abG (bif eqB e.bk 7 then(ς (eqB e.bk 7)) else(ς (eqB e.bk 8))) λ(v7:Bool)=>ς v7)) λ(v6:Bool)=>ς v6))=ς false:=by
  rw[show eqB e.bk 5=η by simp_all,show eqB e.bk 6=η by simp_all,show eqB e.bk 7=η by simp_all,show eqB e.bk 8=η by simp_all];rfl
 rw[hb3]
 simp only[au]
 by_cases h4:e.bk=9\/e.bk=10
 .rw[if_pos h4]
  have:=zy399 h e
  have hb4:(bif eqB e.bk 9 then(ς (eqB e.bk 9)) else(ς (eqB e.bk 10)))=ς true:=by rcases h4 with e|e<;>rw[e]<;>simp[eqB]
  rw[hb4]
  simp only[this.1,au]
  exact⟨zy48,zy48,this.2.2.mono oaa⟩
 rw[if_neg h4]
 have hb4:(bif eqB e.bk 9 then(ς (eqB e.bk 9)) else(ς (eqB e.bk 10)))=ς false:=by
  rw[show eqB e.bk 9=η by simp_all,show eqB e.bk 10=η by simp_all];rfl
 rw[hb4]
 simp only[au]
 by_cases h5:e.bk=11\/e.bk=12
 .rw[if_pos h5]
  have:=Jb h e.cV (eqB e.bk 12)
  have hb5:(bif eqB e.bk 11 then(ς (eqB e.bk 11)) else(ς (eqB e.bk 12)))=ς true:=by rcases h5 with e|e<;>rw[e]<;>simp[eqB]
  rw[hb5]
  simp only[this.1,au]
  exact⟨zy48,zy48,this.2.2.mono oaa⟩
 rw[if_neg h5]
 have hb5:(bif eqB e.bk 11 then(ς (eqB e.bk 11)) else(ς (eqB e.bk 12)))=ς false:=by
  rw[show eqB e.bk 11=η by simp_all,show eqB e.bk 12=η by simp_all];rfl
 rw[hb5]
 simp only[au]
 by_cases h6:e.bk=13
 .rw[if_pos h6,h6]
  have:=zy402 h e he oaa
  simp only[bF,this.1,au]
  exact⟨zy48,zy48,this.2.2.mono oaa⟩
 rw[if_neg h6,show eqB e.bk 13=η by simp_all]
 exact⟨zy48,zy48,h.mono oaa⟩
structure BY(n:ab):Prop where
 d1:∀d∈n.aj,∀x∈d.bg.aO,okB x.bb
 d2:∀d∈n.aj,∀p∈d.bg.aP,okB p.bb
 s1:∀s∈n.an,∀p∈s.av,okB p.bb
 s2:∀s∈n.an,∀x∈s.ax.aG,okB x.bb
 f:∀f∈n.aZ,okB f.cz.bz.bb
theorem NP.of(ok:zy76 n)(v:kf n=ζ)(b:BY n):NP n.jM n:=by
 simp only[kf,zy145,hV,bE,zy78,ZR,flB] at v
 obtain⟨v1,v2,v3,v4,v5,v6,v7,v8,v9,v10,v11,v12⟩:=v
 have v4:=ww v4
 have v5:=vM v5
 have v6:=vM v6
 have v8:=ww v8
 have v12:=ww v12
 refine⟨v1,ok.1,v2,zy62 (by simp_all),by omega,v5,v6,λi d s a hd hs ha=>?_,by omega,λf hf=>?_,bE.2 v10,v11,⟨v12,by omega⟩⟩
 .have:=v7 i d hd
  simp only[yr,hs,ha,hV] at this
  obtain⟨m1,m2,m3,m4,m5,m6,m7,m8⟩:=this
  have hdm:=ZL hd
  have hsm:=ZL hs
  have c1:=bE.1 (show inR d.bv 0 ((n.dV.bp.length:Int)-1)=ζ from m5)
  have c2:=bE.1 (show inR s.bv 0 ((n.dV.bp.length:Int)-1)=ζ from m6)
  exact⟨DP.of m1 (ok.2.1.2 d hdm) (b.d1 d hdm) (b.d2 d hdm),by omega,⟨(zy245 (ok.2.2.1.2 s hsm)).1 m2,b.s1 s hsm,b.s2 s hsm,zy265.1 m8⟩,by omega,zy61 m7,m4⟩
 have:=v9 f hf
 have c2:=bE.1 (show inR f.bv 0 ((n.dV.bp.length:Int)-1)=ζ from this.2)
 exact⟨by omega,by omega,b.f f hf,ok.2.2.2.2.2 f hf⟩
theorem NP.okN(h:NP B n):zy76 n:=by
 have h1:=h.ld
 have h2:=h.ls
 have h3:=h.la
 have h4:=h.fl
 refine⟨h.mok,⟨by omega,λd hd=>?_⟩,⟨by omega,λs hs=>?_⟩,⟨by omega,λa ha=>?_⟩,⟨by omega,λf hf=>(h.fs f hf).ok⟩⟩
 .obtain⟨i,hi⟩:=ZY hd
  have hlt:=(v0.1 hi).1
  obtain⟨d',s,a,zy19,e2,e3,hm⟩:=h.at_ hlt
  rw[hi] at zy19;cases zy19;exact hm.dp.ok
 .obtain⟨i,hi⟩:=ZY hs
  have hlt:=(v0.1 hi).1
  obtain⟨d',s,a,zy19,e2,e3,hm⟩:=h.at_ (show i<n.aj.length by omega)
  rw[hi] at e2;cases e2;exact hm.sg.sp.ok
 obtain⟨i,hi⟩:=ZY ha
 have hlt:=(v0.1 hi).1
 obtain⟨d',s,a,zy19,e2,e3,hm⟩:=h.at_ (show i<n.aj.length by omega)
 rw[hi] at e3;cases e3;exact hm.sg.mo.acc.ok
theorem NP.by_(h:NP B n):BY n:=by
 have h1:=h.ld
 have h2:=h.ls
 have gd:∀d∈n.aj,DP d:=λd hd=>by
  obtain⟨i,hi⟩:=ZY hd
  obtain⟨d',s,a,zy19,e2,e3,hm⟩:=h.at_ (v0.1 hi).1
  rw[hi] at zy19;cases zy19;exact hm.dp
 have gs:∀s∈n.an,∃a,SG s a:=λs hs=>by
  obtain⟨i,hi⟩:=ZY hs
  have hlt:=(v0.1 hi).1
  obtain⟨d',s,a,zy19,e2,e3,hm⟩:=h.at_ (show i<n.aj.length by omega)
  rw[hi] at e2;cases e2;exact⟨a,hm.sg⟩
 exact⟨λd hd=>(gd d hd).rc.b1,λd hd=>(gd d hd).rc.b2,λs hs=>(gs s hs).elim λa h=>h.b1,λs hs=>(gs s hs).elim λa h=>h.b2,λf hf=>(h.fs f hf).b⟩
theorem NP.vn(h:NP B n):kf n=true:=by
 have h1:=h.ld
 have h2:=h.ls
 have h3:=h.la
 have h4:=h.fl
 have h5:=h.lo
 have hu:eqB n.d8.eG 0=false:=by simpa [eqB] using h.up
 simp only[kf,zy145,hV,bE,zy78,ZR,flB]
 refine⟨h.map,h.core,by simp[hu],leB_t.2 oaa,eqB_t.2 oaa,eqB_t.2 oaa,λi d hd=>?_,leB_t.2 oaa,λf hf=>?_,bE.1 h.dn,h.nw,leB_t.2 h5.1⟩
 .obtain⟨d',s,a,zy19,e2,e3,hm⟩:=h.at_ (v0.1 hd).1
  rw[hd] at zy19;cases zy19
  have hc:=hm.dp.ce
  have hsc:=hm.sg.sp
  simp only[yr,e2,e3,hV]
  exact⟨hm.dp.v,(zy245 hm.sg.sp.ok).2 hm.sg.sp,zy226.2 hm.sg.mo.acc,hm.ids,bE.2 (by have:=hm.dc;omega),bE.2 (by have:=hm.sc;have:=hsc.ce;omega),eqB_t.2 hm.si,zy265.2 hm.sg.mo⟩
 have hf:=h.fs f hf
 exact⟨by have:=hf.d;omega,bE.2 (by have:=hf.c;omega)⟩
theorem zy405(x:Int)(m:Nat)(hm:m<9223372036854775808):0<=zo .i64 x (m:Int)/\zo .i64 x (m:Int)<=m:=by
 unfold zo
 have h1:(BitVec.ofInt IntKind.i64.bits x&&& BitVec.ofInt IntKind.i64.bits (m:Int)).toNat<=m:=by
  rw[BitVec.toNat_and]
  refine Z0 Nat.and_le_right ?_
  show(BitVec.ofInt 64 (m:Int)).toNat<=m
  rw[BitVec.toNat_ofInt]
  omega
 rw[GH oaa]
 omega
structure zy406(c:aT):Prop where
 l:c.fb.length<=1048576
 u:∀x∈c.fb,zy54 x
 a:0<=c.fi
 b:c.fi<=c.fb.length
theorem zy407{c:aT}(h:zy406 c):∃v c',rH c=ς (v,c')/\0<=v/\v<=255/\zy406 c':=by
 unfold rH
 have:=h.l
 have ha:=h.a
 have hb:=h.b
 by_cases hi:c.fi<c.fb.length
 .obtain⟨x,hx,e⟩:=ix_in h.a hi
  rw[show ltB c.fi (c.fb.length:Int)=ζ from by simp_all]
  simp only[e,au]
  refine⟨_,_,rfl,(zy405 _ 255 oaa).1,(zy405 _ 255 oaa).2,⟨h.l,h.u,?_,?_⟩⟩
  .show 0<=WR (c.fi+1);rw[zy46 oaa];omega
  show WR (c.fi+1)<=(c.fb.length:Int);rw[zy46 oaa];omega
 rw[show ltB c.fi (c.fb.length:Int)=η from by simp_all]
 simp only[au]
 exact⟨_,_,rfl,(zy405 _ 255 oaa).1,(zy405 _ 255 oaa).2,⟨h.l,h.u,h.a,h.b⟩⟩
theorem zy408{v n:Int}(hv:0<=v)(hn:0<n):0<=abH v n/\abH v n<n:=by
 rw[abN hv]
 exact⟨ab7 _ oaa,ab6 _ hn⟩
theorem He{c:aT}(h:zy406 c){n:Int}(hn:1<=n):∃v c',cj c n=ς (v,c')/\0<=v/\v<n/\zy406 c':=by
 unfold cj
 rw[show leB n 0=η from by simp[leB];omega]
 have hz:(!eqB n 0)=true:=by simp[eqB];omega
 simp only[hz,au]
 by_cases h2:n<=256
 .rw[show leB n 256=ζ from by simp_all]
  obtain⟨v,c',e,h0,h1,hc⟩:=zy407 h
  have:=zy408 h0 (show 0<n by omega)
  grind
 rw[show leB n 256=η from by simp_all]
 obtain⟨v,c1,e,h0,h1,hc⟩:=zy407 h
 obtain⟨v2,c2,e2,h02,h12,hc2⟩:=zy407 hc
 obtain⟨v3,c3,e3,h03,h13,hc3⟩:=zy407 hc2
 simp only[e,e2,e3,au]
 rw[zy46 (n:=v*65536) oaa,zy46 (n:=v2*256) oaa,zy46 (n:=v*65536+v2*256) oaa,zy46 (n:=v*65536+v2*256+v3) oaa]
 have:=zy408 (v:=v*65536+v2*256+v3) oaa (show 0<n by omega)
 grind
theorem zy409{c:aT}(h:zy406 c){n:Int}(hn:1<=n):∃v c',gY c n=ς (v,c')/\zy406 c':=by
 obtain⟨v,c',e,_,_,hc⟩:=He h hn
 exact⟨_,_,by rw[gY,e];rfl,hc⟩
theorem zy410{xs:List Int}(hl:xs.length<=1048576)(hu:∀x∈xs,zy54 x):∃c,Gs xs=ς c/\zy406 c/\c.fb=xs:=by
 have key:∀(m n k:Nat) (v:Int),m=xs.length-k->k<=xs.length->m<n->∃r,iter (tm xs) n (v,(k:Int))=ς r:=by
  intro m
  induction m with
  |zero=>
   intro n k v hm hk hn
   cases n with
   |zero=>omega
   |succ n=>
    have:k=xs.length:=by omega
    subst this
    exact⟨v,by rw[iter];simp[tm]⟩
  |succ m ih=>
   intro n k v hm hk hn
   cases n with
   |zero=>omega
   |succ n=>
    have hlt:k<xs.length:=by omega
    rw[iter]
    simp only[tm,cE hlt,bh,ZM hlt,WRs (k:=k),au]
    cases ltB (k:Int) 4000
    .simp_all
    exact ih n (k+1) _ oaa oaa oaa
 obtain⟨r,hr⟩:=key xs.length FU 0 (WR (193017+(xs.length:Int))) oaa oaa (by have:=zy43;omega)
 refine⟨⟨xs,0,r⟩,?_,⟨hl,hu,abK 0,Int.natCast_nonneg _⟩,rfl⟩
 rw[Gs,show iter (tm xs) FU (WR (193017+(xs.length:Int)),0)=ς r from hr]
 rfl
theorem dD{c:aT}(h:zy406 c){n:Int}(hn:1<=n):Wp (cj c n) (λr=>zy406 r.2/\0<=r.1/\r.1<n):=by
 obtain⟨v,c',e,h0,h1,hc⟩:=He h hn
 exact Wp.of e ⟨hc,h0,h1⟩
theorem vz{c:aT}(h:zy406 c){n:Int}(hn:1<=n):Wp (gY c n) (λr=>zy406 r.2):=by
 obtain⟨v,c',e,hc⟩:=zy409 h hn
 exact Wp.of e hc
theorem WH{c:aT}(h:zy406 c){xs:List Int}(hx:xs≠[]):Wp (xA c xs) (λr=>zy406 r.2/\r.1∈xs):=by
 have hl:0<xs.length:=acd.2 hx
 unfold xA
 refine Wp.call (dD h oaa) λr hr=>?_
 exact Wp.ix hr.2.1 hr.2.2 λx hm _=>Wp.some ⟨hr.1,hm⟩
theorem zy411{c:aT}(h:zy406 c){n:Int}(h0:0<=n)(hn:n<=4000):Wp (vh c n) (λr=>zy406 r.2/\okB r.1/\(r.1.length:Int)=n):=by
 unfold vh
 refine Wp.call (P:=λx=>zy406 x.2/\okB x.1/\(x.1.length:Int)=n) ?_ λx hx=>Wp.some hx
 refine Wp.iterF (λx=>(0<=x.1/\x.1<=n)/\zy406 x.2.2/\okB x.2.1/\(x.2.1.length:Int)=x.1) (λx=>(n-x.1).toNat) ⟨⟨by omega,by omega⟩,h,λx hx=>by simp at hx,by simp⟩ oaa ?_
 rintro⟨v1,v5,v6⟩ ⟨⟨i0,i1⟩,i2,i3,i4⟩
 simp only at i0 i1 i2 i3 i4
 simp only[Ar]
 refine Wp.cond (λhb=>?_) (λhb=>Wp.some ⟨i2,i3,by have:=zy60 hb;grind⟩)
 have hb:=zy59 hb
 obtain⟨b,c',e,b0,b1,hc⟩:=zy407 i2
 refine Wp.call (Wp.of (Q:=λr=>zy406 r.2/\0<=r.1/\r.1<=255) e ⟨hc,b0,b1⟩) λr hr=>?_
 refine Wp.ok (zy63 (by simp;omega) (by simp;omega)) (Wp.some ⟨⟨⟨?_,?_⟩,hr.1,?_,?_⟩,?_⟩)
 all_goals simp only[zy46 (show-9223372036854775808<=v1+1/\v1+1<=9223372036854775807 by omega)]
 .omega
 .omega
 .intro x hx
  rcases ZO.1 hx with hx|hx
  .exact i3 x hx
  simp at hx;subst hx
  have zy19:IntKind.u8.wrap r.1=r.1:=by rw[Ur];omega
  rw[zy19];exact hr.2
 .simp;omega
 omega
theorem zy412{P:α->Prop}{xs:List α}{i:Nat}{a:α}(h:∀x∈xs,P x)(ha:P a):∀x∈xs.set i a,P x:=λx hx=>by
 grind
theorem Sn{v:List (Int×List Int)}(h1:v.length<=5)(h2:∀e∈v,e.2.length<=1000):zy65 (⟨v.map λe=>(⟨e.1,e.2⟩:fk)⟩:aV):=by
 refine⟨by grind,λx hx=>?_⟩
 obtain⟨e,he,rfl⟩:=aaA.1 hx
 exact⟨by grind,λ_ _=>trivial⟩
theorem wKey{c:aT}(h:zy406 c):Wp (xD c) (λr=>zy406 r.2):=by
 unfold xD
 exact Wp.call (dD h oaa) λr1 h1=>Wp.some h1.1
structure JM(v:List (Int×List Int)):Prop where
 ar:∀e∈v,0<=e.1/\e.1<=1
 rg:∀(i:Nat) e,v[i]?=ς e->∀x∈e.2,0<=x/\x<v.length/\x≠i
 sy:∀(i j:Nat) e f,v[i]?=ς e->v[j]?=ς f->(j:Int)∈e.2->(i:Int)∈f.2
def zy413(v:List (Int×List Int))(a b:Nat)(x y:Int×List Int):List (Int×List Int):=(v.set a (x.1,x.2++[(b:Int)])).set b (y.1,y.2++[(a:Int)])
theorem yn{v:List (Int×List Int)}{a b:Nat}{x y:Int×List Int}(hx:v[a]?=ς x)(hy:v[b]?=ς y)(hab:a≠b){i:Nat}{e':Int×List Int}(h:(zy413 v a b x y)[i]?=ς e'):
 ∃e,v[i]?=ς e/\e'.1=e.1/\∀z,z∈e'.2↔z∈e.2\/(i=a/\z=b)\/(i=b/\z=a):=by
 rcases nM h with⟨zy19,e2⟩|⟨zy19,e2⟩
 .grind
 grind
theorem RJ{v:List (Int×List Int)}(h:JM v){a b:Nat}{x y:Int×List Int}(hx:v[a]?=ς x)(hy:v[b]?=ς y)(hab:a≠b):JM (zy413 v a b x y):=by
 have ha:=(v0.1 hx).1
 have hb:=(v0.1 hy).1
 have hl:(zy413 v a b x y).length=v.length:=by simp[zy413]
 refine⟨λe he=>?_,λi e he z hz=>?_,λi j e f he hf hj=>?_⟩
 .obtain⟨i,hi⟩:=ZY he
  obtain⟨e0,h0,h1,_⟩:=yn hx hy hab hi
  rw[h1];exact h.ar e0 (ZL h0)
 .obtain⟨e0,h0,h1,h2⟩:=yn hx hy hab he
  rw[hl]
  rcases(h2 z).1 hz with hz|hz|hz
  .exact h.rg i e0 h0 z hz
  .omega
  omega
 obtain⟨e0,h0,h1,h2⟩:=yn hx hy hab he
 obtain⟨f0,g0,g1,g2⟩:=yn hx hy hab hf
 rw[g2]
 rcases(h2 j).1 hj with hz|hz|hz
 .exact .inl (h.sy i j e0 f0 h0 g0 hz)
 .omega
 omega
theorem zy414{v:List (Int×List Int)}{a:Int}{B:Nat}(hB:B<=1000)(hv:∀e∈v,e.2.length<=B)(hj:JM v)(a0:0<=a)(a1:a<v.length)(b0:0<=b)(b1:b<v.length)(hab:a≠b):Wp (tl v a b) (λr=>(r.length=v.length/\∀e∈r,e.2.length<=B+2)/\JM r):=by
 obtain⟨i,rfl⟩:∃i:Nat,a=i:=⟨a.toNat,by omega⟩
 obtain⟨j,rfl⟩:∃j:Nat,b=j:=⟨b.toNat,by omega⟩
 obtain⟨x,hx⟩:∃x,v[i]?=ς x:=⟨_,ZM oaa⟩
 obtain⟨y,hy⟩:∃y,v[j]?=ς y:=⟨_,ZM oaa⟩
 have h1:=hv x (ZL hx)
 have h2:=hv y (ZL hy)
 have hy':(v.set i (x.1,x.2++[(j:Int)]))[j]?=ς y:=by rw[aa7,if_neg oaa];exact hy
 unfold tl
 rw[bh,hx]
 simp only[abJ,abL]
 refine Wp.ok (zy63 (by simp;omega) (by simp;omega)) ?_
 rw[bh,hy']
 simp only[abJ]
 refine Wp.ok (zy63 (by simp;omega) (by simp;omega)) (Wp.some ⟨⟨by simp,zy412 (zy412 (λe he=>by grind) (by simp;omega)) (by simp;omega)⟩,?_⟩)
 exact RJ hj hx hy oaa
structure RW(n:Int)(e e':Int×List Int):Prop where
 a:e'.1=e.1
 m:∀z,z∈e'.2↔z∈e.2/\(0<=z/\z<n)
 o:e'.2.Pairwise λx y=>x<y
 l:(e'.2.length:Int)<=n
theorem zy415{v w:List (Int×List Int)}(h:JM v)(hl:w.length=v.length)(h2:2<=v.length/\v.length<=5)(hw:∀(i:Nat) e,v[i]?=ς e->∃e',w[i]?=ς e'/\RW v.length e e'):zy142 (⟨w.map λe=>(⟨e.1,e.2⟩:fk)⟩:aV)=true:=by
 have hlen:(w.map λe=>(⟨e.1,e.2⟩:fk)).length=v.length:=by simp[hl]
 have get:∀(i:Nat) c,(w.map λe=>(⟨e.1,e.2⟩:fk))[i]?=ς c->∃e e',v[i]?=ς e/\w[i]?=ς e'/\RW v.length e e'/\c=⟨e'.1,e'.2⟩:=by
  intro i c hc
  have hi:=(v0.1 hc).1
  obtain⟨e,he⟩:∃e,v[i]?=ς e:=⟨_,ZM oaa⟩
  obtain⟨e',he',hr⟩:=hw i e he
  rw[Z8,he'] at hc
  cases hc;exact⟨e,e',he,he',hr,rfl⟩
 simp only[zy142,hV,bE,zy78,hlen]
 refine⟨by omega,λi c hc=>?_⟩
 obtain⟨e,e',he,he',hr,rfl⟩:=get i c hc
 have har:=h.ar e (ZL he)
 simp only[zy141,hV,bE,zy78,nbB,zy138,hlen]
 refine⟨by rw[hr.a];omega,λk x hx=>?_⟩
 have hm:=ZL hx
 have hme:=(hr.m x).1 hm
 have hrg:=h.rg i e he x hme.1
 obtain⟨j,rfl⟩:∃j:Nat,x=j:=⟨x.toNat,by omega⟩
 refine⟨by omega,by have:=hrg.2.2;simpa [eqB] using this,zy224 (key:=id) (by simpa using hr.o) hx,?_⟩
 obtain⟨f,hf⟩:∃f,v[j]?=ς f:=⟨_,ZM oaa⟩
 obtain⟨f',hf',hrf⟩:=hw j f hf
 have hi:=(v0.1 he).1
 have hs:=h.sy i j e f he hf hme.1
 simp only[zy140,abL,Z8,hf',abZ,Z7]
 exact⟨i,(hrf.m i).2 ⟨hs,by omega,by omega⟩,bF _⟩
theorem zy416{c:aT}(h:zy406 c):Wp (wa c) (λr=>zy406 r.2/\((2<=r.1.length/\r.1.length<=5)/\∀e∈r.1,e.2.length<=200)/\zy142 (⟨r.1.map λe=>(⟨e.1,e.2⟩:fk)⟩:aV)=ζ):=by
 unfold wa
 refine Wp.call (dD h oaa) λr1 h1=>?_
 obtain⟨n,hn⟩:∃n:Int,n=WR (2+r1.1):=⟨_,rfl⟩
 have hn1:n=2+r1.1:=by rw[hn,zy46 oaa]
 refine Wp.call (P:=λx=>zy406 ⟨x.1,x.2.1,x.2.2.1⟩/\(x.2.2.2.length:Int)=n/\∀a∈x.2.2.2,0<=a/\a<=1) ?_ ?_
 .refine Wp.iterF (λx=>(0<=x.1/\x.1<=n)/\zy406 ⟨x.2.1,x.2.2.1,x.2.2.2.1⟩/\(x.2.2.2.2.length:Int)=x.1/\∀a∈x.2.2.2.2,0<=a/\a<=1) (λx=>(n-x.1).toNat) ⟨⟨by omega,by omega⟩,h1.1,by simp,by simp⟩ oaa ?_
  rintro⟨v2,v3,v4,v5,v6⟩ ⟨⟨i0,i1⟩,i2,i3,i4⟩
  simp only at i0 i1 i2 i3 i4
  simp only[Am,<-hn]
  refine Wp.cond (λhb=>?_) (λhb=>Wp.some ⟨i2,by have:=zy60 hb;grind,i4⟩)
  have hb:=zy59 hb
  refine Wp.call (dD i2 oaa) λr12 h12=>Wp.ok (zy63 (by simp;omega) (by simp;omega)) (Wp.some ⟨⟨⟨?_,?_⟩,h12.1,?_,?_⟩,?_⟩)
  all_goals simp only[zy46 (show-9223372036854775808<=v2+1/\v2+1<=9223372036854775807 by omega)]
  .omega
  .omega
  .simp;omega
  .grind
  omega
 rintro⟨v8,v9,v10,v11⟩ ⟨hc,hl,har⟩
 simp only at hc hl har
 refine Wp.call (P:=λx=>zy406 ⟨x.1,x.2.1,x.2.2.1⟩/\((x.2.2.2.length:Int)=n/\∀e∈x.2.2.2,e.2.length<=200)/\JM x.2.2.2) ?_ ?_
 .refine Wp.iterF (λx=>(1<=x.1/\x.1<=n)/\zy406 ⟨x.2.1,x.2.2.1,x.2.2.2.1⟩/\((x.2.2.2.2.length:Int)=n/\∀e∈x.2.2.2.2,e.2.length<=20*x.1.toNat)/\JM x.2.2.2.2) (λx=>(n-x.1).toNat) ⟨⟨by omega,by omega⟩,hc,⟨by grind,by simp⟩,⟨by grind,λi e he x hx=>?_,λi j e f he hf hj=>?_⟩⟩ oaa ?_
  .grind
  .grind
  rintro⟨v13,v14,v15,v16,v17⟩ ⟨⟨i0,i1⟩,i2,⟨i3,i4⟩,i5⟩
  simp only at i0 i1 i2 i3 i4 i5
  simp only[An,<-hn]
  refine Wp.cond (λhb=>?_) (λhb=>Wp.some ⟨i2,⟨i3,λe he=>by grind⟩,i5⟩)
  have hb:=zy59 hb
  refine Wp.call (P:=λx=>zy406 ⟨x.1,x.2.1,x.2.2.1⟩/\((x.2.2.2.length:Int)=n/\∀e∈x.2.2.2,e.2.length<=20*v13.toNat+2*v13.toNat)/\JM x.2.2.2) ?_ ?_
  .refine Wp.iterF (λx=>(0<=x.1/\x.1<=v13)/\zy406 ⟨x.2.1,x.2.2.1,x.2.2.2.1⟩/\((x.2.2.2.2.length:Int)=n/\∀e∈x.2.2.2.2,e.2.length<=20*v13.toNat+2*x.1.toNat)/\JM x.2.2.2.2) (λx=>(v13-x.1).toNat) ⟨⟨by omega,by omega⟩,i2,⟨i3,by grind⟩,i5⟩ oaa ?_
   rintro⟨v43,v44,v45,v46,v47⟩ ⟨⟨j0,j1⟩,j2,⟨j3,j4⟩,j5⟩
   simp only at j0 j1 j2 j3 j4 j5
   simp only[Ao]
   refine Wp.cond (λhc=>?_) (λhc=>Wp.some ⟨j2,⟨j3,λe he=>by grind⟩,j5⟩)
   have hc:=zy59 hc
   refine Wp.call (P:=λx=>zy406 ⟨x.2.1,x.2.2.1,x.2.2.2⟩) ?_ ?_
   .refine Wp.cond (λ_=>Wp.call (vz j2 oaa) λr62 h62=>?_) (λ_=>Wp.call (vz j2 oaa) λr64 h64=>Wp.some h64)
    exact Wp.cond (λ_=>Wp.some h62) (λ_=>Wp.call (vz h62 oaa) λr63 h63=>Wp.some h63)
   rintro⟨v58,v59,v60,v61⟩ hc2
   refine Wp.call (P:=λx=>((x.length:Int)=n/\∀e∈x,e.2.length<=20*v13.toNat+2*v43.toNat+2)/\JM x) ?_ ?_
   .refine Wp.cond (λ_=>Wp.call (zy414 (B:=20*v13.toNat+2*v43.toNat) oaa j4 j5 oaa oaa oaa oaa oaa) λr65 h65=>Wp.some ⟨⟨by omega,h65.1.2⟩,h65.2⟩) (λ_=>Wp.some ⟨⟨j3,λe he=>by grind⟩,j5⟩)
   intro v62 h62
   refine Wp.some ⟨⟨⟨?_,?_⟩,hc2,⟨h62.1.1,λe he=>?_⟩,h62.2⟩,?_⟩
   all_goals simp only[zy46 (show-9223372036854775808<=v43+1/\v43+1<=9223372036854775807 by omega)]
   .omega
   .omega
   .grind
   omega
  rintro⟨v55,v56,v57,v58⟩ ⟨k1,⟨k2,k3⟩,k4⟩
  simp only at k1 k2 k3 k4
  refine Wp.some ⟨⟨⟨?_,?_⟩,k1,⟨k2,λe he=>?_⟩,k4⟩,?_⟩
  all_goals simp only[zy46 (show-9223372036854775808<=v13+1/\v13+1<=9223372036854775807 by omega)]
  .omega
  .omega
  .grind
  omega
 rintro⟨v40,v41,v42,v43⟩ ⟨hc,⟨hl,hb⟩,hj⟩
 simp only at hc hl hb hj
 have hn5:2<=v43.length/\v43.length<=5:=by omega
 refine Wp.call (P:=λx=>((x.length:Int)=n/\∀e∈x,e.2.length<=200)/\∀(i:Nat) e,v43[i]?=ς e->∃e',x[i]?=ς e'/\RW n e e') ?_ λv78 h78=>Wp.some ⟨hc,⟨by grind,h78.1.2⟩,zy415 hj (by grind) hn5 (by grind)⟩
 refine Wp.iterF (λx=>(0<=x.1/\x.1<=n)/\((x.2.length:Int)=n/\∀e∈x.2,e.2.length<=200)/\∀(i:Nat) e,v43[i]?=ς e->∃e',x.2[i]?=ς e'/\((i:Int)<x.1->RW n e e')/\(x.1<=(i:Int)->e'=e)) (λx=>(n-x.1).toNat) ⟨⟨by omega,by omega⟩,⟨hl,hb⟩,λi e he=>⟨e,he,λhi=>by omega,λ_=>rfl⟩⟩ oaa ?_
 rintro⟨v66,v67⟩ ⟨⟨i0,i1⟩,⟨i3,i4⟩,i5⟩
 simp only at i0 i1 i3 i4 i5
 simp only[Ap,<-hn]
 refine Wp.cond (λhb=>?_) (λhb=>Wp.some ⟨⟨i3,i4⟩,λi e he=>?_⟩)
 rotate_left
 .obtain⟨e',h1,h2,h3⟩:=i5 i e he
  have hi:=(v0.1 he).1
  have:=zy60 hb
  grind
 have hb:=zy59 hb
 obtain⟨q,rfl⟩:∃q:Nat,v66=q:=⟨v66.toNat,by omega⟩
 obtain⟨e0,he0⟩:∃e0,v43[q]?=ς e0:=⟨_,ZM oaa⟩
 obtain⟨eq',hq1,_,hq3⟩:=i5 q e0 he0
 have hq3:=hq3 (abK _)
 subst hq3
 have hl0:=i4 eq' (ZL hq1)
 refine Wp.call (P:=λx=>(x.length:Int)<=n/\(∀z,z∈x↔z∈eq'.2/\(0<=z/\z<n))/\x.Pairwise λx y=>x<y) ?_ ?_
 .refine Wp.iterF (λx=>(0<=x.1/\x.1<=n)/\(x.2.length:Int)<=x.1/\(∀z,z∈x.2↔z∈eq'.2/\(0<=z/\z<x.1))/\x.2.Pairwise λx y=>x<y) (λx=>(n-x.1).toNat) ⟨⟨by omega,by omega⟩,by simp,λz=>by simp,by simp⟩ oaa ?_
  rintro⟨v79,v80⟩ ⟨⟨j0,j1⟩,j2,j3,j4⟩
  simp only at j0 j1 j2 j3 j4
  simp only[Aq,<-hn]
  refine Wp.cond (λhc=>?_) (λhc=>?_)
  rotate_left
  .have:=zy60 hc
   have e:v79=n:=by omega
   subst e
   exact Wp.some ⟨j2,j3,j4⟩
  have hc:=zy59 hc
  simp only[bh,hq1,abJ,Rs (show eq'.2.length<=1048576 by omega)]
  have key:(eq'.2.any λx=>eqB x v79)=ζ↔v79∈eq'.2:=by
   rw[Z7];exact⟨λ⟨x,h1,h2⟩=>by rw[<-zy61 h2];exact h1,λh=>⟨v79,h,bF _⟩⟩
  refine Wp.call (P:=λx=>(x.length:Int)<=v79+1/\(∀z,z∈x↔z∈eq'.2/\(0<=z/\z<v79+1))/\x.Pairwise λx y=>x<y) ?_ λx hx=>Wp.some ⟨⟨⟨?_,?_⟩,?_,?_,hx.2.2⟩,?_⟩
  .refine Wp.cond (λhh=>Wp.ok (zy63 (by simp;omega) (by simp;omega)) (Wp.some ⟨by simp;omega,λz=>?_,?_⟩)) (λhh=>Wp.some ⟨by omega,λz=>?_,j4⟩)
   .grind
   .grind
   grind
  all_goals simp only[zy46 (show-9223372036854775808<=v79+1/\v79+1<=9223372036854775807 by omega)]
  .omega
  .omega
  .exact hx.1
  .exact hx.2.1
  omega
 intro v84 h84
 simp only[bh,hq1,abJ,abL]
 refine Wp.some ⟨⟨⟨?_,?_⟩,⟨by grind,zy412 i4 (by grind)⟩,λi e he=>?_⟩,?_⟩
 all_goals simp only[zy46 (show-9223372036854775808<=(q:Int)+1/\(q:Int)+1<=9223372036854775807 by omega)]
 .omega
 .omega
 .obtain⟨e',h1,h2,h3⟩:=i5 i e he
  by_cases hi:q=i
  .subst hi
   rw[he0] at he;cases he
   exact⟨(eq'.1,v84),by grind,λ_=>⟨rfl,h84.2.1,h84.2.2,h84.1⟩,λh=>by omega⟩
  grind
 omega
theorem zy417{c:aT}(h:zy406 c):Wp (yQ c) (λr=>zy406 r.2/\zy65 r.1/\zy142 r.1=ζ):=by
 unfold yQ
 exact Wp.call (zy416 h) λr hr=>Wp.some ⟨hr.1,Sn hr.2.1.1.2 (λe he=>by grind),hr.2.2⟩
theorem zy418{L:τ->Option (ct τ ρ)}(mk:Nat->τ)(xs:List α)(p:Nat->α->Bool)(f:ρ)(c:Option ρ)(hl:xs.length<=9223372036854775806)(hs:∀(k:Nat) (x:α),xs[k]?=ς x->k<xs.length->L (mk k)=bif p k x then ς (.next (mk (k+1))) else ς (.done f))(he:L (mk xs.length)=dn c):
 iter L FU (mk 0)=bif zy77 p xs then c else ς f:=by
 have:=zy45 (step:=L) xs.zipIdx (λk (_:Unit)=>mk k) (λ_ y=>bif p y.2 y.1 then ς (.next ()) else ς (.done f)) (λ_=>c) (by simp_all)
  (λk y s hy hk=>by
   have hk':k<xs.length:=by simpa using hk
   have:y=(xs[k],k):=by rw[ZM hk] at hy;simpa using hy.symm
   simp_all) (λs=>by simp_all) ()
 refine Eq.trans (show iter L FU (mk 0)=_ from this) ?_
 have key:∀ys:List (α×Nat),kP (λ(_:Unit) y=>bif p y.2 y.1 then ς (.next ()) else ς (ct.done f)) (λ_=>c) ys ()=bif ys.all (λy=>p y.2 y.1) then c else ς f:=by
  intro ys
  induction ys with
  |nil=>rfl
  |cons x xs ih=>rw[kP];grind
 exact key _
theorem zp(xs:List α):zy77 (λ_ _=>ζ) xs=true:=zy78.2 λ_ _ _=>rfl
theorem Jc(h:zy65 m):ox m=ς m:=by
 have hl:=h.1
 have:=zy418 (L:=iM m) (λk=>((k:Int),m.bp.take k)) m.bp (λ_ _=>ζ) m.bp (ς m.bp) oaa (λk x hx hk=>by
  have hm:=ZL hx
  have h1:=(h.2 x hm).1
  have e:m.bp.take (k+1)=m.bp.take k++[x]:=by rw[abS,hx];rfl
  simp only[iM,cE hk,bh,hx,aaC,e,WRs (k:=k),
   zy63 (b:=8) (n:=x.cy.length) oaa oaa,
   zy63 (b:=32) (n:=(m.bp.take k++[(⟨x.gB,x.cy⟩:fk)]).length) (by simp;omega) (by simp;omega),au]) (by simp[iM])
 rw[zp] at this
 have this:iter (iM m) FU (0,[])=ς m.bp:=by simpa using this
 rw[ox,this];rfl
def zy419(x y:aF):Bool:=eqB x.ID.dQ y.ID.dQ&&(eqB x.ID.bX y.ID.bX&&ζ)
theorem zy420(x y:aF):zy419 x y=(eqB x.ID.dQ y.ID.dQ&&(eqB x.ID.bX y.ID.bX&&ζ)):=rfl
def zy421(rs:List aF)(k:Nat)(x:aF):Bool:=zy92 x&&zy77 (λ_ y=>!zy419 y x) (rs.take k)
def zy422(rs:List aF):Bool:=zy77 (zy421 rs) rs&&leB (rs.length:Int) 4
theorem zy423{xs:List α}{i:Nat}{x:α}(h:(xs.take k)[i]?=ς x):xs[i]?=ς x/\i<k:=by
 grind
theorem zy424{rs:List aF}(hl:rs.length<=1000):rO rs=ς (zy422 rs):=by
 have h2:∀(i:Nat) (x:aF),rs[i]?=ς x->iter (mQ rs (i:Int)) FU 0=bif zy77 (λ_ y=>!zy419 y x) (rs.take i) then ς (.next ((i+1:Nat):Int)) else ς (.done η):=by
  intro i x hx
  have hi:=(v0.1 hx).1
  have hlt:(rs.take i).length=i:=by simp;omega
  refine zy136 (rs.take i) (λ_ y=>!zy419 y x) (ct.done η) _ oaa (λk y hy hk=>?_) (by simp[mQ,hlt,WRs (k:=i)])
  obtain⟨hy',hki⟩:=zy423 hy
  simp only[mQ,cE hki,bh,hx,hy',WRs (k:=k),<-zy420,au]
  cases zy419 y x<;>rfl
 have hL:iter (mP rs) FU 0=bif zy77 (zy421 rs) rs then ς (leB (rs.length:Int) 4) else ς false:=by
  refine zy136 rs (zy421 rs) η _ oaa (λk x hx hk=>?_) (by simp[mP])
  simp only[mP,cE hk,bh,hx,zy93,h2 k x hx,zy421,au]
  cases zy92 x<;>cases zy77 (λ_ y=>!zy419 y x) (rs.take k)<;>rfl
 simp only[rO,hL,zy422]
 grind
def zy425(c:Nat)(rs:List aF)(j:Nat):aC:=⟨⟨(rs.getD j default).ID,(rs.getD j default).eV,(rs.getD j default).cZ⟩,0,abH (j:Int) (c:Int),0,0,0,η,0,⟨1,[],[]⟩⟩
def zy426(p:bK)(rs:List aF)(j:Nat):ah:=⟨rs.getD j default,p,0,⟨0,0,0,0,0⟩,0,0,0,0,0,0,⟨0,0,0⟩,[],⟨1,[]⟩,0,⟨(j:Int),0,0⟩⟩
def zy427(b:Int):Int:=bif inR b 0 100000 then b else 0
def zy428(b:Int):am:=⟨zy427 b,zy427 b,0,[]⟩
def zy429(m:aV)(rs:List aF)(p:bK)(b:Int)(n:Nat):ab:=
 ⟨m,(ZN n).map (zy425 m.bp.length rs),(ZN n).map (zy426 p rs),(ZN n).map (λ_=>zy428 b),[],0,⟨2,3⟩,0,0⟩
def zeroN:ab:=⟨⟨[]⟩,[],[],[],[],0,⟨0,0⟩,0,0⟩
theorem acc_s(b:Int):rx b=ς (zy428 b):=by
 simp only[rx,zy83,abJ,zy428,zy427];cases inR b 0 100000<;>rfl
theorem ses_s(h:ee p)(x:aF)(k:Int):rA x p k=ς (⟨x,p,0,⟨0,0,0,0,0⟩,0,0,0,0,0,0,⟨0,0,0⟩,[],⟨1,[]⟩,0,⟨k,0,0⟩⟩:ah):=by
 have h1:=h.1
 simp only[rA,tv,aaC,zy63 (b:=8) (n:=p.bJ.length) oaa oaa,au];rfl
theorem zy430(c:lN)(k:Int):xt c k=ς (⟨c,0,k,0,0,0,η,0,⟨1,[],[]⟩⟩:aC):=by rfl
theorem zy431(f:Nat->α)(k:Nat):(ZN (k+1)).map f=(ZN k).map f++[f k]:=by rw[List.range_succ,List.map_append];rfl
theorem zy432[Inhabited α]{xs:List α}{x:α}(h:xs[k]?=ς x):xs.getD k default=x:=by simp_all
def mkN(m:aV)(rs:List aF)(p:bK)(b:Int)(k:Nat):Int×List am×List ah×List aC:=((k:Int),(zy429 m rs p b k).aU,(zy429 m rs p b k).an,(zy429 m rs p b k).aj)
theorem new_s(hm:zy65 m){rs:List aF}(hl:rs.length<=1000)(hp:ee p)(b:Int):
 ry m rs p b=ς (bif zy142 m&&(zy111 p&&zy422 rs) then zy429 m rs p b rs.length else zeroN):=by
 simp only[ry,W5 hm,zy113 hp,zy424 hl,abJ]
 cases hv:zy142 m with
 |false=>rfl
 |true=>
  cases zy111 p with
  |false=>rfl
  |true=>
   cases zy422 rs with
   |false=>rfl
   |true=>
    have hc:1<=m.bp.length:=by
     simp only[zy142,hV] at hv
     have:=bE.1 hv.1;omega
    have hz:eqB (m.bp.length:Int) 0=false:=eqB_f.2 oaa
    have:=zy418 (L:=mA m rs p b) (mkN m rs p b) rs (λ_ _=>ζ) ((zy429 m rs p b rs.length).aU,(zy429 m rs p b rs.length).an,(zy429 m rs p b rs.length).aj) (ς ((zy429 m rs p b rs.length).aU,(zy429 m rs p b rs.length).an,(zy429 m rs p b rs.length).aj)) oaa (λk x hx hk=>by
     simp only[mkN,zy429,mA,cE hk,bh,hx,hz,zy430,dy,ses_s hp,acc_s,WRs (k:=k),zy431,
      zy63 (b:=144) (n:=((ZN k).map (zy425 m.bp.length rs)++[(⟨⟨x.ID,x.eV,x.cZ⟩,0,abH (k:Int) (m.bp.length:Int),0,0,0,η,0,⟨1,[],[]⟩⟩:aC)]).length) (by simp;omega) (by simp;omega),
      zy63 (b:=288) (n:=((ZN k).map (zy426 p rs)++[(⟨x,p,0,⟨0,0,0,0,0⟩,0,0,0,0,0,0,⟨0,0,0⟩,[],⟨1,[]⟩,0,⟨(k:Int),0,0⟩⟩:ah)]).length) (by simp;omega) (by simp;omega),
      zy63 (b:=48) (n:=((ZN k).map (λ_=>zy428 b)++[(⟨(zy428 b).fJ,(zy428 b).bm,(zy428 b).dv,[]⟩:am)]).length) (by simp;omega) (by simp;omega),zy425,zy426,zy432 hx,au]
     rfl) (by simp[mkN,mA])
    rw[zp] at this
    simp only[Bool.and_self,Jc hm,au]
    rw[show((0:Int),([]:List am),([]:List ah),([]:List aC))=mkN m rs p b 0 from rfl,this]
    rfl
section
variable{m:aV}{rs:List aF}{p:bK}{b:Int}
theorem zy433:WR 0=0:=zy46 oaa
theorem zy434:WR 1=1:=zy46 oaa
theorem okN(hm:zy65 m)(hp:ee p)(hl:rs.length<=1000):zy76 (zy429 m rs p b rs.length):=by
 refine⟨hm,⟨by simp[zy429];omega,λx hx=>?_⟩,⟨by simp[zy429];omega,λx hx=>?_⟩,⟨by simp[zy429];omega,λx hx=>?_⟩,⟨by simp[zy429],λx hx=>by simp[zy429] at hx⟩⟩
 .obtain⟨k,_,rfl⟩:=aaA.1 hx
  exact⟨⟨by simp[zy425],by simp[zy425]⟩,⟨by simp[zy425],by simp[zy425]⟩⟩
 .obtain⟨k,_,rfl⟩:=aaA.1 hx
  exact⟨hp,⟨by simp[zy426],by simp[zy426]⟩,⟨by simp[zy426],by simp[zy426]⟩⟩
 obtain⟨k,_,rfl⟩:=aaA.1 hx
 exact⟨by simp[zy428],λ_ _=>trivial⟩
theorem Em(f:Nat->α){n:Nat}(hk:k<n):((ZN n).map f)[k]?=ς (f k):=by simp[hk]
theorem zy435{f:Nat->α}{n:Nat}{x:α}(h:((ZN n).map f)[k]?=ς x):k<n/\x=f k:=by
 grind
theorem XH(b:Int):0<=zy427 b/\zy427 b<=100000:=by
 unfold zy427
 cases h:inR b 0 100000 with
 |false=>simp
 |true=>simpa using bE.1 h
variable(H:zy142 m=ζ/\zy111 p=ζ/\zy422 rs=ζ)
include H
theorem zy436:1<=m.bp.length/\m.bp.length<=6:=by
 obtain⟨hv,hs,hr⟩:=id H
 simp only[zy142,hV] at hv
 have:=bE.1 hv.1;omega
theorem zy437(hk:k<rs.length):zy92 (rs.getD k default)=true:=by
 obtain⟨hv,hs,hr⟩:=id H
 simp only[zy422,hV] at hr
 have:=zy78.1 hr.1 k _ (ZM hk)
 simp only[zy421,hV] at this
 simp_all
theorem SS:rs.length<=4:=by
 obtain⟨hv,hs,hr⟩:=id H
 simp only[zy422,hV] at hr
 have:=ww hr.2;omega
theorem zy438(hk:k<rs.length):zy106 (zy425 m.bp.length rs k)=true:=by
 obtain⟨hv,hs,hr⟩:=id H
 have h1:=zy437 H hk
 obtain⟨c1,c2⟩:=zy436 H
 have h2:=zy408 (v:=(k:Int)) (n:=(m.bp.length:Int)) oaa oaa
 simp only[zy92,hV] at h1
 simp only[zy106,zy425,zy89,h1.1,h1.2.1,h1.2.2,bE.2 (show(0:Int)<=abH (k:Int) (m.bp.length:Int)/\abH (k:Int) (m.bp.length:Int)<=5 from⟨h2.1,by omega⟩),abU,abp]
 simp[inR,leB,zy85,oW,zy103,zy77,eqB,zy434]
theorem Y2(hk:k<rs.length):iK (zy426 p rs k)=true:=by
 obtain⟨hv,hs,hr⟩:=id H
 have h1:=zy437 H hk
 have hq:zy99 (⟨(k:Int),0,0⟩:cU)=true:=by simp[zy99,leB]
 simp only[iK,zy426,h1,hs,hq,abU]
 have hp:zy118 (zy426 p rs k)=true:=by
  simp[zy118,zy426,IO,hq,u5,zy433,leB]
 simp only[zy426] at hp
 rw[hp]
 simp[inR,leB,ltB,zy85,zy94,zy114,zy119,zy103,zy77,eqB,zy434]
theorem zy439:ke (zy428 b)=true:=by
 obtain⟨hv,hs,hr⟩:=id H
 obtain⟨b1,b2⟩:=XH b
 simp only[ke,zy428,zy130,zy126,List.foldl_nil,Int.add_zero,zy46 (show-9223372036854775808<=zy427 b/\zy427 b<=9223372036854775807 by omega),bE.2 (show(0:Int)<=zy427 b/\zy427 b<=100000 from⟨b1,b2⟩),bE.2 (show(0:Int)<=zy427 b/\zy427 b<=zy427 b from⟨b1,by omega⟩),bE.2 (show(0:Int)<=0/\(0:Int)<=zy427 b from⟨by omega,b1⟩),bF,abU,abp]
 simp[leB,zy77]
theorem Yk(hk:k<rs.length):yr (zy429 m rs p b rs.length) k (zy425 m.bp.length rs k)=true:=by
 obtain⟨hv,hs,hr⟩:=id H
 obtain⟨c1,c2⟩:=zy436 H
 have h2:=zy408 (v:=(k:Int)) (n:=(m.bp.length:Int)) oaa oaa
 have hq:zy99 (⟨(k:Int),0,0⟩:cU)=true:=by simp[zy99,leB]
 have zy19:(zy429 m rs p b rs.length).an[k]?=ς (zy426 p rs k):=Em _ hk
 have e2:(zy429 m rs p b rs.length).aU[k]?=ς (zy428 b):=Em _ hk
 have i1:zy144 (zy425 m.bp.length rs k) (zy426 p rs k)=true:=by simp[zy144,zy425,zy426]
 have i2:zy138 (zy429 m rs p b rs.length).dV (zy425 m.bp.length rs k).bv=true:=bE.2 (show(0:Int)<=abH (k:Int) (m.bp.length:Int)/\abH (k:Int) (m.bp.length:Int)<=(m.bp.length:Int)-1 from⟨h2.1,by omega⟩)
 have i3:zy138 (zy429 m rs p b rs.length).dV (zy426 p rs k).bv=true:=bE.2 (show(0:Int)<=0/\(0:Int)<=(m.bp.length:Int)-1 from⟨by omega,by omega⟩)
 have i4:zy134 (zy428 b) (zy426 p rs k).bV=true:=by
  have ha:=zy439 (b:=b) H
  simp only[zy428] at ha
  simp[zy134,ha,zy426,hq,zy132,zy428,eqB]
 have i5:eqB (zy426 p rs k).bV.aA (k:Int)=true:=by simp[zy426]
 simp only[yr,zy19,e2,zy438 H hk,Y2 H hk,zy439 (b:=b) H,i1,i2,i3,i4,i5,abp]
theorem zy440:kf (zy429 m rs p b rs.length)=true:=by
 obtain⟨hv,hs,hr⟩:=id H
 obtain⟨c1,c2⟩:=zy436 H
 have hl:=SS H
 have he:zy145 (zy429 m rs p b rs.length)=true:=by
  have:∀c:Nat,1<=c->c<=6->inR 0 0 (WR ((lO .i64 1 (c:Int))-1))=true:=by
   intro c h1 h2
   rcases(show c=1\/c=2\/c=3\/c=4\/c=5\/c=6 by omega) with rfl|rfl|rfl|rfl|rfl|rfl<;>kernel_rfl
  simp only[zy145,zy429,this _ c1 c2,abU];simp[inR,leB]
 have hp:kE (zy429 m rs p b rs.length).d8=true:=by show kE ⟨2,3⟩=ζ;kernel_rfl
 have ha:zy77 (yr (zy429 m rs p b rs.length)) (zy429 m rs p b rs.length).aj=true:=zy78.2 λk d hd=>by
  obtain⟨hk,rfl⟩:=zy435 hd
  exact Yk H hk
 have hd:(zy429 m rs p b rs.length).aj.length=rs.length:=by simp[zy429]
 have hse:(zy429 m rs p b rs.length).an.length=rs.length:=by simp[zy429]
 have hac:(zy429 m rs p b rs.length).aU.length=rs.length:=by simp[zy429]
 simp only[kf,show zy142 (zy429 m rs p b rs.length).dV=ζ from hv,hp,ha,he,hd,hse,hac,bF,leB_t.2 (show(rs.length:Int)<=4 by omega),abU,abp]
 simp[zy429,leB,eqB]
end
theorem zy441:∀(l:List Int) (r:ByteArray),(l.foldl (λr n=>r.push (UInt8.ofNat n.toNat)) r).data.toList=r.data.toList++l.map λn=>UInt8.ofNat n.toNat
 |[],r=>by simp
 |x::l,r=>by
  rw[ab1,zy441 l,aaD]
  simp_all
theorem zy442{a b:List Int}(ha:okB a)(hb:okB b)(h:uz a=uz b):a=b:=by
 have h1:=zy441 a ByteArray.empty
 have h2:=zy441 b ByteArray.empty
 have e:(a.foldl (λr n=>r.push (UInt8.ofNat n.toNat)) ByteArray.empty).data.toList=(b.foldl (λr n=>r.push (UInt8.ofNat n.toNat)) ByteArray.empty).data.toList:=by
  have:uz a=uz b:=h
  unfold uz at this;rw[this]
 rw[h1,h2] at e
 replace e:=List.append_cancel_left e
 clear h h1 h2
 induction a generalizing b with
 |nil=>simp_all
 |cons x a ih=>cases b with
  |nil=>simp at e
  |cons y b=>
   simp only[aaD,List.cons.injEq] at e
   have hx:=ha x (by simp)
   have hy:=hb y (by simp)
   have zy19:=congrArg UInt8.toNat e.1
   simp only[zy54] at hx hy
   rw[UInt8.toNat_ofNat',UInt8.toNat_ofNat'] at zy19
   rw[ih (λz hz=>ha z (by simp[hz])) (λz hz=>hb z (by simp[hz])) e.2,show x=y by omega]
theorem zy443{a b:List Int}(ha:okB a)(hb:okB b):strB (uz a) (uz b)=decide (a=b):=by
 rw[abM,strB_t,decide_eq_true_eq]
 exact⟨zy442 ha hb,λh=>by rw[h]⟩
theorem V0{x y:aD}(hx:okB x.bz.bb)(hy:okB y.bz.bb):rp x y=ς (decide (x=y)):=by
 have key:(bif eqB x.ag y.ag then bif eqB x.bi y.bi then bif eqB x.bz.dE y.bz.dE then bif eqB x.bz.ga y.bz.ga then bif eqB x.bz.jD y.bz.jD then decide (x.bz.bb=y.bz.bb) else η else η else η else η else η)=decide (x=y):=by
  rw[abM]
  obtain⟨g,e,⟨a,b,c,d⟩⟩:=x
  obtain⟨g',e',⟨a',b',c',d'⟩⟩:=y
  simp only[eqB,cond_eq_ite]
  simp only[decide_eq_true_eq,aD.mk.injEq,bR.mk.injEq]
  constructor
  .simp_all
  simp_all
 rw[<-key]
 simp only[rp,sN,om,zy443 hx hy]
 grind
def zy444(a b:aM):Bool:=(eqB a.bk b.bk&&(eqB a.bv b.bv&&(eqB a.ag b.ag&&(eqB a.bi b.bi&&(eqB a.bX b.bX&&(eqB a.bY.eQ b.bY.eQ&&(eqB a.bY.ie b.bY.ie&&(eqB a.bY.jD b.bY.jD&&(eqB a.bY.wy b.bY.wy&&(eqB a.bY.eV b.bY.eV&&(eqB a.jD b.jD&&ζ)))))))))))
theorem zy445(a b:aM):zy444 a b=decide (a=b):=by
 rw[abM]
 obtain⟨a1,a2,a3,a4,a5,⟨v1,v2,v3,v4,v5⟩,a6⟩:=a
 obtain⟨b1,b2,b3,b4,b5,⟨zy434,w2,w3,w4,w5⟩,b6⟩:=b
 simp only[zy444,hV,eqB_t,decide_eq_true_eq,aM.mk.injEq,cM.mk.injEq]
 grind
theorem YZ{x y:bT}(hx:okB x.cz.bz.bb)(hy:okB y.cz.bz.bb):mR x y=ς (decide (x=y)):=by
 have key:(eqB x.bA y.bA&&(booB x.eH y.eH&&(booB x.dL y.dL&&(eqB x.bv y.bv&&(zy444 x.bw y.bw&&decide (x.cz=y.cz))))))=decide (x=y):=by
  rw[abM]
  obtain⟨a1,a2,a3,a4,a5,a6⟩:=x
  obtain⟨b1,b2,b3,b4,b5,b6⟩:=y
  simp only[zy445,hV,eqB_t,booB_t,decide_eq_true_eq,bT.mk.injEq]
 rw[<-key]
 simp only[mR,V0 hx hy,abJ]
 rw[show(eqB x.bw.bk y.bw.bk&&(eqB x.bw.bv y.bw.bv&&(eqB x.bw.ag y.bw.ag&&(eqB x.bw.bi y.bw.bi&&(eqB x.bw.bX y.bw.bX&&(eqB x.bw.bY.eQ y.bw.bY.eQ&&(eqB x.bw.bY.ie y.bw.bY.ie&&(eqB x.bw.bY.jD y.bw.bY.jD&&(eqB x.bw.bY.wy y.bw.bY.wy&&(eqB x.bw.bY.eV y.bw.bY.eV&&(eqB x.bw.jD y.bw.jD&&ζ)))))))))))=zy444 x.bw y.bw from rfl]
 grind
def hUp(s:ah)(m:aM):Bool:=
 bif eqB m.bk 3 then leB m.ag s.bH.cZ&&(!eqB m.ag s.bG||!eqB m.bX s.aO.wy) else
 bif eqB m.bk 5||eqB m.bk 8 then ltB m.ag s.ag||(eqB m.ag s.ag&&!zy190 s.aY m) else ζ
def D4(d:aC)(m:aM):Bool:=
 bif eqB m.bk 2 then eqB (zy200 d.dx.eV d.dx.dJ m.bY) 1||eqB (zy200 d.dx.eV d.dx.dJ m.bY) 2 else
 bif eqB m.bk 4||eqB m.bk 6 then ltB m.ag d.ag||(eqB m.ag d.ag&&!zy190 d.aY m) else ζ
def zy446(d:aC)(x:aD):Bool:=ltB x.ag d.ag||(eqB x.ag d.ag&&!zy172 d.aY x)
def Rq(n:ab)(f:bT):Bool:=match n.aj[f.bA.toNat]?,n.an[f.bA.toNat]? with
 |some d,ς s=>bif f.dL then f.eH||zy446 d f.cz else bif f.eH then hUp s f.bw else D4 d f.bw
 |_,_=>ζ
def zy447(n:ab)(e:cY):Bool:=!eqB e.bk 13||(!zy400 n e.bN||(n.aZ.any (λf=>decide (f=e.bN))||Rq n e.bN))
theorem hUp_s(s:ah)(m:aM):mS s m=ς (hUp s m):=by
 simp only[mS,zy192,abJ,hUp]
 grind
theorem zy448{d:aC}(m:aM):ky d m=ς (D4 d m):=by
 simp only[ky,zy192,NG,abJ,D4]
 grind
theorem zy449(h:NP B n)(f:bT):iY n f=ς (zy400 n f):=by
 have hm6:=mj h.map
 have hl:=h.ld
 simp only[iY,zy400,zy83,zy46 (n:=(n.dV.bp.length:Int)-1) oaa,zy46 (n:=(n.aj.length:Int)-1) oaa,abJ]
 rw[show inR f.bv 0 ((n.dV.bp.length:Int)-1)=zy138 n.dV f.bv from rfl]
 grind
theorem Vt(h:NP B n)(he:EP e):zy22 n e=ς (zy447 n e):=by
 have hfl:=h.fl
 simp only[zy22,zy146 h.okN,h.vn,zy449 h,abJ,zy447]
 cases eqB e.bk 13
 .rfl
 cases hp:zy400 n e.bN
 .rfl
 simp only[aam,au]
 simp only[zy400,hV,bE] at hp
 obtain⟨d,s,a,zy19,e2,e3,hm⟩:=h.at_ (show e.bN.bA.toNat<n.aj.length by omega)
 have hdev:=zy356 e.bN.bA hp.2.1.1
 have i1:ix n.aj e.bN.bA=ς d:=by rw[hdev,bh];exact zy19
 have i2:ix n.an e.bN.bA=ς s:=by rw[hdev,bh];exact e2
 have:=zy136 (L:=zy21 n e) n.aZ (λ_ f=>!decide (f=e.bN)) ζ (ς (Rq n e.bN)) oaa (λk x hx hk=>by
  have hx':=h.fs x (ZL hx)
  simp only[zy21,cE hk,bh,hx,YZ hx'.b he.r,WRs (k:=k),dn,au]
  grind) (by
  simp only[zy21,zy49,i1,i2,hUp_s,zy448,zy173 he.r,Rq,zy19,e2,zy446,au]
  grind)
 rw[this,zy80]
 grind
theorem zy450(x:Int): -9223372036854775808<=WR x/\WR x<=9223372036854775807:=by
 have e:WR x=if x%18446744073709551616 >= 9223372036854775808 then x%18446744073709551616-18446744073709551616 else x%18446744073709551616:=by
  show IntKind.wrap .i64 x=_
  unfold IntKind.wrap
  simp[IntKind.bits,IntKind.signed]
 rw[e]
 split<;>omega
abbrev R64(x:Int):Prop:= -9223372036854775808<=x/\x<=9223372036854775807
theorem R64.z:R64 0:=by decide
def SgR(m:aM):Prop:=R64 m.ag/\R64 m.bi
def SgC(m:aM):Prop:=R64 m.bv/\SgR m
def RaR(x:aD):Prop:=R64 x.bz.ga/\R64 x.bi
structure RgF(f:bT):Prop where
 d:R64 f.bA
 c:R64 f.bv
 k:R64 f.bw.bv
 s:SgR f.bw
 r:RaR f.cz
theorem zy451{c:aT}(h:zy406 c):Wp (yT c) (λr=>zy406 r.2/\r.1.bJ.length<=4/\zy111 r.1=ζ):=by
 unfold yT
 refine Wp.call (dD h oaa) λr1 h1=>Wp.call (dD h1.1 oaa) λr2 h2=>Wp.call (dD h2.1 oaa) λr3 h3=>?_
 refine Wp.call (P:=λx=>zy406 x.2/\x.1.length<=4/\(∀a∈x.1,0<=a/\a<=3)/\x.1.Pairwise λa b=>a<b) ?_ ?_
 .refine Wp.iterF (λx=>(0<=x.1/\x.1<=4)/\zy406 x.2.2/\(x.2.1.length:Int)<=x.1/\(∀a∈x.2.1,0<=a/\a<x.1)/\x.2.1.Pairwise λa b=>a<b) (λx=>(4-x.1).toNat) ⟨⟨by omega,by omega⟩,h3.1,by simp,by simp,by simp⟩ (by simp) ?_
  rintro⟨v4,v8,v9⟩ ⟨⟨i0,i1⟩,i2,i3,i4,i5⟩
  simp only at i0 i1 i2 i3 i4 i5
  simp only[As]
  refine Wp.cond (λhb=>?_) (λhb=>Wp.some ⟨i2,by grind,λa ha=>by grind,i5⟩)
  have hb:=zy59 hb
  refine Wp.call (vz i2 oaa) λr15 h15=>?_
  refine Wp.call (P:=λx=>(x.length:Int)<=v4+1/\(∀a∈x,0<=a/\a<v4+1)/\x.Pairwise λa b=>a<b) ?_ λx hx=>Wp.some ⟨⟨⟨?_,?_⟩,h15,?_,?_,hx.2.2⟩,?_⟩
  .refine Wp.cond (λ_=>Wp.ok (zy63 (by simp;omega) (by simp;omega)) (Wp.some ⟨by simp;omega,λa ha=>?_,?_⟩)) (λ_=>Wp.some ⟨by omega,λa ha=>by grind,i5⟩)
   .grind
   grind
  all_goals simp only[zy46 (show-9223372036854775808<=v4+1/\v4+1<=9223372036854775807 by omega)]
  .omega
  .omega
  .exact hx.1
  .exact hx.2.1
  omega
 rintro⟨x,c2⟩ ⟨k1,k2,k3,k4⟩
 simp only at k1 k2 k3 k4
 refine Wp.some ⟨k1,k2,?_⟩
 simp only[zy111,Cl,hV,bE,zy78]
 rw[zy46 (show-9223372036854775808<=1+r1.1/\1+r1.1<=9223372036854775807 by omega),zy46 (show-9223372036854775808<=1+r2.1/\1+r2.1<=9223372036854775807 by omega),zy46 (show-9223372036854775808<=1+r3.1/\1+r3.1<=9223372036854775807 by omega)]
 refine⟨⟨by omega,by omega,by omega⟩,λk a ha=>⟨k3 a (ZL ha),zy224 (key:=id) (by simp_all) ha⟩⟩
theorem zy452{c:aT}(h:zy406 c):Wp (lq c) (λr=>zy406 r.2/\(1<=r.1.length/\r.1.length<=3)/\zy422 r.1=ζ/\∀y∈r.1,y.cZ<=20):=by
 unfold lq
 refine Wp.call (dD h oaa) λr1 h1=>?_
 have hw:WR (1+r1.1)=1+r1.1:=zy46 oaa
 refine Wp.call (P:=λx=>zy406 x.2/\(x.1.length:Int)=1+r1.1/\∀(k:Nat) y,x.1[k]?=ς y->zy92 y=ζ/\y.ID.bX=1+r1.1-k/\y.cZ<=20) ?_ ?_
 .refine Wp.iterF (λx=>0<=x.1/\zy406 x.2.2/\(x.2.1.length:Int)+x.1=1+r1.1/\∀(k:Nat) y,x.2.1[k]?=ς y->zy92 y=ζ/\y.ID.bX=1+r1.1-k/\y.cZ<=20) (λx=>x.1.toNat) ⟨by omega,h1.1,by rw[hw];simp,by simp⟩ oaa ?_
  rintro⟨v2,v6,v7⟩ ⟨i0,i2,i3,i4⟩
  simp only at i0 i2 i3 i4
  simp only[qK]
  refine Wp.cond (λhb=>?_) (λhb=>Wp.some ⟨i2,by have:=zy60 hb;grind,i4⟩)
  have hb:=zy59 hb
  have hkey:Wp (xD v7) (λr=>zy406 r.2/\zy85 r.1=ζ):=by
   unfold xD
   exact Wp.call (dD i2 oaa) λr1 h1=>Wp.some ⟨h1.1,bE.2 (by rw[zy46 oaa];omega)⟩
  refine Wp.call hkey λr13 h13=>Wp.call (dD h13.1 oaa) λr14 h14=>Wp.ok (zy63 (by simp;omega) (by simp;omega)) (Wp.some ⟨⟨?_,h14.1,?_,λk y hy=>?_⟩,?_⟩)
  rotate_left 2
  .rw[List.getElem?_append] at hy
   split at hy
   .grind
   rename_i hk
   have hk0:k-v6.length=0:=by
    have:=(v0.1 hy).1
    simp at this;omega
   rw[hk0] at hy
   simp at hy;subst hy
   simp only[zy92,Lr,hV,bE]
   grind
  all_goals simp only[zy46 (show-9223372036854775808<=v2-1/\v2-1<=9223372036854775807 by omega)]
  .omega
  .omega
  grind
 rintro⟨x,c2⟩ ⟨k1,k2,k3⟩
 simp only at k1 k2 k3
 refine Wp.some ⟨k1,by grind,?_,λy hy=>by obtain⟨k,hk⟩:=ZY hy;grind⟩
 simp only[zy422,hV,zy78,zy421]
 refine⟨λk y hy=>⟨(k3 k y hy).1,λi z hz=>?_⟩,leB_t.2 oaa⟩
 obtain⟨hz1,hz2⟩:=zy423 hz
 have zy19:=(k3 k y hy).2.1
 have e2:=(k3 i z hz1).2.1
 have:eqB z.ID.bX y.ID.bX=false:=eqB_f.2 oaa
 simp[zy419,this]
inductive zy453:Nat->ab->Prop
 |new {m:aV} {rs:List aF} {p:bK} {b:Int} (h:zy142 m=ζ/\zy111 p=ζ/\zy422 rs=ζ) (hm:zy65 m) (hp:ee p) (hl:1<=rs.length/\rs.length<=3) (hq:∀y∈rs,y.cZ<=20):zy453 0 (zy429 m rs p b rs.length)
 |step {k:Nat} {n:ab} {e:cY}:zy453 k n->EP e->zy447 n e=ζ->zy453 (k+1) (zy403 n e).2
def FS(n:ab)(e:cY):Prop:=e.bk=13->RgF e.bN/\(e.bN.dL=ζ->e.bN.eH=η/\∃d,n.aj[e.bN.bA.toNat]?=ς d/\e.bN.cz.ag=d.ag/\zy172 d.aY e.bN.cz=η)
theorem BM(n:ab)(h:e.bk≠13):FS n e:=λh1=>absurd h1 h
inductive zy454:Nat->ab->Prop
 |new {m:aV} {rs:List aF} {p:bK} {b:Int} (h:zy142 m=ζ/\zy111 p=ζ/\zy422 rs=ζ) (hm:zy65 m) (hp:ee p) (hl:1<=rs.length/\rs.length<=3) (hq:∀y∈rs,y.cZ<=20):zy454 0 (zy429 m rs p b rs.length)
 |step {k:Nat} {n:ab} {e:cY}:zy454 k n->EP e->zy447 n e=ζ->FS n e->zy454 (k+1) (zy403 n e).2
theorem zy454.re:∀{k:Nat} {n:ab},zy454 k n->zy453 k n
 |_,_,.new h hm hp hl hq=>.new h hm hp hl hq
 |_,_,.step h he hh _=>.step h.re he hh
theorem zy453.np:∀{k:Nat} {n:ab},zy453 k n->k<=1000000->NP (10000*(k:Int)) n
 |_,_,.new (m:=m) (rs:=rs) (p:=p) (b:=b) h hm hp hl _,_=>by
  have ok:zy76 (zy429 m rs p b rs.length):=okN hm hp oaa
  have v:=zy440 (b:=b) h
  have by':BY (zy429 m rs p b rs.length):=by
   refine⟨λd hd=>?_,λd hd=>?_,λs hs=>?_,λs hs=>?_,by simp[zy429]⟩
   .simp only[zy429,aaA] at hd;obtain⟨j,_,rfl⟩:=hd;simp[zy425]
   .simp only[zy429,aaA] at hd;obtain⟨j,_,rfl⟩:=hd;simp[zy425]
   .simp only[zy429,aaA] at hs;obtain⟨j,_,rfl⟩:=hs;simp[zy426]
   simp only[zy429,aaA] at hs;obtain⟨j,_,rfl⟩:=hs;simp[zy426]
  exact(NP.of ok v by').mono (by show(0:Int)<=_;omega)
 |_,_,.step (k:=k) h he _,hk=>by
  have:=(zy404 (h.np oaa) he oaa).2.2
  grind
theorem zy455{k c:Int}{b:List Int}(hb:okB b):EP ⟨k,i,c,b,oF⟩:=⟨hb,GV,λx hx=>by simp[oF,fj,kC] at hx⟩
theorem uW(n:ab)(h:e.bk≠13):zy447 n e=true:=by
 rw[zy447,eqB_f.2 h];rfl
theorem VW(h:NP B n){i:Nat}(hs:n.an[i]?=ς s)(b:List Int):(zy403 n ⟨8,i,0,b,oF⟩).2={n with an:=n.an.set i (zy246 s b).1}:=by
 have hi:=(v0.1 hs).1
 have hls:=h.ls
 obtain⟨d,s',a,zy19,e2,e3,hm⟩:=h.at_ (show i<n.aj.length by omega)
 have hr:inR (i:Int) 0 ((n.aj.length:Int)-1)=true:=bE.2 oaa
 simp only[zy403]
 rw[if_neg (show ¬(8:Int)=1 by omega),if_neg (show ¬((8:Int)=2\/(8:Int)=3\/(8:Int)=4) by omega),if_pos (show(8:Int)=5\/(8:Int)=6\/(8:Int)=7\/True by simp)]
 simp only[zy396,hr,abL,zy19,hs,zy390,zy391,zy392,au]
 cases hb:(zy246 s b).2
 .have hs':(zy246 s b).1=s:=by
   revert hb;rw[zy246];cases leB 24 (s.av.length:Int)||ltB 60 (b.length:Int)
   .simp_all
   intro _;rfl
  simp only[cond_false,hs',zy343 hs]
 rfl
theorem YE(h:NP B n){i:Nat}{d:aC}(hd:n.aj[i]?=ς d):(zy403 n ⟨5,i,0,[],oF⟩).2=zy340 n i (dOn d):=by
 have hi:=(v0.1 hd).1
 obtain⟨d',s,a,zy19,e2,e3,hm⟩:=h.at_ hi
 have hr:inR (i:Int) 0 ((n.aj.length:Int)-1)=true:=bE.2 oaa
 simp only[zy403]
 rw[if_neg (show ¬(5:Int)=1 by omega),if_neg (show ¬((5:Int)=2\/(5:Int)=3\/(5:Int)=4) by omega),if_pos (show True\/(5:Int)=6\/(5:Int)=7\/(5:Int)=8 by simp)]
 simp only[zy396,hr,abL,hd,e2,bF,au]
 cases hb:eqB d.bB 0
 .simp only[zy340,dOn,hb,zy343 hd,List.map_nil,au];rfl
 rfl
end Go.AM
