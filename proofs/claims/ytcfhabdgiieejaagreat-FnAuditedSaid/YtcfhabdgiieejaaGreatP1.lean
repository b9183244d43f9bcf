/- A part. -/
import Derived.Test.YtcfhabdgiieejaaGreatL
set_option linter.unusedVariables false
set_option linter.unusedSimpArgs false
set_option maxHeartbeats 4000000
open Option renaming bind_some->abM,bind->abJ,map_some->abZ,bind_assoc->ach
open List renaming getElem?_eq_getElem->v0,getElem?_eq_some_iff->aaa,mem_of_getElem?->aab,mem_append->aae,nil_append->abb,length_cons->aak,getElem?_of_mem->aal,pairwise_append->abR,pairwise_cons->abT,replicate->aac,getElem?_mapIdx->abX,takeWhile_append_dropWhile->ab9,mem_map->aba,mem_cons->aaf,ext_getElem?->abS,getElem?_set->abu,all_eq_true->aag,takeWhile_cons->ab7,mem_singleton->abg,range->f5,getElem_mem->ab3,length_nil->abV,length_append->aaz,take_of_length_le->aca,cons_append->aav,filter_cons->acb,dropWhile_subset->ace,length_filter_le->acf,length_singleton->acg,foldl_cons->ab8,mem_filter->ab1,mem_range->ab4,length->ab5,take_add_one->ab2,append_assoc->ab6,drop_eq_getElem_cons->aaX,rel_of_pairwise_cons->acp,getElem?_append_left->aaq,getElem?_eq_none->acd,drop_left->acj,drop_drop->aaK,takeWhile_subset->acq,length_replicate->acr,mem_of_mem_take->aas,dropWhile_cons->acs,any_eq_false->abA,drop_length->acw,length_take->aaM,take_left->acm,map_id'->acz
open Bool renaming and_eq_true->hV,or_eq_false_iff->aam,eq_iff_iff->abO,not_eq_false'->abU,and_true->abQ,or_self->ab0,not_eq_true'->aaw,true_and->abW,and_false->acx,false_and->acy,false_or->aaC,or_false->acn,true_or->aco
open Int renaming toNat_natCast->abN,tmod_eq_emod_of_nonneg->abP,tmod->abK,add_emod_right->acu,emod_lt_of_pos->ack,emod_eq_of_lt->acv,emod_nonneg->acl
open Nat renaming add_sub_cancel->abY,le_refl->aah,mul_le_mul->aci,zero_le->aap,le_trans->abd
namespace Go.AM
variable {σ τ ρ α β:Type} {n:Go.AM.ab} {k:Nat} {p:Go.AM.cG} {a:Go.AM.aj} {b i B:Int} {r:Go.AM.aP} {w:Go.AM.aY} {s:Go.AM.ah} {x:Go.AM.ae} {m:Go.AM.aS} {f:Go.AM.bM} {q:Go.AM.cP} {t:List Go.AM.aD}
theorem gZ:9223372036854775808<=FU:=by unfold FU;omega
def lk {α σ ρ:Type} (body:σ->α->Option (cr σ ρ)) (fin:σ->Option ρ):List α->σ->Option ρ
 |[],s=>fin s
 |x::xs,s=>match body s x with
  |some (.next s')=>lk body fin xs s'
  |some (.done r)=>some r
  |none=>none
def BQ (f:σ->τ):Option (cr σ ρ)->Option (cr τ ρ)
 |some (.next s)=>some (.next (f s))
 |some (.done r)=>some (.done r)
 |none=>none
@[simp] theorem stepM_next (f:σ->τ) (s:σ):BQ (ρ:=ρ) f (some (.next s))=some (.next (f s)):=rfl
@[simp] theorem stepM_done (f:σ->τ) (r:ρ):BQ f (some (.done r))=some (.done r):=rfl
@[simp] theorem stepM_none (f:σ->τ):BQ (ρ:=ρ) f none=none:=rfl
@[simp] theorem stepM_cond (f:σ->τ) (b:Bool) (x y:Option (cr σ ρ)):BQ f (bif b then x else y)=bif b then BQ f x else BQ f y:=by cases b<;>rfl
@[simp] theorem stepM_bind (f:σ->τ) (o:Option α) (k:α->Option (cr σ ρ)):BQ f (abJ o k)=abJ o (λa=>BQ f (k a)):=by cases o<;>rfl
@[simp] theorem dn_some (r:ρ):dn (σ:=σ) (some r)=some (.done r):=rfl
@[simp] theorem dn_none {ρ:Type}:dn (σ:=σ) (ρ:=ρ) none=none:=rfl
theorem eJ {step:τ->Option (cr τ ρ)} (xs:List α) (mk:Nat->σ->τ) (body:σ->α->Option (cr σ ρ)) (fin:σ->Option ρ) (hl:xs.length<=9223372036854775806)
 (hs:∀(k:Nat) (x:α) (s:σ),xs[k]?=some x->k<xs.length->step (mk k s)=BQ (mk (k+1)) (body s x))
 (he:∀s,step (mk xs.length s)=dn (fin s)) (s0:σ):iter step FU (mk 0 s0)=lk body fin xs s0:=by
 have key:∀(m n:Nat) (s:σ) (k:Nat),m=xs.length-k->k<=xs.length->m<n->iter step n (mk k s)=lk body fin (xs.drop k) s:=by
  intro m
  induction m with
  |zero=>
   intro n s k hm hk hn
   cases n with
   |zero=>omega
   |succ n=>
    have:k=xs.length:=by omega
    subst this
    rw[acw,lk,iter,he]
    cases fin s<;>rfl
  |succ m ih=>
   intro n s k hm hk hn
   cases n with
   |zero=>omega
   |succ n=>
    have hlt:k<xs.length:=by omega
    rw[aaX hlt,lk,iter,hs k xs[k] s (v0 hlt) hlt]
    cases hb:body s xs[k] with
    |none=>rfl
    |some o=>
     cases o with
     |done r=>rfl
     |next s'=>exact ih n s' (k+1) oaa oaa oaa
 have:=key (xs.length-0) FU s0 0 rfl (aap _) (by have:=gZ;omega)
 simp_all
theorem bu (xs:List α) (k:Nat):ix xs (k:Int)=xs[k]?:=by simp[ix,leB]
theorem bP {n:Int} (h: -9223372036854775808<=n/\n<=9223372036854775807):WR n=n:=Kc h
theorem nP (h:k<9223372036854775807):WR ((k:Int)+1)=((k+1:Nat):Int):=by rw[bP oaa];omega
theorem WRs (h:k<9223372036854775807:=by omega):WR ((k:Int)+1)=((k+1:Nat):Int):=nP h
theorem rt {p:Prop} (h:p:=by first|rfl|trivial):p:=h
theorem cA {a b:Nat} (h:a<b):ltB (a:Int) (b:Int)=true:=by simp[ltB,h]
theorem cg (a:Int):ltB a a=false:=by simp[ltB]
theorem bX (a:Int):eqB a a=true:=by simp[eqB]
theorem QZ {step:Int×List β->Option (cr (Int×List β) (List β))} (f:α->β) (z:β) (xs:List α) (hl:xs.length<=9223372036854775806)
 (hs:∀(k:Nat) (x:α) (v:List β),xs[k]?=some x->v.length=xs.length->step ((k:Int),v)=some (.next (((k+1:Nat):Int),v.set k (f x))))
 (he:∀v,step ((xs.length:Nat),v)=some (.done v)):iter step FU (0,aac xs.length z)=some (xs.map f):=by
 have key:∀(m n:Nat) (k:Nat),m=xs.length-k->k<=xs.length->m<n->iter step n ((k:Int),(xs.take k).map f++aac (xs.length-k) z)=some (xs.map f):=by
  intro m
  induction m with
  |zero=>
   intro n k hm hk hn
   cases n with
   |zero=>omega
   |succ n=>
    have:k=xs.length:=by omega
    subst this
    rw[iter,he]
    simp
  |succ m ih=>
   intro n k hm hk hn
   cases n with
   |zero=>omega
   |succ n=>
    have hlt:k<xs.length:=by omega
    rw[iter,hs k xs[k] _ (v0 hlt) (by simp;omega)]
    have e:((xs.take k).map f++aac (xs.length-k) z).set k (f xs[k])=(xs.take (k+1)).map f++aac (xs.length-(k+1)) z:=by
     apply abS
     intro j
     rw[abu]
     by_cases hj:k=j
     .grind
     grind
    grind
 have:=key (xs.length-0) FU 0 rfl (aap _) (by have:=gZ;omega)
 simp_all
attribute [local simp] cg bX bu
def okL (ok:α->Prop) (xs:List α):Prop:=xs.length<=1048576/\∀x∈xs,ok x
def preL (pre:α->Prop) (xs:List α):Prop:=xs.length<=9223372036854775807/\∀x∈xs,pre x
theorem EA {α ρ:Type} {body:Unit->α->Option (cr Unit ρ)} {fin:Unit->Option ρ}:∀(xs:List α),(∀x∈xs,body () x=some (.next ()))->lk body fin xs ()=fin ()
 |[],_=>rfl
 |x::xs,h=>by rw[lk,h x (by simp)];exact EA xs (λy hy=>h y (by simp[hy]))
theorem lt0_t {r:Int} (h:r<0):ltB r 0=true:=by simp[ltB,h]
theorem lt0_f {r:Int} (h:0<=r):ltB r 0=false:=by simp_all
def sP (by_:Nat) (p:α->Bool) (f:α->β) (acc:List β) (x:α):Option (cr (List β) (List β)):=
 bif p x then(bif da by_ (acc++[f x]).length then some (.next (acc++[f x])) else none) else some (.next acc)
theorem tJ {α β:Type} {by_:Nat} (hb:by_<=100000) (p:α->Bool) (f:α->β):∀(xs:List α) (acc:List β),acc.length+xs.length<=1048576->lk (sP by_ p f) some xs acc=some (acc++(xs.filter p).map f)
 |[],acc,h=>by simp[lk]
 |x::xs,acc,h=>by
  simp only[aak] at h
  rw[lk]
  cases hp:p x with
  |false=>
   rw[List.filter_cons_of_neg (by simp[hp])]
   simpa [sP,hp] using tJ hb p f xs acc oaa
  |true=>
   have ha:da by_ (acc++[f x]).length=true:=by
    have h1:(acc++[f x]).length*by_<=1048577*100000:=aci (by simp;omega) hb
    simp only[da,decide_eq_true_eq]
    refine⟨by omega,by simp;omega⟩
   rw[List.filter_cons_of_pos (by simp[hp])]
   simp only[sP,hp,ha,cond_true]
   rw[tJ hb p f xs (acc++[f x]) (by simp;omega)]
   simp
theorem cz {by_ n:Nat} (hb:by_<=100000) (hn:n<=1048577):da by_ n=true:=by
 have h1:n*by_<=1048577*100000:=aci hn hb
 simp only[da,decide_eq_true_eq]
 omega
def yk (n:Int):Prop:=0<=n/\n<=255
theorem wf_u8 {n:Int} (h:(Lit.int .u8 n).wf=true):yk n:=by
 simp[Lit.wf,IntKind.min,IntKind.max,IntKind.signed,IntKind.bits] at h
 exact⟨by omega,by omega⟩
theorem vf {L:Int->Option (cr Int Int)} (xs:List α) (p:α->Bool) (hl:xs.length<=9223372036854775806)
 (hs:∀(k:Nat) (x:α),xs[k]?=some x->k<xs.length->L (k:Int)=bif p x then some (.done (k:Int)) else some (.next ((k+1:Nat):Int))) (he:L (xs.length:Int)=some (.done (-1))):
 iter L FU 0=some (oB p 0 xs):=by
 have key:∀(m n:Nat) (k:Nat),m=xs.length-k->k<=xs.length->m<n->iter L n (k:Int)=some (oB p k (xs.drop k)):=by
  intro m
  induction m with
  |zero=>
   intro n k hm hk hn
   cases n with
   |zero=>omega
   |succ n=>
    have:k=xs.length:=by omega
    subst this
    rw[iter,he,acw,oB]
  |succ m ih=>
   intro n k hm hk hn
   cases n with
   |zero=>omega
   |succ n=>
    have hlt:k<xs.length:=by omega
    rw[iter,hs k xs[k] (v0 hlt) hlt,Uj hlt]
    cases p xs[k] with
    |true=>rfl
    |false=>grind
 have:=key (xs.length-0) FU 0 rfl (aap _) (by have:=gZ;omega)
 simp_all
theorem Ck {α:Type} (p:α->Bool):∀(xs:List α) (i:Nat),oB p (i:Int) xs= -1/\(∀x∈xs,p x=false)\/∃j:Nat,oB p (i:Int) xs=((i+j:Nat):Int)/\∃x,xs[j]?=some x/\p x=true/\∀y∈xs.take j,p y=false
 |[],i=>.inl ⟨rfl,by simp⟩
 |x::xs,i=>by
  rw[oB]
  cases hp:p x with
  |true=>exact .inr ⟨0,by simp,x,rfl,hp,by simp⟩
  |false=>
   rcases Ck p xs (i+1) with⟨h1,h2⟩|⟨j,h1,y,h2,h3,h4⟩
   .simp_all
   refine .inr ⟨j+1,?_,y,by simp_all,h3,by simp_all⟩
   grind
theorem Ks {L:Int->Option (cr Int Bool)} (xs:List α) (p:α->Bool) (hl:xs.length<=9223372036854775806)
 (hs:∀(k:Nat) (x:α),xs[k]?=some x->k<xs.length->L (k:Int)=bif p x then some (.done true) else some (.next ((k+1:Nat):Int))) (he:L (xs.length:Int)=some (.done false)):
 iter L FU 0=some (xs.any p):=by
 have:=eJ (step:=L) xs (λk (_:Unit)=>(k:Int)) (λ_ x=>bif p x then some (.done true) else some (.next ())) (λ_=>some false) hl
  (λk x s hx hk=>by simp_all) (λs=>by rw[he];rfl) ()
 refine Eq.trans (show iter L FU 0=_ from this) ?_
 have key:∀xs:List α,lk (λ(_:Unit) x=>bif p x then some (cr.done true) else some (.next ())) (λ_=>some false) xs ()=some (xs.any p):=by
  intro xs
  induction xs with
  |nil=>rfl
  |cons x xs ih=>rw[lk];grind
 exact key xs
theorem SX {L:Int->Option (cr Int Bool)} (xs:List α) (p:α->Bool) (hl:xs.length<=9223372036854775806)
 (hs:∀(k:Nat) (x:α),xs[k]?=some x->k<xs.length->L (k:Int)=bif p x then some (.next ((k+1:Nat):Int)) else some (.done false)) (he:L (xs.length:Int)=some (.done true)):
 iter L FU 0=some (xs.all p):=by
 have:=eJ (step:=L) xs (λk (_:Unit)=>(k:Int)) (λ_ x=>bif p x then some (.next ()) else some (.done false)) (λ_=>some true) hl
  (λk x s hx hk=>by simp_all) (λs=>by rw[he];rfl) ()
 refine Eq.trans (show iter L FU 0=_ from this) ?_
 have key:∀xs:List α,lk (λ(_:Unit) x=>bif p x then some (.next ()) else some (cr.done false)) (λ_=>some true) xs ()=some (xs.all p):=by
  intro xs
  induction xs with
  |nil=>rfl
  |cons x xs ih=>rw[lk];grind
 exact key xs
theorem allK {L:Int->Option (cr Int Bool)} (xs:List α) (p:Nat->α->Bool) (c:Option Bool) (hl:xs.length<=9223372036854775806)
 (hs:∀(k:Nat) (x:α),xs[k]?=some x->k<xs.length->L (k:Int)=bif p k x then some (.next ((k+1:Nat):Int)) else some (.done false)) (he:L (xs.length:Int)=dn c):
 iter L FU 0=bif xs.zipIdx.all (λy=>p y.2 y.1) then c else some false:=by
 have:=eJ (step:=L) xs.zipIdx (λk (_:Unit)=>(k:Int)) (λ_ y=>bif p y.2 y.1 then some (.next ()) else some (.done false)) (λ_=>c) (by simp_all)
  (λk y s hy hk=>by
   have hk':k<xs.length:=by simpa using hk
   have:y=(xs[k],k):=by rw[v0 hk] at hy;simpa using hy.symm
   simp_all) (λs=>by simp_all) ()
 refine Eq.trans (show iter L FU 0=_ from this) ?_
 have key:∀ys:List (α×Nat),lk (λ(_:Unit) y=>bif p y.2 y.1 then some (.next ()) else some (cr.done false)) (λ_=>c) ys ()=bif ys.all (λy=>p y.2 y.1) then c else some false:=by
  intro ys
  induction ys with
  |nil=>rfl
  |cons x xs ih=>rw[lk];grind
 exact key _
def inR (n a b:Int):Bool:=leB a n&&leB n b
theorem bQ {n a:Int}:inR n a b=true↔a<=n/\n<=b:=by simp[inR,leB]
theorem AH {n:Nat} (h:n<=1048576):WR ((n:Int)-1)=(n:Int)-1:=bP oaa
theorem Ut {xs:List α} (h0:0<=i) (h1:i<xs.length):∃x,x∈xs/\ix xs i=some x:=by
 obtain⟨k,rfl⟩:=Int.eq_ofNat_of_zero_le h0
 have hk:k<xs.length:=by omega
 exact⟨xs[k],ab3 hk,by rw[bu,v0 hk]⟩
theorem Qw (b:Bool):booB b b=true:=by simp
def rgI (k:IntKind) (n:Int):Prop:=(Lit.int k n).wf=true
theorem WT.rg {k:IntKind} {n:Int} (h:WT (.i k) (.i k n)):rgI k n:=by
 cases h with|i h=>exact h
theorem Oy {α:Type} {e:List Sh} {f:α->List D}:∀{xs:List α},WTL e (xs.map f)->∀x∈xs,WTs e (f x)
 |[],_,x,hx=>by cases hx
 |y::ys,h,x,hx=>by
  cases h with
  |cons h1 h2=>
   rcases aaf.1 hx with rfl|hx
   .exact h1
   exact Oy h2 x hx
theorem WT.rl {e:List Sh} {f:α->List D} {xs:List α} (h:WT (.l e) (.l (xs.map f))):∀x∈xs,WTs e (f x):=by
 cases h with|l hl h=>exact Oy h
def Wp (m:Option α) (Q:α->Prop):Prop:=match m with
 |some a=>Q a
 |none=>False
theorem Wp.ex {m:Option α} {Q:α->Prop} (h:Wp m Q):∃a,m=some a/\Q a:=by
 cases m with
 |none=>exact h.elim
 |some a=>exact⟨a,rfl,h⟩
theorem Wp.of {m:Option α} {Q:α->Prop} {a:α} (h:m=some a) (q:Q a):Wp m Q:=by subst h;exact q
theorem Wp.some {α:Type} {a:α} {Q:α->Prop} (h:Q a):Wp (some a) Q:=h
theorem Wp.bind {m:Option α} {k:α->Option β} {Q:β->Prop} (h:Wp m (λa=>Wp (k a) Q)):Wp (abJ m k) Q:=by
 cases m with
 |none=>exact h.elim
 |some a=>exact h
theorem Wp.mono {m:Option α} {P Q:α->Prop} (h:Wp m P) (k:∀a,P a->Q a):Wp m Q:=by
 cases m with
 |none=>exact h.elim
 |some a=>exact k a h
theorem Wp.call {m:Option α} {k:α->Option β} {P:α->Prop} {Q:β->Prop} (h:Wp m P) (hk:∀a,P a->Wp (k a) Q):Wp (abJ m k) Q:=Wp.bind (h.mono hk)
theorem Wp.eq {m:Option α} {k:α->Option β} {a:α} {Q:β->Prop} (h:m= .some a) (hk:Wp (k a) Q):Wp (abJ m k) Q:=by subst h;exact hk
theorem Wp.cond {b:Bool} {x y:Option α} {Q:α->Prop} (h1:b=true->Wp x Q) (h0:b=false->Wp y Q):Wp (bif b then x else y) Q:=by
 cases b
 .exact h0 rfl
 exact h1 rfl
theorem Wp.ok {b:Bool} {x:Option α} {Q:α->Prop} (hb:b=true) (h:Wp x Q):Wp (bif b then x else none) Q:=by subst hb;exact h
theorem Wp.iter {step:σ->Option (cr σ ρ)} {Q:ρ->Prop} (I:σ->Prop) (μ:σ->Nat) (h:∀x,I x->Wp (step x) (λs=>match s with| .next x'=>I x'/\μ x'<μ x| .done r=>Q r)):
 ∀(n:Nat) (x:σ),I x->μ x<n->Wp (AM.iter step n x) Q
 |0,_,_,h=>by omega
 |n+1,x,hI,hn=>by
  obtain⟨s,e,hs⟩:=(h x hI).ex
  rw[AM.iter,e]
  cases s with
  |next x'=>exact Wp.iter I μ h n x' hs.1 (by have:=hs.2;omega)
  |done r=>exact hs
theorem Wp.iterF {step:σ->Option (cr σ ρ)} {Q:ρ->Prop} (I:σ->Prop) (μ:σ->Nat) {x:σ} (hI:I x) (hn:μ x<=1000000000000) (h:∀x,I x->Wp (step x) (λs=>match s with| .next x'=>I x'/\μ x'<μ x| .done r=>Q r)):Wp (AM.iter step FU x) Q:=
 Wp.iter I μ h FU x hI (by have:=gZ;omega)
theorem Wp.dn {m:Option ρ} {Q:cr σ ρ->Prop} (h:Wp m (λr=>Q (.done r))):Wp (AM.dn m) Q:=by
 cases m with
 |none=>exact h.elim
 |some r=>exact h
theorem Wp.ix {xs:List α} {k:α->Option β} {Q:β->Prop} (h0:0<=i) (h1:i<xs.length) (hk:∀x,x∈xs->xs[i.toNat]?= .some x->Wp (k x) Q):Wp (abJ (AM.ix xs i) k) Q:=by
 have hl:i.toNat<xs.length:=by omega
 have hx:xs[i.toNat]?= .some xs[i.toNat]:=v0 hl
 refine Wp.eq (a:=xs[i.toNat]) ?_ (hk _ (ab3 hl) hx)
 unfold AM.ix
 rw[show leB 0 i=true from by simp[leB,h0]]
 exact hx
theorem mu {a:Int} (h:ltB a b=true):a<b:=ltB_t.1 h
theorem qz {a:Int} (h:ltB a b=false):b<=a:=ltB_f.1 h
theorem zu {a:Int} (h:leB a b=true):a<=b:=leB_t.1 h
theorem yd {a:Int} (h:leB a b=false):b<a:=leB_f.1 h
theorem qi {a:Int} (h:eqB a b=true):a=b:=eqB_t.1 h
theorem M8 {a:Int} (h:eqB a b=false):a≠b:=eqB_f.1 h
theorem f7 {b n:Nat} (h:n*b<=140737488355328) (h':n<=9223372036854775807):da b n=true:=by simp[da,h,h']
def XW (a:fc):Prop:=okL (λ_=>True) a.cQ
def gj (a:aS):Prop:=okL XW a.bb
def fY (a:ae):Prop:=okL (λ_=>True) a.a9
def s4 (a:bJ):Prop:=okL (λ_=>True) a.a9
def fa (a:aP):Prop:=okL fY a.aK/\okL s4 a.be
def eg (a:aG):Prop:=fa a.bW
def eK (a:bR):Prop:=okL (λ_=>True) a.bU
def ji (a:aY):Prop:=okL fY a.aC
def d4 (a:ah):Prop:=eK a.gT/\okL s4 a.aH/\ji a.ax
def hU (a:aj):Prop:=okL (λ_=>True) a.an
def ua (a:bi):Prop:=okL (λ_=>True) a.a9
def oH (a:av):Prop:=ua a.bz
def kL (a:bM):Prop:=oH a.co
def iA (a:ab):Prop:=gj a.ev/\okL eg a.aw/\okL d4 a.aA/\okL hU a.bG/\okL kL a.aT
open Go.Proofs
def gb (p:Nat->α->Bool) (xs:List α):Bool:=xs.zipIdx.all (λy=>p y.2 y.1)
theorem ez {p:Nat->α->Bool} {xs:List α}:gb p xs=true↔∀(k:Nat) (x:α),xs[k]?=some x->p k x=true:=by
 unfold gb
 rw[aag]
 constructor
 .intro h k x hx
  exact h (x,k) (by grind)
 grind
theorem MN {p q:Nat->α->Bool} {xs:List α} (h:∀(k:Nat) (x:α),xs[k]?=some x->p k x=q k x):gb p xs=gb q xs:=by
 rw[abO,ez,ez]
 simp_all
theorem Kq {p q:Nat->α->Bool} {xs:List α}:(gb p xs&&gb q xs)=gb (λk x=>p k x&&q k x) xs:=by
 rw[abO,hV,ez,ez,ez]
 grind
theorem qg {p:α->Bool} {xs:List α}:gb (λ_ x=>p x) xs=xs.all p:=by
 rw[abO,ez,aag]
 constructor
 .intro h x hx
  obtain⟨k,hk,rfl⟩:=List.getElem_of_mem hx
  exact h k _ (v0 hk)
 grind
theorem fr {L:Int->Option (cr Int Bool)} (xs:List α) (p:Nat->α->Bool) (c:Option Bool) (hl:xs.length<=9223372036854775806)
 (hs:∀(k:Nat) (x:α),xs[k]?=some x->k<xs.length->L (k:Int)=bif p k x then some (.next ((k+1:Nat):Int)) else some (.done false)) (he:L (xs.length:Int)=dn c):
 iter L FU 0=bif gb p xs then c else some false:=allK xs p c hl hs he
theorem wk {xs:List α} (hk:k<xs.length) (h0:0<k) (hl:xs.length<=9223372036854775806):∃y,xs[k-1]?=some y/\ix xs (WR ((k:Int)-1))=some y:=by
 have h1:k-1<xs.length:=by omega
 refine⟨xs[k-1],v0 h1,?_⟩
 rw[bP oaa,show((k:Int)-1)=((k-1:Nat):Int) from by omega,bu,v0 h1]
def jN (key:α->Int) (xs:List α) (k:Nat) (x:α):Bool:=match k with
 |0=>true
 |j+1=>match xs[j]? with
  |some y=>!leB (key x) (key y)
  |none=>false
def asc (xs:List Int):Bool:=gb (jN id xs) xs
theorem gK (a b c:Int):cf a b c=some (inR a b c):=by
 unfold cf inR
 grind
theorem fK (a b c:Int):du a b c=some (inR a b c):=by
 unfold du inR
 grind
theorem O3 {xs:List Int} (h:xs.length<=1048576):oC xs=some (asc xs):=by
 have key:∀(n m:Nat) (j:Nat),j+n=xs.length->1<=j->n<m->∃b,iter (ku xs) m (j:Int)=some b/\(b=true↔∀k x,j<=k->xs[k]?=some x->jN id xs k x=true):=by
  intro n
  induction n with
  |zero=>
   intro m j hj h1 hm
   cases m with
   |zero=>omega
   |succ m=>
    simp only[iter,ku]
    simp_all
  |succ n ih=>
   intro m j hj h1 hm
   cases m with
   |zero=>omega
   |succ m=>
    have hjl:j<xs.length:=by omega
    obtain⟨y,hy,hi⟩:=wk hjl oaa oaa
    simp only[iter,ku]
    rw[cA hjl,hi,bu,v0 hjl]
    simp only[au]
    obtain⟨i,rfl⟩:∃i,j=i+1:=⟨j-1,by omega⟩
    simp only[abY] at hy
    cases hle:leB xs[i+1] y with
    |true=>
     refine⟨false,rfl,(λh=>by cases h),λhh=>?_⟩
     have:=hh (i+1) _ (aah _) (v0 hjl)
     simp[jN,hy,hle] at this
    |false=>
     simp only[cond_false]
     rw[WRs (k:=i+1)]
     obtain⟨b,hb,hi⟩:=ih m (i+1+1) oaa oaa oaa
     refine⟨b,hb,hi.trans ⟨λhh k x hk hx=>?_,λhh k x hk hx=>hh k x oaa hx⟩⟩
     by_cases e:k=i+1
     .subst e
      rw[v0 hjl] at hx;cases hx
      simp[jN,hy,hle]
     grind
 unfold oC
 cases hx:xs with
 |nil=>
  have:FU=(FU-1)+1:=by have:=gZ;omega
  rw[this,iter]
  simp[ku,dn,ltB,asc,gb]
 |cons a l=>
  rw[<-hx]
  obtain⟨b,hb,hi⟩:=key (xs.length-1) FU 1 (by grind) (aah _) (by have:=gZ;omega)
  rw[show(1:Int)=((1:Nat):Int) from rfl,hb]
  congr 1
  rw[abO,hi,asc,ez]
  constructor
  .intro hh k x hk
   cases k with
   |zero=>rfl
   |succ k=>simp_all
  simp_all
def ra (k:Int):Bool:=inR k 1 2147483646
theorem Le (k:Int):gI k=some (ra k):=by simp only[gI,gK,abM,ra]
theorem Lf (k:Int):ij k=some (ra k):=by simp only[ij,fK,abM,ra]
def Oj (x:dv):Bool:=inR x.eb 0 3&&inR x.bV 0 99
theorem Zf (x:dv):gJ x=some (Oj x):=by
 simp only[gJ,gK,abM,Oj];grind
theorem Zg (x:dv):gP x=some (Oj x):=by
 simp only[gP,fK,abM,Oj];grind
def uH (x:lp):Bool:=Oj x.ID&&(ra x.eX&&inR x.di 0 999999)
theorem Wi (x:lp):n8 x=some (uH x):=by
 simp only[n8,Zf,Le,gK,abM,uH];grind
theorem Wj (x:lp):oP x=some (uH x):=by
 simp only[oP,Zg,Lf,fK,abM,uH];grind
def tE (x:aO):Bool:=Oj x.ID&&(ra x.eX&&inR x.cW 0 999999)
theorem Y8 (x:aO):fB x=some (tE x):=by
 simp only[fB,Zf,Le,gK,abM,tE];grind
theorem Vm (x:aO):eM x=some (tE x):=by
 simp only[eM,Zg,Lf,fK,abM,tE];grind
def ki (x:cG):Bool:=inR x.fZ 0 2&&(inR x.fm 0 4&&inR x.fo 0 3)
theorem U9 (x:cG):n0 x=some (ki x):=by
 simp only[n0,gK,abM,ki];grind
theorem Va (x:cG):oO x=some (ki x):=by
 simp only[oO,fK,abM,ki];grind
def jQ (x:bK):Bool:=inR x.fC 1 6&&inR x.fP 0 (WR ((lX .i64 1 x.fC)-1))
theorem Jz (x:bK):jV x=some (jQ x):=by
 simp only[jV,gK,abM,jQ]
 cases h:inR x.fC 1 6 with
 |false=>rfl
 |true=>rw[show leB 0 x.fC=true from by rw[bQ] at h;simp[leB];omega];rfl
theorem NA (x:bK):me x=some (jQ x):=by
 simp only[me,fK,abM,jQ]
 cases h:inR x.fC 1 6 with
 |false=>rfl
 |true=>rw[show leB 0 x.fC=true from by rw[bQ] at h;simp[leB];omega];rfl
def lT (x:cP):Bool:=leB 0 x.aJ&&(leB 0 x.em&&(leB x.em x.cV&&leB x.cV 100000))
theorem DG (x:cP):jh x=some (lT x):=by
 simp only[jh,abM,lT];grind
theorem Br (x:cP):ik x=some (lT x):=by
 have:lT x=(leB 0 x.aJ&&(inR x.cV 0 100000&&inR x.em 0 x.cV)):=by
  rw[abO];simp[lT,inR,leB];omega
 rw[this]
 simp only[ik,fK,abM];grind
def xo (n:Nat):Bool:=!ltB 60 (n:Int)
def BS (xs:List bJ):Bool:=xs.all λx=>xo x.a9.length
theorem YY {xs:List bJ} (h:xs.length<=1048576):t0 xs=some (BS xs):=
 SX xs (λx=>xo x.a9.length) oaa (λk x hx hk=>by
  simp only[sT,cA hk,bu,hx,WRs (k:=k),xo,au]
  simp_all) (by simp[sT,dn])
def Bq (r:aP) (k:Nat) (x:ae):Bool:=inR x.cW (WR (r.bE+1)) (WR (WR (r.bE+8)-1))&&(jN ae.cW r.aK k x&&xo x.a9.length)
def pb (r:aP):Bool:=eqB r.bE (WR ((r.be.length:Int)+1))&&(leB (r.be.length:Int) 24&&(BS r.be&&(leB (r.aK.length:Int) 8&&gb (Bq r) r.aK)))
theorem sY (a b:Int):ltB a b=!leB b a:=by rw[abO];simp_all
theorem Vp (h1:r.be.length<=1048576) (h2:r.aK.length<=1048576):jF r=some (pb r):=by
 have hL:iter (jn r) FU 0=bif gb (Bq r) r.aK then some true else some false:=by
  refine fr r.aK (Bq r) (some true) oaa (λk x hx hk=>?_) (by simp[jn])
  simp only[jn,cA hk,bu,hx,WRs (k:=k),gK,Bq,xo,au]
  cases k with
  |zero=>
   simp only[jN,show ltB 0 ((0:Nat):Int)=false from by simp[ltB]]
   cases ltB 60 (x.a9.length:Int)<;>cases inR x.cW (WR (r.bE+1)) (WR (WR (r.bE+8)-1))<;>rfl
  |succ k=>
   obtain⟨y,hy,hi⟩:=wk hk oaa oaa
   simp only[abY] at hy
   simp only[jN,hy,hi,show ltB 0 ((k+1:Nat):Int)=true from by simp[ltB],abM]
   cases ltB 60 (x.a9.length:Int)<;>cases inR x.cW (WR (r.bE+1)) (WR (WR (r.bE+8)-1))<;>cases leB x.cW y.cW<;>rfl
 simp only[jF,YY h1,abM,hL,pb,sY 24,sY 8]
 grind
theorem Vq (h1:r.be.length<=1048576) (h2:r.aK.length<=1048576):jK r=some (pb r):=by
 have hF:iter (ic r) FU 0=bif gb (λ_ x=>xo x.a9.length) r.be then some (eqB r.bE (WR ((r.be.length:Int)+1))&&(leB (r.be.length:Int) 24&&leB (r.aK.length:Int) 8)) else some false:=by
  refine fr r.be (λ_ x=>xo x.a9.length) _ oaa (λk x hx hk=>?_) ?_
  .simp only[ic,cA hk,bu,hx,WRs (k:=k),xo,au]
   simp_all
  simp only[ic,cg,cond_false]
  grind
 have hL:iter (jq r) FU 0=bif gb (Bq r) r.aK then iter (ic r) FU 0 else some false:=by
  refine fr r.aK (Bq r) _ oaa (λk x hx hk=>?_) (by simp[jq])
  simp only[jq,cA hk,bu,hx,WRs (k:=k),fK,Bq,xo,au]
  cases k with
  |zero=>
   simp only[jN,show ltB 0 ((0:Nat):Int)=false from by simp[ltB]]
   cases ltB 60 (x.a9.length:Int)<;>cases inR x.cW (WR (r.bE+1)) (WR (WR (r.bE+8)-1))<;>rfl
  |succ k=>
   obtain⟨y,hy,hi⟩:=wk hk oaa oaa
   simp only[abY] at hy
   simp only[jN,hy,hi,show ltB 0 ((k+1:Nat):Int)=true from by simp[ltB],abM]
   cases ltB 60 (x.a9.length:Int)<;>cases inR x.cW (WR (r.bE+1)) (WR (WR (r.bE+8)-1))<;>cases leB x.cW y.cW<;>rfl
 rw[qg] at hF
 simp only[jK,hL,hF,pb,BS]
 grind
def li (d:aG):Bool:=uH d.dr&&(inR d.bp 0 3&&(inR d.bh 0 5&&(inR d.ag 0 999999&&(inR d.aV 0 999999&&(inR d.aZ 0 2147483646&&((!inR d.bp 2 3||ra d.aZ)&&(inR d.fo 0 3&&pb d.bW)))))))
theorem st23 (n:Int):inR n 2 3=(eqB n 2||eqB n 3):=by rw[abO];simp[inR,leB,eqB];omega
theorem TC {d:aG} (h1:d.bW.be.length<=1048576) (h2:d.bW.aK.length<=1048576):nX d=some (li d):=by
 simp only[nX,Wi,gK,Le,Vp h1 h2,abM,li,st23]
 grind
theorem TD {d:aG} (h1:d.bW.be.length<=1048576) (h2:d.bW.aK.length<=1048576):oK d=some (li d):=by
 simp only[oK,Wj,fK,Lf,Vq h1 h2,abM,li]
 grind
theorem vg {α:Type} {step:Int×Int->Option (cr (Int×Int) Int)} (xs:List α) (f:Int->α->Int) (hl:xs.length<=9223372036854775806)
 (hs:∀(k:Nat) (x:α) (a:Int),xs[k]?=some x->k<xs.length->step (a,(k:Int))=some (.next (f a x,((k+1:Nat):Int)))) (he:∀a,step (a,(xs.length:Int))=some (.done a)) (a0:Int):
 iter step FU (a0,0)=some (xs.foldl f a0):=by
 have:=eJ (step:=step) xs (λk (v:Int)=>(v,(k:Int))) (λv x=>some (.next (f v x))) some hl
  (λk x s hx hk=>by simp_all) (λs=>by rw[he];rfl) a0
 refine Eq.trans (show iter step FU (a0,0)=_ from this) ?_
 clear this he hs
 induction xs generalizing a0 with
 |nil=>rfl
 |cons x xs ih=>rw[lk,ab8];grind
def yf (xs:List ae):Int:=xs.foldl (λa x=>WR (a+(x.a9.length:Int))) 0
theorem nb_i {xs:List ae} (h:xs.length<=1048576):oD xs=some (yf xs):=by
 unfold oD
 rw[vg xs (λa x=>WR (a+(x.a9.length:Int))) oaa (λk x a hx hk=>by
  simp only[oE,cA hk,bu,hx,WRs (k:=k),au]) (λa=>by simp[oE])]
 rfl
theorem XR {xs:List ae} (h:xs.length<=1048576):pJ xs=some (yf xs):=by
 unfold pJ
 rw[vg xs (λa x=>WR (a+(x.a9.length:Int))) oaa (λk x a hx hk=>by
  simp only[wN,cA hk,bu,hx,WRs (k:=k),au]) (λa=>by simp[wN])]
 rfl
def LN (q:cP):Int:=bif lT q then WR (q.cV-q.em) else 0
theorem Y9 (q:cP):kq q=some (LN q):=by simp only[kq,DG,abM,LN];grind
theorem Za (q:cP):kC q=some (LN q):=by simp only[kC,Br,abM,LN];grind
def Fo (p:bR):Bool:=inR p.lW 1 1000&&(inR p.lV 1 4&&inR p.eD 1 100000)
def qK (p:bR):Bool:=Fo p&&gb (λk x=>inR x 0 3&&jN id p.bU k x) p.bU
theorem subs_i {p:bR} (h:eK p):iQ p=some (qK p):=by
 have hl:=h.1
 have hL:iter (gV p) FU 0=bif gb (λ_ x=>inR x 0 3) p.bU then some (asc p.bU) else some false:=by
  refine fr p.bU (λ_ x=>inR x 0 3) _ oaa (λk x hx hk=>?_) (by simp[gV,O3 hl])
  simp only[gV,cA hk,bu,hx,WRs (k:=k),gK,au]
  cases inR x 0 3<;>rfl
 simp only[iQ,gK,abM,hL,qK,Fo,<-Kq,asc]
 grind
theorem V1 {p:bR} (h:eK p):gQ p=some (qK p):=by
 have hl:=h.1
 have hL:iter (gY p) FU 0=bif gb (λk x=>inR x 0 3&&jN id p.bU k x) p.bU then some (Fo p) else some false:=by
  refine fr p.bU _ _ oaa (λk x hx hk=>?_) ?_
  .simp only[gY,cA hk,bu,hx,WRs (k:=k),fK,au]
   cases k with
   |zero=>
    simp only[jN,show ltB 0 ((0:Nat):Int)=false from by simp[ltB]]
    cases inR x 0 3<;>rfl
   |succ k=>
    obtain⟨y,hy,hi⟩:=wk hk oaa oaa
    simp only[abY] at hy
    simp only[jN,hy,hi,hx,bu,show ltB 0 ((k+1:Nat):Int)=true from by simp[ltB],abM,id]
    cases inR x 0 3<;>cases leB x y<;>rfl
  simp only[gY,cg,fK,Fo,au]
  grind
 simp only[gQ,hL,qK]
 grind
def unB (w:aY) (k:Nat) (x:ae):Bool:=eqB x.cW (WR (WR (w.bE-(w.aC.length:Int))+(k:Int)))&&xo x.a9.length
def kj (w:aY):Bool:=inR w.bE 1 100000&&(leB (w.aC.length:Int) 8&&(leB 1 (WR (w.bE-(w.aC.length:Int)))&&gb (unB w) w.aC))
theorem L4 (h:ji w):lu w=some (kj w):=by
 have hl:=h.1
 have hL:iter (kT w) FU 0=bif gb (unB w) w.aC then some true else some false:=by
  refine fr w.aC (unB w) _ oaa (λk x hx hk=>?_) (by simp[kT])
  simp only[kT,cA hk,bu,hx,WRs (k:=k),unB,xo,au]
  cases eqB x.cW (WR (WR (w.bE-(w.aC.length:Int))+(k:Int)))<;>cases ltB 60 (x.a9.length:Int)<;>rfl
 simp only[lu,gK,abM,hL,kj,sY]
 grind
theorem L5 (h:ji w):lM w=some (kj w):=by
 have hl:=h.1
 have hL:iter (lg w) FU 0=bif gb (unB w) w.aC then some (inR w.bE 1 100000&&(leB (w.aC.length:Int) 8&&leB 1 (WR (w.bE-(w.aC.length:Int))))) else some false:=by
  refine fr w.aC (unB w) _ oaa (λk x hx hk=>?_) ?_
  .simp only[lg,cA hk,bu,hx,WRs (k:=k),unB,xo,au]
   cases eqB x.cW (WR (WR (w.bE-(w.aC.length:Int))+(k:Int)))<;>cases ltB 60 (x.a9.length:Int)<;>rfl
  simp only[lg,cg,fK,au]
  grind
 simp only[lM,hL,kj]
 grind
def L0 (a b:List Int):Bool:=strB (xm a) (xm b)
theorem TT (a b:List Int):qm a b=some (L0 a b):=rfl
theorem YV (a b:List Int):qB a b=some (L0 a b):=rfl
def CG (s:ah) (x:ae):Bool:=match s.aH[(x.cW-1).toNat]? with
 |some y=>L0 x.a9 y.a9
 |none=>false
def ni (s:ah):Bool:=leB (s.aH.length:Int) 24&&(BS s.aH&&(kj s.ax&&leB s.ax.bE (WR ((s.aH.length:Int)+1))))
def uc (s:ah):Bool:=leB (yf s.ax.aC) (LN s.b9)
def E5 (s:ah):Bool:=(!eqB s.bp 1||ra s.aZ)&&(!ltB 0 s.bI||ra s.aK.eX)
def ja (s:ah):Bool:=tE s.bF&&(qK s.gT&&(ki s.ga&&(kj s.ax&&(lT s.b9&&(inR s.bp 0 1&&(E5 s&&(inR s.bI 0 999999&&(inR s.ag 0 999999&&(inR s.aV 0 999999&&(inR s.aZ 0 2147483646&&
 (inR s.bh 0 5&&(inR s.dT 0 5&&(inR s.dP 0 3&&(leB (s.aH.length:Int) 24&&(BS s.aH&&(leB s.ax.bE (WR ((s.aH.length:Int)+1))&&(s.ax.aC.all (CG s)&&uc s)))))))))))))))))
theorem Zm (hs:ni s=true) (hx:s.ax.aC[k]?=some x):∃y,ix s.aH (WR (x.cW-1))=some y/\s.aH[(x.cW-1).toNat]?=some y:=by
 simp only[ni,kj,hV,ez,bQ] at hs
 obtain⟨h1,h2,⟨⟨h3,h3'⟩,h4,h5,h6⟩,h7⟩:=hs
 have hk:=(aaa.1 hx).1
 have h8:=h6 k x hx
 simp only[unB,hV] at h8
 have h4':(s.ax.aC.length:Int)<=8:=by simpa [leB] using h4
 have h1':(s.aH.length:Int)<=24:=by simpa [leB] using h1
 rw[bP oaa] at h5
 rw[bP oaa] at h7
 have h9:=h8.1
 rw[bP (n:=s.ax.bE-_) oaa,bP oaa] at h9
 have h9':x.cW=s.ax.bE-s.ax.aC.length+k:=by simpa [eqB] using h9
 have h5':1<=s.ax.bE-(s.ax.aC.length:Int):=by simpa [leB] using h5
 have h7':s.ax.bE<=(s.aH.length:Int)+1:=by simpa [leB] using h7
 have hlt:(x.cW-1).toNat<s.aH.length:=by omega
 refine⟨s.aH[(x.cW-1).toNat],?_,v0 hlt⟩
 have hm:x.cW-1=(((x.cW-1).toNat:Nat):Int):=by omega
 rw[bP oaa]
 simp_all
theorem tail_i (h:d4 s) (hs:ni s=true):iter (gh s) FU 0=some (s.ax.aC.all (CG s)&&uc s):=by
 have hl:=h.2.2.1
 have:=fr (L:=gh s) s.ax.aC (λ_ x=>CG s x) (some (uc s)) oaa (λk x hx hk=>by
  obtain⟨y,h1,h2⟩:=Zm hs hx
  simp only[gh,cA hk,bu,hx,h1,TT,WRs (k:=k),CG,h2,au]
  simp_all) (by simp[gh,iS,nb_i hl,Y9,uc])
 rw[this,qg]
 grind
theorem tail_s (h:d4 s) (hs:ni s=true):iter (kN s) FU 0=some (s.ax.aC.all (CG s)&&uc s):=by
 have hl:=h.2.2.1
 have:=fr (L:=kN s) s.ax.aC (λ_ x=>CG s x) (some (uc s)) oaa (λk x hx hk=>by
  obtain⟨y,h1,h2⟩:=Zm hs hx
  simp only[kN,cA hk,bu,hx,h1,YV,WRs (k:=k),CG,h2,au]
  simp_all) (by simp[kN,XR hl,Za,uc])
 rw[this,qg]
 grind
theorem V0 (h:d4 s):wP s=some (ni s&&(s.ax.aC.all (CG s)&&uc s)):=by
 have hl:=h.2.1.1
 have hL:=fr (L:=qc s) s.aH (λ_ x=>xo x.a9.length) (bif leB (s.aH.length:Int) 24&&(kj s.ax&&leB s.ax.bE (WR ((s.aH.length:Int)+1))) then iter (kN s) FU 0 else some false) oaa (λk x hx hk=>by
  simp only[qc,cA hk,bu,hx,WRs (k:=k),xo,au]
  simp_all) (by
  simp only[qc,cg,L5 h.2.2,sY,au]
  grind)
 rw[qg] at hL
 unfold wP
 rw[hL]
 cases hs:ni s with
 |true=>
  rw[tail_s h hs]
  simp only[ni,BS,hV] at hs
  grind
 |false=>
  have:(leB (s.aH.length:Int) 24&&(kj s.ax&&leB s.ax.bE (WR ((s.aH.length:Int)+1))))=false\/(s.aH.all λx=>xo x.a9.length)=false:=by
   simp only[ni,BS] at hs
   revert hs
   cases leB (s.aH.length:Int) 24<;>cases kj s.ax<;>cases leB s.ax.bE (WR ((s.aH.length:Int)+1))<;>cases(s.aH.all λx=>xo x.a9.length)<;>simp
  grind
theorem st01 (n:Int):inR n 0 1=(eqB n 0||eqB n 1):=by rw[abO];simp[inR,leB,eqB];omega
theorem CA (h:d4 s):iL s=some (ja s):=by
 have hz:=λhs=>tail_i h hs
 simp only[iL,Y8,subs_i h.1,U9,L4 h.2.2,DG,Le,gK,YY h.2.1.1,abM,ja,E5,st01,sY 24,sY (WR ((s.aH.length:Int)+1))]
 simp only[ni] at hz
 revert hz
 generalize iter (gh s) FU 0=z
 cases tE s.bF
 .intro _;rfl
 cases qK s.gT
 .intro _;rfl
 cases ki s.ga
 .intro _;rfl
 cases kj s.ax
 .intro _;rfl
 cases lT s.b9
 .intro _;rfl
 cases eqB s.bp 0<;>cases eqB s.bp 1<;>try (intro _;rfl)
 all_goals
  cases ra s.aZ<;>cases ltB 0 s.bI<;>cases ra s.aK.eX<;>try (intro _;rfl)
 all_goals
  cases inR s.bI 0 999999<;>cases inR s.ag 0 999999<;>cases inR s.aV 0 999999<;>cases inR s.aZ 0 2147483646<;>try (intro _;rfl)
 all_goals
  cases inR s.bh 0 5<;>cases inR s.dT 0 5<;>cases inR s.dP 0 3<;>try (intro _;rfl)
 all_goals
  cases leB (s.aH.length:Int) 24<;>cases BS s.aH<;>cases leB s.ax.bE (WR ((s.aH.length:Int)+1))<;>intro hz<;>first|rfl|exact hz rfl
theorem CB (h:d4 s):kB s=some (ja s):=by
 have:ja s=(inR s.bp 0 1&&(E5 s&&(tE s.bF&&(qK s.gT&&(ki s.ga&&(lT s.b9&&((ni s&&(s.ax.aC.all (CG s)&&uc s))&&(inR s.bI 0 999999&&(inR s.ag 0 999999&&(inR s.aV 0 999999&&(inR s.aZ 0 2147483646&&(inR s.bh 0 5&&(inR s.dT 0 5&&inR s.dP 0 3))))))))))))):=by
  simp only[ja,ni];ac_rfl
 rw[this]
 simp only[kB,Vm,V1 h.1,Va,Br,Lf,fK,V0 h,abM,E5,st01]
 cases eqB s.bp 0<;>cases eqB s.bp 1<;>cases ra s.aZ<;>cases ltB 0 s.bI<;>cases ra s.aK.eX<;>try rfl
 all_goals
  cases tE s.bF<;>cases qK s.gT<;>cases ki s.ga<;>cases lT s.b9<;>cases(ni s&&(s.ax.aC.all (CG s)&&uc s))<;>try rfl
 all_goals
  cases inR s.bI 0 999999<;>cases inR s.ag 0 999999<;>cases inR s.aV 0 999999<;>cases inR s.aZ 0 2147483646<;>try rfl
 all_goals
  cases inR s.bh 0 5<;>cases inR s.dT 0 5<;>rfl
def Sb (a:aj):Int:=a.an.foldl (λs x=>WR (s+x.dW)) 0
theorem totr_i (h:hU a):ot a=some (Sb a):=by
 have:=h.1
 unfold ot
 rw[vg a.an (λs x=>WR (s+x.dW)) oaa (λk x s hx hk=>by
  simp only[ou,cA hk,bu,hx,WRs (k:=k),au]) (λs=>by simp[ou])]
 rfl
theorem totr_s (h:hU a):oZ a=some (Sb a):=by
 have:=h.1
 unfold oZ
 rw[vg a.an (λs x=>WR (s+x.dW)) oaa (λk x s hx hk=>by
  simp only[o3,cA hk,bu,hx,WRs (k:=k),au]) (λs=>by simp[o3])]
 rfl
def GU (a:aj) (k:Nat) (x:aD):Bool:=!ltB x.aJ 0&&(inR x.dW 1 100000&&jN aD.aJ a.an k x)
def Sa (a:aj):Bool:=eqB (WR (WR (a.bY+a.ey)+Sb a)) a.gU
def jM (a:aj):Bool:=inR a.gU 0 100000&&(inR a.bY 0 a.gU&&(inR a.ey 0 a.gU&&(leB (a.an.length:Int) 8&&(gb (GU a) a.an&&Sa a))))
theorem yM (h:hU a):g9 a=some (jM a):=by
 have hl:=h.1
 have hL:iter (jU a) FU 0=bif gb (GU a) a.an then some (Sa a) else some false:=by
  refine fr a.an (GU a) _ oaa (λk x hx hk=>?_) (by simp[jU,totr_i h,Sa])
  simp only[jU,cA hk,bu,hx,WRs (k:=k),gK,GU,au]
  cases k with
  |zero=>
   simp only[jN,show ltB 0 ((0:Nat):Int)=false from by simp[ltB]]
   cases ltB x.aJ 0<;>cases inR x.dW 1 100000<;>rfl
  |succ k=>
   obtain⟨y,hy,hi⟩:=wk hk oaa oaa
   simp only[abY] at hy
   simp only[jN,hy,hi,show ltB 0 ((k+1:Nat):Int)=true from by simp[ltB],abM]
   cases ltB x.aJ 0<;>cases inR x.dW 1 100000<;>cases leB x.aJ y.aJ<;>rfl
 simp only[g9,gK,abM,hL,jM,sY 8]
 grind
theorem yN (h:hU a):ia a=some (jM a):=by
 have hl:=h.1
 have hL:iter (ke a) FU 0=bif gb (GU a) a.an then some (inR a.gU 0 100000&&(inR a.bY 0 a.gU&&(inR a.ey 0 a.gU&&(leB (a.an.length:Int) 8&&Sa a)))) else some false:=by
  refine fr a.an (GU a) _ oaa (λk x hx hk=>?_) ?_
  .simp only[ke,cA hk,bu,hx,WRs (k:=k),fK,GU,au]
   cases k with
   |zero=>
    simp only[jN,show ltB 0 ((0:Nat):Int)=false from by simp[ltB]]
    cases ltB x.aJ 0<;>cases inR x.dW 1 100000<;>rfl
   |succ k=>
    obtain⟨y,hy,hi⟩:=wk hk oaa oaa
    simp only[abY] at hy
    simp only[jN,hy,hi,hx,bu,show ltB 0 ((k+1:Nat):Int)=true from by simp[ltB],abM]
    cases ltB x.aJ 0<;>cases inR x.dW 1 100000<;>cases leB x.aJ y.aJ<;>rfl
  simp only[ke,cg,fK,totr_s h,Sa,au]
  grind
 simp only[ia,hL,jM]
 grind
def iJ (a:aj) (i:Int):Int:=match a.an.find? (λx=>eqB x.aJ i) with
 |some x=>x.dW
 |none=>0
theorem OQ (p:α->Bool) (xs:List α):(oB p 0 xs= -1/\xs.find? p=none)\/∃x,ltB (oB p 0 xs) 0=false/\ix xs (oB p 0 xs)=some x/\xs.find? p=some x:=by
 rcases Ck p xs 0 with⟨h1,h2⟩|⟨j,h1,x,h2,h3,h4⟩
 .simp_all
 right
 have h1':oB p 0 xs=(j:Int):=by simpa using h1
 refine⟨x,by simp_all,by simp_all,?_⟩
 have hj:=(aaa.1 h2)
 rw[List.find?_eq_some_iff_getElem]
 have hjl:=hj.1
 refine⟨h3,j,hjl,hj.2,λi hi=>?_⟩
 have hil:i<xs.length:=Nat.lt_trans hi hjl
 have:xs[i]∈xs.take j:=List.mem_take_iff_getElem.2 ⟨i,by omega,rfl⟩
 simp_all
theorem LP (h:hU a) (i:Int):om a i=some (iJ a i):=by
 have:=h.1
 have hf:=vf (L:=iU a i) a.an (λx=>eqB x.aJ i) oaa (λk x hx hk=>by
  simp only[iU,cA hk,bu,hx,WRs (k:=k),au]
  rfl) (by simp[iU,dn])
 unfold om fU iJ
 rw[hf]
 rcases OQ (λx:aD=>eqB x.aJ i) a.an with⟨e1,e2⟩|⟨x,e1,e2,e3⟩
 .rw[e1,e2];simp[ltB]
 grind
theorem LQ (h:hU a) (i:Int):oX a i=some (iJ a i):=by
 have:=h.1
 have hf:=vf (L:=uo a i) a.an (λx=>eqB x.aJ i) oaa (λk x hx hk=>by
  simp only[uo,cA hk,bu,hx,WRs (k:=k),au]
  rfl) (by simp[uo,dn])
 unfold oX qI iJ
 rw[hf]
 rcases OQ (λx:aD=>eqB x.aJ i) a.an with⟨e1,e2⟩|⟨x,e1,e2,e3⟩
 .rw[e1,e2];simp[ltB]
 grind
def wX (a:aj) (q:cP):Bool:=jM a&&(lT q&&eqB (iJ a q.aJ) q.cV)
theorem Jh (h:hU a) (q:cP):fJ a q=some (wX a q):=by
 simp only[fJ,yM h,DG,LP h,abM,wX];grind
theorem Ji (h:hU a) (q:cP):fL a q=some (wX a q):=by
 simp only[fL,yN h,Br,LQ h,abM,wX];grind
theorem lq {L:Int->Option (cr Int ρ)} (xs:List α) (p:Nat->α->Bool) (f:ρ) (c:Option ρ) (hl:xs.length<=9223372036854775806)
 (hs:∀(k:Nat) (x:α),xs[k]?=some x->k<xs.length->L (k:Int)=bif p k x then some (.next ((k+1:Nat):Int)) else some (.done f)) (he:L (xs.length:Int)=dn c):
 iter L FU 0=bif gb p xs then c else some f:=by
 have:=eJ (step:=L) xs.zipIdx (λk (_:Unit)=>(k:Int)) (λ_ y=>bif p y.2 y.1 then some (.next ()) else some (.done f)) (λ_=>c) (by simp_all)
  (λk y s hy hk=>by
   have hk':k<xs.length:=by simpa using hk
   have:y=(xs[k],k):=by rw[v0 hk] at hy;simpa using hy.symm
   simp_all) (λs=>by simp_all) ()
 refine Eq.trans (show iter L FU 0=_ from this) ?_
 have key:∀ys:List (α×Nat),lk (λ(_:Unit) y=>bif p y.2 y.1 then some (.next ()) else some (cr.done f)) (λ_=>c) ys ()=bif ys.all (λy=>p y.2 y.1) then c else some f:=by
  intro ys
  induction ys with
  |nil=>rfl
  |cons x xs ih=>rw[lk];grind
 exact key _
theorem Uc {l:List Int} (h:l.length<=1048576) (v:Int):BE l v=some (l.any λx=>eqB x v):=
 Ks l (λx=>eqB x v) oaa (λk x hx hk=>by
  simp only[Ay,cA hk,bu,hx,WRs (k:=k),au]
  rfl) (by simp[Ay,dn])
theorem TR (a b:Int):eqB a b=eqB b a:=by rw[abO];simp[eqB];exact eq_comm
theorem has_i {l:List Int} (h:l.length<=1048576) (v:Int):gr l v=some (l.any λx=>eqB x v):=by
 have hf:=vf (L:=gu l v) l (λx=>eqB x v) oaa (λk x hx hk=>by
  simp only[gu,cA hk,bu,hx,WRs (k:=k),TR v x,au]
  rfl) (by simp[gu,dn])
 unfold gr kP
 rw[hf]
 simp only[abM]
 rw[EW oaa]
def eN (m:aS) (i:Int):Bool:=inR i 0 ((m.bb.length:Int)-1)
theorem vX (h:m.bb.length<=1048576) (i:Int):kZ m i=some (eN m i):=by
 simp only[kZ,gK,AH h,abM,eN]
def AN (m:aS) (x:Int) (i:Nat):Bool:=match m.bb[x.toNat]? with
 |some d=>d.cQ.any λy=>eqB y (i:Int)
 |none=>false
def nbB (m:aS) (i:Nat) (ns:List Int) (k:Nat) (x:Int):Bool:=eN m x&&(!eqB x (i:Int)&&(jN id ns k x&&AN m x i))
def BR (m:aS) (i:Nat) (c:fc):Bool:=inR c.fZ 0 2&&gb (nbB m i c.cQ) c.cQ
def pO (m:aS):Bool:=inR (m.bb.length:Int) 1 6&&gb (BR m) m.bb
theorem AT {x:Int} (h:eN m x=true):∃d,d∈m.bb/\ix m.bb x=some d/\m.bb[x.toNat]?=some d:=by
 simp only[eN,bQ] at h
 have hlt:x.toNat<m.bb.length:=by omega
 refine⟨m.bb[x.toNat],ab3 hlt,?_,v0 hlt⟩
 have hm:x=(x.toNat:Int):=by omega
 generalize x.toNat=m at hm hlt ⊢
 simp_all
theorem map_i (h:gj m):tR m=some (pO m):=by
 have hl:=h.1
 have h2:∀(i:Nat) (c:fc),c∈m.bb->i<m.bb.length->iter (nZ m (i:Int) c) FU 0=bif gb (λk x=>!eqB x (i:Int)&&(eN m x&&AN m x i)) c.cQ then some (.next ((i+1:Nat):Int)) else some (.done false):=by
  intro i c hc hi
  have hn:=(h.2 c hc).1
  refine lq c.cQ (λk x=>!eqB x (i:Int)&&(eN m x&&AN m x i)) (cr.done false) _ oaa (λk x hx hk=>?_) (by simp[nZ,WRs (k:=i)])
  simp only[nZ,cA hk,bu,hx,WRs (k:=k),vX hl,uP,au]
  cases eqB x (i:Int) with
  |true=>rfl
  |false=>
   cases hcb:eN m x with
   |false=>rfl
   |true=>
    obtain⟨d,d1,d2,d3⟩:=AT hcb
    simp only[d2,has_i (h.2 d d1).1,AN,d3,au]
    simp_all
 have hL:iter (nY m) FU 0=bif gb (BR m) m.bb then some true else some false:=by
  refine lq m.bb (BR m) false (some true) oaa (λk x hx hk=>?_) (by simp[nY])
  have hm:=aab hx
  simp only[nY,cA hk,bu,hx,gK,O3 (h.2 x hm).1,h2 k x hm hk,BR,au]
  have:gb (nbB m k x.cQ) x.cQ=(asc x.cQ&&gb (λj y=>!eqB y (k:Int)&&(eN m y&&AN m y k)) x.cQ):=by
   rw[asc,Kq]
   exact MN λj y _=>by simp only[nbB];ac_rfl
  rw[this]
  cases inR x.fZ 0 2<;>cases asc x.cQ<;>cases gb (λj y=>!eqB y (k:Int)&&(eN m y&&AN m y k)) x.cQ<;>rfl
 simp only[tR,gK,abM,hL,pO]
 grind
theorem Y4 (h:gj m):qE m=some (pO m):=by
 have hl:=h.1
 have h2:∀(i:Nat) (c:fc),c∈m.bb->i<m.bb.length->iter (oN m (i:Int) c) FU 0=bif gb (nbB m i c.cQ) c.cQ then some (.next ((i+1:Nat):Int)) else some (.done false):=by
  intro i c hc hi
  have hn:=(h.2 c hc).1
  refine lq c.cQ (nbB m i c.cQ) (cr.done false) _ oaa (λk x hx hk=>?_) (by simp[oN,WRs (k:=i)])
  simp only[oN,cA hk,bu,hx,WRs (k:=k),fK,AH hl,nbB,au]
  cases hcb:eN m x with
  |false=>rw[show inR x 0 ((m.bb.length:Int)-1)=false from hcb];rfl
  |true=>
   rw[show inR x 0 ((m.bb.length:Int)-1)=true from hcb]
   obtain⟨d,d1,d2,d3⟩:=AT hcb
   cases k with
   |zero=>
    simp only[jN,show ltB 0 ((0:Nat):Int)=false from by simp[ltB],d2,Uc (h.2 d d1).1,AN,d3,au]
    cases eqB x (i:Int)<;>cases(d.cQ.any λy=>eqB y (i:Int))<;>rfl
   |succ k=>
    obtain⟨y,hy,hi⟩:=wk hk oaa oaa
    simp only[abY] at hy
    simp only[jN,hy,hi,show ltB 0 ((k+1:Nat):Int)=true from by simp[ltB],d2,Uc (h.2 d d1).1,AN,d3,id,au]
    cases eqB x (i:Int)<;>cases leB x y<;>cases(d.cQ.any λy=>eqB y (i:Int))<;>rfl
 have hL:iter (oL m) FU 0=bif gb (BR m) m.bb then some (inR (m.bb.length:Int) 1 6) else some false:=by
  refine lq m.bb (BR m) false _ oaa (λk x hx hk=>?_) (by simp[oL,fK])
  have hm:=aab hx
  simp only[oL,cA hk,bu,hx,fK,h2 k x hm hk,BR,au]
  cases inR x.fZ 0 2<;>cases gb (nbB m k x.cQ) x.cQ<;>rfl
 simp only[qE,hL,pO]
 grind
def EV (d:aG) (s:ah):Bool:=(eqB d.dr.ID.eb s.bF.ID.eb&&(eqB d.dr.ID.bV s.bF.ID.bV&&true))&&eqB d.dr.eX s.bF.eX
def wm (n:ab) (i:Nat) (d:aG):Bool:=match n.aA[i]?,n.bG[i]? with
 |some s,some a=>li d&&(ja s&&(jM a&&(EV d s&&(eN n.ev d.bh&&(eN n.ev s.bh&&(eqB s.b9.aJ (i:Int)&&wX a s.b9))))))
 |_,_=>false
def flB (n:ab) (f:bM):Bool:=inR f.bm 0 ((n.aw.length:Int)-1)&&eN n.ev f.bh
def Ae (n:ab):Bool:=inR n.dw 0 (WR ((lX .i64 1 (n.ev.bb.length:Int))-1))&&(inR n.rr 0 100000&&leB 0 n.jT)
def mT (n:ab):Bool:=pO n.ev&&(jQ n.eC&&(!eqB n.eC.fP 0&&(leB (n.aw.length:Int) 4&&(eqB (n.aA.length:Int) (n.aw.length:Int)&&(eqB (n.bG.length:Int) (n.aw.length:Int)&&
 (gb (wm n) n.aw&&(leB (n.aT.length:Int) 200&&(n.aT.all (flB n)&&Ae n))))))))
theorem OD {x:Int} (h:inR x 0 b=true):eN m x=ltB x (m.bb.length:Int):=by
 rw[bQ] at h
 rw[abO];simp[eN,inR,leB,ltB];omega
theorem flt_i (h:iA n):iter (iy n) FU 0=some (n.aT.all (flB n)&&Ae n):=by
 have hl:=h.2.2.2.2.1
 have:=fr (L:=iy n) n.aT (λ_ f=>flB n f) (some (Ae n)) oaa (λk x hx hk=>by
  simp only[iy,cA hk,bu,hx,WRs (k:=k),gK,AH h.2.1.1,vX h.1.1,flB,au]
  cases inR x.bm 0 ((n.aw.length:Int)-1)<;>cases eN n.ev x.bh<;>rfl) (by
  simp only[iy,cg,gK,Ae,show leB 0 (n.ev.bb.length:Int)=true from by simp[leB],au]
  cases inR n.dw 0 (WR ((lX .i64 1 (n.ev.bb.length:Int))-1))<;>cases inR n.rr 0 100000<;>rfl)
 rw[this,qg]
 cases n.aT.all (flB n)<;>rfl
theorem flt_s (h:iA n):iter (iC n) FU 0=some (n.aT.all (flB n)&&Ae n):=by
 have hl:=h.2.2.2.2.1
 have:=fr (L:=iC n) n.aT (λ_ f=>flB n f) (some (Ae n)) oaa (λk x hx hk=>by
  simp only[iC,cA hk,bu,hx,WRs (k:=k),fK,AH h.2.1.1,AH h.1.1,flB,eN,au]
  cases inR x.bm 0 ((n.aw.length:Int)-1)<;>cases inR x.bh 0 ((n.ev.bb.length:Int)-1)<;>rfl) (by
  simp only[iC,cg,fK,Ae,show leB 0 (n.ev.bb.length:Int)=true from by simp[leB],au]
  cases inR n.dw 0 (WR ((lX .i64 1 (n.ev.bb.length:Int))-1))<;>cases inR n.rr 0 100000<;>rfl)
 rw[this,qg]
 cases n.aT.all (flB n)<;>rfl
section
variable {n:ab} (h:iA n) (e1:n.aA.length=n.aw.length) (e2:n.bG.length=n.aw.length)
include h e1 e2
omit h in
theorem at_i (hk:k<n.aw.length):∃s a,s∈n.aA/\a∈n.bG/\n.aA[k]?=some s/\n.bG[k]?=some a:=
 ⟨n.aA[k]'(by omega),n.bG[k]'(by omega),ab3 _,ab3 _,v0 _,v0 _⟩
theorem mem_i {d:aG} (hd:n.aw[k]?=some d):ka n (k:Int)=some (wm n k d):=by
 have hk:=(aaa.1 hd).1
 obtain⟨s,a,s1,a1,s2,a2⟩:=at_i e1 e2 hk
 have od:=h.2.1.2 d (aab hd)
 have os:=h.2.2.1.2 s s1
 have oa:=h.2.2.2.1.2 a a1
 simp only[ka,bu,hd,s2,a2,TC od.2.1 od.1.1,CA os,yM oa,vX h.1.1,Jh oa,abM,wm,EV]
 cases li d<;>cases ja s<;>cases jM a<;>try rfl
 cases(eqB d.dr.ID.eb s.bF.ID.eb&&(eqB d.dr.ID.bV s.bF.ID.bV&&true))<;>cases eqB d.dr.eX s.bF.eX<;>try rfl
 cases eN n.ev d.bh<;>cases eN n.ev s.bh<;>cases eqB s.b9.aJ (k:Int)<;>rfl
theorem mem_s {d:aG} (hd:n.aw[k]?=some d):wQ n (k:Int)=some (wm n k d):=by
 have hk:=(aaa.1 hd).1
 obtain⟨s,a,s1,a1,s2,a2⟩:=at_i e1 e2 hk
 have od:=h.2.1.2 d (aab hd)
 have os:=h.2.2.1.2 s s1
 have oa:=h.2.2.2.1.2 a a1
 simp only[wQ,bu,hd,s2,a2,TD od.2.1 od.1.1,CB os,yN oa,Ji oa,abM,wm,EV]
 cases hv:li d
 .rfl
 cases hs:ja s
 .rfl
 have c1:eN n.ev d.bh=ltB d.bh (n.ev.bb.length:Int):=by
  simp only[li,hV] at hv;exact OD hv.2.2.1
 have c2:eN n.ev s.bh=ltB s.bh (n.ev.bb.length:Int):=by
  simp only[ja,hV] at hs;exact OD hs.2.2.2.2.2.2.2.2.2.2.2.1
 rw[c1,c2]
 cases jM a<;>cases(eqB d.dr.ID.eb s.bF.ID.eb&&(eqB d.dr.ID.bV s.bF.ID.bV&&true))<;>cases eqB d.dr.eX s.bF.eX<;>try rfl
 cases ltB d.bh (n.ev.bb.length:Int)<;>cases ltB s.bh (n.ev.bb.length:Int)<;>cases eqB s.b9.aJ (k:Int)<;>rfl
theorem mems_i:iter (iw n) FU 0=some (gb (wm n) n.aw&&(leB (n.aT.length:Int) 200&&(n.aT.all (flB n)&&Ae n))):=by
 have hl:=h.2.1.1
 have:=fr (L:=iw n) n.aw (wm n) (some (leB (n.aT.length:Int) 200&&(n.aT.all (flB n)&&Ae n))) oaa (λk x hx hk=>by
  simp only[iw,cA hk,mem_i h e1 e2 hx,WRs (k:=k),au]
  cases wm n k x<;>rfl) (by
  simp only[iw,cg,cond_false,flt_i h,sY 200]
  cases leB (n.aT.length:Int) 200<;>rfl)
 rw[this]
 cases gb (wm n) n.aw<;>rfl
theorem mems_s:iter (iB n) FU 0=some (gb (wm n) n.aw&&(n.aT.all (flB n)&&Ae n)):=by
 have hl:=h.2.1.1
 have:=fr (L:=iB n) n.aw (wm n) (some (n.aT.all (flB n)&&Ae n)) oaa (λk x hx hk=>by
  simp only[iB,cA hk,mem_s h e1 e2 hx,WRs (k:=k),au]
  cases wm n k x<;>rfl) (by simp only[iB,cg,cond_false,flt_s h])
 rw[this]
 cases gb (wm n) n.aw<;>rfl
end
theorem yS {a b:Nat} (h:eqB (a:Int) (b:Int)=true):a=b:=by
 have:(a:Int)=b:=by simpa [eqB] using h
 omega
theorem HG (h:iA n):ko n=some (mT n):=by
 simp only[ko,map_i h.1,Jz,abM,mT,sY 4]
 cases pO n.ev<;>cases jQ n.eC<;>cases eqB n.eC.fP 0<;>cases leB (n.aw.length:Int) 4<;>try rfl
 cases e1:eqB (n.aA.length:Int) (n.aw.length:Int)<;>cases e2:eqB (n.bG.length:Int) (n.aw.length:Int)<;>try rfl
 rw[mems_i h (yS e1) (yS e2)];rfl
theorem Ri (h:iA n):na n=some (mT n):=by
 simp only[na,Y4 h.1,NA,abM,mT,sY 4,sY 200]
 cases pO n.ev<;>cases jQ n.eC<;>cases eqB n.eC.fP 0<;>cases leB (n.aw.length:Int) 4<;>try rfl
 cases e1:eqB (n.aA.length:Int) (n.aw.length:Int)<;>cases e2:eqB (n.bG.length:Int) (n.aw.length:Int)<;>try rfl
 rw[mems_s h (yS e1) (yS e2)]
 cases gb (wm n) n.aw<;>cases leB (n.aT.length:Int) 200<;>rfl
attribute [local simp] cg bu
theorem py {by_:Nat} {L:Int×List α->Option (cr (Int×List α) (List α))} (xs:List α) (hb:by_<=100000) (hl:xs.length<=1048576)
 (hs:∀(k:Nat) (x:α),xs[k]?=some x->k<xs.length->L ((k:Int),xs.take k)=bif da by_ (xs.take k++[x]).length then some (.next (((k+1:Nat):Int),xs.take k++[x])) else none)
 (he:L ((xs.length:Nat),xs)=some (.done xs)):iter L FU (0,[])=some xs:=by
 have:=eJ (step:=L) xs (λk (_:Unit)=>((k:Int),xs.take k)) (λ_ _=>some (.next ())) (λ_=>some xs) oaa
  (λk x _ hx hk=>by
   rw[hs k x hx hk,cz hb (by simp;omega)]
   have e:xs.take (k+1)=xs.take k++[x]:=by rw[ab2,hx];rfl
   simp[e]) (λ_=>by rw[List.take_length,he];rfl) ()
 rw[EA xs (λ_ _=>rfl)] at this
 exact this
theorem AU (z:α) (xs:List α):cpL (aac ((xs.length:Int)).toNat z) xs=xs:=by simp[cpL]
theorem hP {b n:Nat} (hb:b<=100000) (hn:n<=1048576):pA b (n:Int) (n:Int)=true:=by
 have h:b*n<=100000*1048576:=aci hb hn
 have h2:(b:Int)*(n:Int)<=104857600000:=by rw[<-Int.natCast_mul];omega
 simp only[pA,decide_eq_true_eq];omega
theorem pz {f:α->Option α} {L:Int×List α->Option (cr (Int×List α) (List α))} (z:α) (xs:List α) (hl:xs.length<=1048576) (hf:∀x∈xs,f x=some x)
 (hs:∀(k:Nat) (v:List α),L ((k:Int),v)=bif ltB (k:Int) (xs.length:Int) then(abJ (ix xs (k:Int)) λx=>abJ (f x) λr=>abJ (ix v (k:Int)) λ_=>some (.next (WR ((k:Int)+1),v.set ((k:Int)).toNat r))) else some (.done v)):
 iter L FU (0,aac ((xs.length:Int)).toNat z)=some xs:=by
 have:=QZ (step:=L) id z xs oaa
  (λk x v hx hv=>by
   have hk:=(aaa.1 hx).1
   rw[hs]
   simp[cA hk,hx,hf x (aab hx),WRs (k:=k),v0 (show k<v.length by omega)])
  (λv=>by rw[hs];simp)
 simpa using this
theorem Hk {xs:List bJ} (h:okL s4 xs):th xs=some xs:=by
 rw[th,py (by_:=24) (L:=qa xs) xs oaa h.1 (λk x hx hk=>by
  simp[qa,cA hk,hx,nP (show k<9223372036854775807 by have:=h.1;omega),cz (by_:=1) (n:=x.a9.length) oaa (by have:=(h.2 x (aab hx)).1;omega)]) (by simp[qa])]
 rfl
theorem L6 {xs:List ae} (h:okL fY xs):vH xs=some xs:=by
 rw[vH,py (by_:=32) (L:=sa xs) xs oaa h.1 (λk x hx hk=>by
  simp[sa,cA hk,hx,nP (show k<9223372036854775807 by have:=h.1;omega),cz (by_:=1) (n:=x.a9.length) oaa (by have:=(h.2 x (aab hx)).1;omega)]) (by simp[sa])]
 rfl
theorem FY (h:ji w):ny w=some w:=by rw[ny,L6 h];rfl
theorem Vo (h:fa r):yA r=some r:=by rw[yA,L6 h.1,abM,Hk h.2];rfl
theorem plan_c {p:bR} (h:eK p):vK p=some p:=by
 rw[vK,abb,cz oaa (by have:=h.1;omega)];rfl
theorem qZ (h:d4 s):i9 s=some s:=by rw[i9,plan_c h.1,abM,Hk h.2.1,abM,FY h.2.2];rfl
theorem AX {d:aG} (h:eg d):kE d=some d:=by rw[kE,Vo h];rfl
theorem D2 (h:hU a):mR a=some a:=by
 rw[mR,abb,cz oaa (by have:=h.1;omega)];rfl
theorem X8 {x:av} (h:oH x):BI x=some x:=by
 rw[BI,abb,cz oaa (by have:=h.1;omega)];rfl
theorem KT (h:kL f):tm f=some f:=by rw[tm,X8 h];rfl
theorem map_c (h:gj m):qH m=some m:=by
 rw[qH,py (by_:=32) (L:=jP m) m.bb oaa h.1 (λk x hx hk=>by
  simp[jP,cA hk,hx,nP (show k<9223372036854775807 by have:=h.1;omega),cz (by_:=8) (n:=x.cQ.length) oaa (by have:=(h.2 x (aab hx)).1;omega)]) (by simp[jP])]
 rfl
theorem Y7 (h:iA n):yF n=some n:=by
 obtain⟨h1,h2,h3,h4,h5⟩:=h
 rw[yF,map_c h1,abM,
  py (by_:=144) (L:=ut n) n.aw oaa h2.1 (λk x hx hk=>by simp[ut,cA hk,hx,nP (show k<9223372036854775807 by have:=h2.1;omega),AX (h2.2 x (aab hx))]) (by simp[ut]),abM,
  py (by_:=288) (L:=uu n) n.aA oaa h3.1 (λk x hx hk=>by simp[uu,cA hk,hx,nP (show k<9223372036854775807 by have:=h3.1;omega),qZ (h3.2 x (aab hx))]) (by simp[uu]),abM,
  py (by_:=48) (L:=uv n) n.bG oaa h4.1 (λk x hx hk=>by simp[uv,cA hk,hx,nP (show k<9223372036854775807 by have:=h4.1;omega),D2 (h4.2 x (aab hx))]) (by simp[uv]),abM,
  py (by_:=176) (L:=uw n) n.aT oaa h5.1 (λk x hx hk=>by simp[uw,cA hk,hx,nP (show k<9223372036854775807 by have:=h5.1;omega),KT (h5.2 x (aab hx))]) (by simp[uw])]
 rfl
theorem Up {xs:List Int} (h:xs.length<=1048576):sj xs=some xs:=by rw[sj,hP oaa h,AU];rfl
theorem vV {xs:List Int} (h:xs.length<=1048576):eU xs=some xs:=by rw[eU,hP oaa h,AU];rfl
theorem XD {xs:List aD} (h:xs.length<=1048576):fN xs=some xs:=by rw[fN,hP oaa h,AU];rfl
theorem VU {xs:List aF} (h:xs.length<=1048576):fT xs=some xs:=by rw[fT,hP oaa h,AU];rfl
theorem Fl {xs:List bJ} (h:okL s4 xs):mH xs=some xs:=by
 rw[mH,hP oaa h.1,pz (f:=λx=>abJ (eU x.a9) λr=>some (⟨r⟩:bJ)) (L:=pw xs) (⟨[]⟩:bJ) xs h.1 (λx hx=>by rw[vV (h.2 x hx).1];rfl) (λk v=>by
  simp only[pw];cases ltB (k:Int) (xs.length:Int)<;>simp[ach])]
 rfl
theorem Ap {xs:List ae} (h:okL fY xs):kG xs=some xs:=by
 rw[kG,hP oaa h.1,pz (f:=λx=>abJ (eU x.a9) λr=>some (⟨x.cW,r⟩:ae)) (L:=pu xs) bT xs h.1 (λx hx=>by rw[vV (h.2 x hx).1];rfl) (λk v=>by
  simp only[pu];cases ltB (k:Int) (xs.length:Int)<;>simp[ach])]
 rfl
theorem PP (h:fa r):mI r=some r:=by rw[mI,Ap h.1,abM,Fl h.2];rfl
theorem M3 {d:aG} (h:eg d):lB d=some d:=by rw[lB,PP h];rfl
theorem X4 {p:bR} (h:eK p):kY p=some p:=by rw[kY,Up h.1];rfl
theorem Cz (h:ji w):lC w=some w:=by rw[lC,Ap h];rfl
theorem wH (h:d4 s):gz s=some s:=by rw[gz,X4 h.1,abM,Fl h.2.1,abM,Cz h.2.2];rfl
theorem BX (h:hU a):eZ a=some a:=by rw[eZ,XD h.1];rfl
theorem NO {x:bi} (h:ua x):rI x=some x:=by rw[rI,vV h.1];rfl
theorem Vi {x:av} (h:oH x):wg x=some x:=by rw[wg,NO h];rfl
theorem Hv (h:kL f):qt f=some f:=by rw[qt,Vi h];rfl
theorem map_ci (h:gj m):Bc m=some m:=by
 rw[Bc,hP oaa h.1,pz (f:=λx=>abJ (sj x.cQ) λr=>some (⟨x.fZ,r⟩:fc)) (L:=xT m) Kf m.bb h.1 (λx hx=>by rw[Up (h.2 x hx).1];rfl) (λk v=>by
  simp only[xT];cases ltB (k:Int) (m.bb.length:Int)<;>simp[ach])]
 rfl
theorem net_ci (h:iA n):oy n=some n:=by
 obtain⟨h1,h2,h3,h4,h5⟩:=h
 rw[oy,map_ci h1,abM,fD,hP oaa h2.1,pz (L:=gW n.aw) _ _ h2.1 (λx hx=>M3 (h2.2 x hx)) (λk v=>rfl),cond_true,abM,abM,
  fk,hP oaa h3.1,pz (L:=gm n.aA) _ _ h3.1 (λx hx=>wH (h3.2 x hx)) (λk v=>rfl),cond_true,abM,abM,
  fj,hP oaa h4.1,pz (L:=gk n.bG) _ _ h4.1 (λx hx=>BX (h4.2 x hx)) (λk v=>rfl),cond_true,abM,abM,
  fE,hP oaa h5.1,pz (L:=gX n.aT) _ _ h5.1 (λx hx=>Hv (h5.2 x hx)) (λk v=>rfl),cond_true,abM,abM]
theorem CP (n a b:Int):cf n a b=some (inR n a b):=by unfold cf inR;cases leB a n<;>rfl
theorem Mb (n a b:Int):du n a b=some (inR n a b):=by unfold du inR;cases leB a n<;>rfl
theorem H6 (x m:Int):(abK x m)%m=x%m:=by
 have h:=Int.mul_tdiv_add_tmod x m
 have h2:x%m=(m*x.tdiv m+x.tmod m)%m:=by rw[h]
 rw[h2,Int.mul_add_emod_self_left]
theorem Mq {m:Int} (x:Int) (hm:0<m): -m<abK x m/\abK x m<m:=⟨Int.lt_tmod_of_pos x hm,Int.tmod_lt_of_pos x hm⟩
theorem XJ {r m:Int} (h1: -m<r) (h2:r<0):r%m=r+m:=by
 rw[<-acu r m,acv oaa oaa]
theorem OZ (x:Int) {m:Int} (h1:1<=m) (h2:m<=1000000000000):QR x m=some (x%m):=by
 obtain⟨a,b⟩:=Mq x (show 0<m by omega)
 have hr:inR m 1 1000000000000=true:=bQ.2 ⟨h1,h2⟩
 have hz:(!eqB m 0)=true:=by simp[eqB];omega
 simp only[QR,CP,hr,hz,au]
 rw[<-H6 x m]
 by_cases h:abK x m<0
 .rw[show ltB (abK x m) 0=true from lt0_t h,XJ a h]
  simp only[au]
  rw[bP oaa]
 rw[show ltB (abK x m) 0=false from lt0_f oaa,acv oaa b]
 simp only[au]
theorem y8 (x:Int) {m:Int} (h1:1<=m) (h2:m<=1000000000000):G3 x m=some (x%m):=by
 obtain⟨a,b⟩:=Mq x (show 0<m by omega)
 have hr:inR m 1 1000000000000=true:=bQ.2 ⟨h1,h2⟩
 have hz:(!eqB m 0)=true:=by simp[eqB];omega
 simp only[G3,Mb,hr,hz,au]
 rw[bP oaa,abP oaa,acu,H6]
abbrev hM:Int:=2147483647
def A3 (v x:Int):Int:=(v*1000003+x%hM+13)%hM
theorem qj (v x:Int):0<=A3 v x/\A3 v x<hM:=⟨acl _ (by decide),ack _ (by decide)⟩
theorem Vj {v x:Int} (h0:0<=v) (h1:v<hM):abK (WR (WR (WR (v*1000003)+x%hM)+13)) hM=A3 v x:=by
 have a:=acl x (show hM≠0 by decide)
 have b:=ack x (show 0<hM by decide)
 unfold hM at*
 rw[bP (n:=v*1000003) oaa,bP (n:=v*1000003+x%2147483647) oaa,bP (n:=v*1000003+x%2147483647+13) oaa,abP oaa]
 rfl
theorem wi {v x:Int} (h0:0<=v) (h1:v<hM):md v x=some (A3 v x):=by
 rw[md,OZ x oaa oaa]
 simp only[abM]
 rw[Vj h0 h1]
def EF (v:Int) (xs:List Int):Int:=xs.foldl A3 v
theorem KZ {v:Int} (h0:0<=v) (h1:v<hM):∀(xs:List Int),0<=EF v xs/\EF v xs<hM
 |[]=>⟨h0,h1⟩
 |x::xs=>KZ (qj v x).1 (qj v x).2 xs
theorem KU:∀(xs:List Int) (v:Int),0<=v->v<hM->lk (λ(s x:Int)=>some (cr.next (ρ:=Int) (abK (WR (WR (WR (s*1000003)+x%hM)+13)) hM))) some xs v=some (EF v xs)
 |[],v,_,_=>rfl
 |x::xs,v,h0,h1=>by
  rw[lk,Vj h0 h1]
  exact KU xs _ (qj v x).1 (qj v x).2
theorem VB {xs:List Int} (hl:xs.length<=1048576):PS xs=some (EF 11 xs):=by
 have:=eJ (step:=yu xs) xs (λk (s:Int)=>(s,(k:Int))) (λs x=>some (cr.next (abK (WR (WR (WR (s*1000003)+x%hM)+13)) hM))) some oaa
  (λk x s hx hk=>by
   simp only[yu,cA hk,bu,hx,y8 x (m:=2147483647) oaa oaa,WRs (k:=k),au];rfl) (λs=>by simp[yu]) 11
 rw[PS,show iter (yu xs) FU (11,0)=_ from this,KU xs 11 (by decide) (by decide)]
 rfl
theorem HA:∀(xs:List Int) (v:Int),0<=v->v<hM->lk (λ(s x:Int)=>abJ (md s x) λr=>some (cr.next (ρ:=Int) r)) some xs v=some (EF v xs)
 |[],v,_,_=>rfl
 |x::xs,v,h0,h1=>by
  rw[lk,wi h0 h1]
  exact HA xs _ (qj v x).1 (qj v x).2
def ec (k:Int) (xs:List Int):Int:=A3 (EF (A3 11 k) xs) k
theorem lE (k:Int) (xs:List Int):0<=ec k xs/\ec k xs<hM:=qj _ _
theorem eo {xs:List Int} (hl:xs.length<=1048576) (k:Int):eT k xs=some (ec k xs):=by
 have:=eJ (step:=mC xs) xs (λk (s:Int)=>(s,(k:Int))) (λs x=>abJ (md s x) λr=>some (cr.next r)) some oaa
  (λk x s hx hk=>by
   simp only[mC,cA hk,bu,hx,WRs (k:=k),au]
   cases md s x<;>rfl) (λs=>by simp[mC]) (A3 11 k)
 rw[eT,wi (by decide) (by decide)]
 simp only[abM]
 have h2:=qj 11 k
 rw[show iter (mC xs) FU (A3 11 k,0)=_ from this,HA xs _ h2.1 h2.2]
 have h3:=KZ h2.1 h2.2 xs
 simp only[abM]
 rw[wi h3.1 h3.2]
 rfl
theorem er {xs:List Int} (hl:xs.length<=100000) (k:Int):eV k xs=some (ec k xs):=by
 have a1:da 8 ([k]++xs).length=true:=cz oaa (by simp;omega)
 have a2:da 8 (([k]++xs)++[k]).length=true:=cz oaa (by simp;omega)
 rw[eV,a1,a2]
 simp only[cond_true]
 rw[VB (by simp;omega)]
 simp[EF,ec]
def dk (k x:Int):Int:=if ec k [9,x]=0 then 1 else ec k [9,x]
theorem uQ (k x:Int):pp k x=some (dk k x):=by
 rw[pp,eo (by simp)]
 simp only[abM,dk]
 by_cases h:ec k [9,x]=0
 .rw[h];simp
 rw[show eqB (ec k [9,x]) 0=false from eqB_f.2 h];simp[h]
theorem uV (k x:Int):pG k x=some (dk k x):=by
 have:=(lE k [9,x]).1
 rw[pG,er (by simp)]
 simp only[abM,dk,FB]
 by_cases h:ec k [9,x]=0
 .rw[h,show ltB 1 0=false from ltB_f.2 oaa];simp
 by_cases h1:ec k [9,x]=1
 .rw[h1];simp
 rw[show ltB 1 (ec k [9,x])=true from ltB_t.2 oaa];simp[h]
def Lh (k:Int) (xs:List Int):Int:=xs.foldl dk k
theorem Cl:∀(xs:List Int) (v:Int),lk (λ(s x:Int)=>some (cr.next (ρ:=Int) (dk s x))) some xs v=some (Lh v xs)
 |[],v=>rfl
 |x::xs,v=>by rw[lk];exact Cl xs _
theorem xM {p:fA} (hl:p.Steps.length<=1048576) (k:Int):qq k p=some (Lh k p.Steps):=by
 have:=eJ (step:=kt p.Steps) p.Steps (λj (s:Int)=>(s,(j:Int))) (λs x=>some (cr.next (dk s x))) some oaa
  (λj x s hx hj=>by simp[kt,cA hj,hx,WRs (k:=j),uQ]) (λs=>by simp[kt]) k
 rw[qq,wh,show iter (kt p.Steps) FU (k,0)=_ from this,Cl]
 rfl
theorem yv {p:fA} (hl:p.Steps.length<=1048576) (k:Int):qF k p=some (Lh k p.Steps):=by
 have:=eJ (step:=lO p) p.Steps (λj (s:Int)=>(s,(j:Int))) (λs x=>some (cr.next (dk s x))) some oaa
  (λj x s hx hj=>by simp[lO,cA hj,hx,WRs (k:=j),uV]) (λs=>by simp[lO]) k
 rw[qF,show iter (lO p) FU (k,0)=_ from this,Cl]
 rfl
def LR (k e:Int):Int:=Lh k [1,3,e]
theorem wd (k e:Int):sh k e=some (LR k e):=by
 rw[sh,uS]
 simp only[abM]
 rw[xM (by simp)];rfl
theorem wF (k e:Int):sv k e=some (LR k e):=by
 rw[sv,uX]
 simp only[abM]
 rw[yv (by simp)];rfl
def okB (xs:List Int):Prop:=∀x∈xs,yk x
theorem SS {x:Int} (h:yk x):WR x=x:=bP (by simp only[yk] at h;omega)
theorem B3:∀(xs acc:List Int),okB xs->acc.length+xs.length<=100000->lk (λ(s:List Int) (x:Int)=>bif da 8 (s++[WR x]).length then some (cr.next (ρ:=List Int) (s++[WR x])) else none) some xs acc=some (acc++xs)
 |[],acc,_,_=>by simp[lk]
 |x::xs,acc,h,hl=>by
  simp only[aak] at hl
  rw[lk,show da 8 (acc++[WR x]).length=true from f7 (by simp;omega) (by simp;omega),SS (h x (.head _))]
  simp only[cond_true]
  rw[B3 xs (acc++[x]) (λy hy=>h y (.tail _ hy)) (by simp;omega)]
  simp
theorem Hz {xs:List Int} (hb:okB xs) (hl:xs.length<=50000):rz xs=some ((xs.length:Int)::xs):=by
 have:=eJ (step:=kn xs) xs (λj (s:List Int)=>((j:Int),s)) (λ(s:List Int) (x:Int)=>bif da 8 (s++[WR x]).length then some (cr.next (ρ:=List Int) (s++[WR x])) else none) some oaa
  (λj x s hx hj=>by
   simp only[kn,cA hj,bu,hx,WRs (k:=j),au]
   simp_all) (λs=>by simp[kn]) [(xs.length:Int)]
 have hm:pA 8 0 (WR ((xs.length:Int)+1))=true:=by
  rw[bP oaa];simp only[pA,decide_eq_true_eq];omega
 rw[rz,hm]
 simp only[cond_true]
 rw[show((aac ((0:Int)).toNat 0)++[(xs.length:Int)])=[(xs.length:Int)] from rfl,show da 8 [(xs.length:Int)].length=true from f7 (by simp) (by simp)]
 simp only[cond_true]
 rw[show iter (kn xs) FU (0,[(xs.length:Int)])=_ from this,B3 xs _ hb (by simp;omega)]
 rfl
theorem HX {xs:List Int} (hb:okB xs) (hl:xs.length<=50000):rO xs=some ((xs.length:Int)::xs):=by
 have:=eJ (step:=ky xs) xs (λj (s:List Int)=>((j:Int),s)) (λ(s:List Int) (x:Int)=>bif da 8 (s++[WR x]).length then some (cr.next (ρ:=List Int) (s++[WR x])) else none) some oaa
  (λj x s hx hj=>by
   simp only[ky,cA hj,bu,hx,WRs (k:=j),au]
   simp_all) (λs=>by simp[ky]) [(xs.length:Int)]
 rw[rO,show iter (ky xs) FU (0,[(xs.length:Int)])=_ from this,B3 xs _ hb (by simp;omega)]
 rfl
def Du (m:bi):Bool:=inR m.cZ 0 1&&(inR m.fQ 1 100000&&(leB (m.a9.length:Int) 60&&inR m.iK 0 2147483646))
theorem ta (m:bi):kA m=some (Du m):=by
 simp only[kA,Mb,abM,Du]
 grind
theorem Ai (m:bi):mX m=some (Du m):=by
 simp only[mX,CP,abM,Du]
 by_cases h0:m.cZ=0
 .rw[h0,show inR 0 0 1=true from bQ.2 oaa]
  simp only[bX,cond_true]
  grind
 by_cases h1:m.cZ=1
 .rw[h1,show inR 1 0 1=true from bQ.2 oaa,show eqB 1 0=false from eqB_f.2 oaa]
  simp only[bX,au]
  grind
 rw[show eqB m.cZ 0=false from eqB_f.2 h0,show eqB m.cZ 1=false from eqB_f.2 h1,show inR m.cZ 0 1=false from by
  cases h:inR m.cZ 0 1 with
  |false=>rfl
  |true=>have:=bQ.1 h;omega]
 rfl
def mac (k:Int) (m:bi):Int:=ec k ([m.cZ,m.fQ]++((m.a9.length:Int)::m.a9))
theorem GF {m:bi} (hb:okB m.a9) (hl:m.a9.length<=50000) (k:Int):we k m=some (eqB m.iK (mac k m)):=by
 rw[we,nD,Hz hb hl]
 simp only[abM]
 rw[show da 8 ([m.cZ,m.fQ]++((m.a9.length:Int)::m.a9)).length=true from f7 (by simp;omega) (by simp;omega),eo (by simp;omega)]
 rfl
theorem zY {m:bi} (hb:okB m.a9) (hl:m.a9.length<=50000) (k:Int):tg k m=some (eqB m.iK (mac k m)):=by
 rw[tg,CE,HX hb hl]
 simp only[abM]
 rw[show da 8 ([m.cZ,m.fQ]++((m.a9.length:Int)::m.a9)).length=true from f7 (by simp;omega) (by simp;omega),er (by simp;omega)]
 rfl
theorem Gk {m:bi} (h:Du m=true):m.a9.length<=60:=by
 simp only[Du,hV] at h
 have:=zu h.2.2.1
 omega
def wY (k:Int) (p:av):Bool:=Du p.bz&&(eqB p.bz.cZ 1&&eqB p.bz.iK (mac (LR k p.aV) p.bz))
theorem xc {p:av} (hb:okB p.bz.a9) (k:Int):ov k p=some (wY k p):=by
 rw[ov,Ai]
 simp only[abM,wY,wd]
 cases hv:Du p.bz
 .rfl
 rw[GF hb (abd (Gk hv) oaa)]
 grind
theorem xi {p:av} (hb:okB p.bz.a9) (k:Int):o4 k p=some (wY k p):=by
 rw[o4,ta]
 simp only[abM,wY,wF]
 cases hv:Du p.bz
 .rfl
 rw[zY hb (abd (Gk hv) oaa)]
 grind
def d1 (k:Int) (i:Nat) (x:Int):Int:=(x-ec k [(i:Int)]%256)%256
def xE (k:Int) (xs:List Int):List Int:=xs.mapIdx (λi x=>d1 k i x)
theorem Eo (k:Int) (xs:List Int):(xE k xs).length=xs.length:=by simp[xE]
theorem Xd (k:Int) (xs:List Int):okB (xE k xs):=by
 intro x hx
 obtain⟨i,hi⟩:=aal hx
 simp only[xE,abX] at hi
 cases h:xs[i]? with
 |none=>simp_all
 |some y=>
  rw[h] at hi;simp at hi;subst hi
  simp only[yk,d1]
  omega
theorem Gn (n:Int):IntKind.u8.wrap n=n%256:=by rfl
theorem K1 {xs:List Int} (hb:okB xs) (hl:xs.length<=50000) (k:Int):A4 k xs=some (xE k xs):=by
 have hc:eU xs=some xs:=by
  have hm:pA 1 (xs.length:Int) (xs.length:Int)=true:=by simp only[pA,decide_eq_true_eq];omega
  rw[eU,hm]
  simp[cpL]
 have goal:Wp (iter (xK k xs) FU (0,xs)) (λr=>r=xE k xs):=by
  refine Wp.iterF (λs=>∃i:Nat,i<=xs.length/\s.1=(i:Int)/\s.2.length=xs.length/\(∀j,j<i->s.2[j]?=(xE k xs)[j]?)/\(∀j,i<=j->s.2[j]?=xs[j]?)) (λs=>((xs.length:Int)-s.1).toNat) ⟨0,by omega,rfl,rfl,by omega,λ_ _=>rfl⟩ (by simp;omega) ?_
  rintro⟨v2,v3⟩ ⟨i,hi,rfl,h3,h4,h5⟩
  simp only at h3 h4 h5
  simp only[xK]
  refine Wp.cond (λhlt=>?_) (λhlt=>?_)
  .have hlt:=mu hlt
   have hil:i<xs.length:=by omega
   refine Wp.ix oaa oaa λx hx hxi=>?_
   refine Wp.eq (eo (by simp) _) (Wp.ix oaa oaa λx' _ _=>Wp.some ?_)
   simp only[abN] at hxi
   have hxi':xs[i]?=some x:=by rw[<-h5 i (aah _)];exact hxi
   have hr:=lE k [(i:Int)]
   have e1:abK (ec k [(i:Int)]) 256=ec k [(i:Int)]%256:=abP hr.1
   have e2:IntKind.u8.wrap (x-IntKind.u8.wrap (abK (ec k [(i:Int)]) 256))=d1 k i x:=by
    rw[Gn,Gn,e1,d1]
    omega
   have e3:WR ((i:Int)+1)=((i+1:Nat):Int):=by rw[bP oaa];rfl
   rw[e2,e3]
   refine⟨⟨i+1,by omega,rfl,by simp_all,λj hj=>?_,λj hj=>?_⟩,?_⟩
   .simp only[abN]
    rw[abu]
    by_cases hij:i=j
    .subst hij
     rw[if_pos rfl,if_pos oaa]
     simp only[xE,abX,hxi',abZ]
    grind
   .grind
   omega
  have hlt:=qz hlt
  refine Wp.some (abS λj=>?_)
  by_cases hj:j<xs.length
  .grind
  rw[acd oaa,acd (by rw[Eo];omega)]
 obtain⟨r,h1,h2⟩:=goal.ex
 rw[A4,hc]
 simp_all
theorem LU {xs:List Int} (hb:okB xs) (hl:xs.length<=50000) (k:Int):Bw k xs=some (xE k xs):=by
 have goal:Wp (iter (yr k xs) FU (0,[])) (λr=>r=xE k xs):=by
  refine Wp.iterF (λs=>∃i:Nat,i<=xs.length/\s.1=(i:Int)/\s.2=(xE k xs).take i) (λs=>((xs.length:Int)-s.1).toNat) ⟨0,by omega,rfl,rfl⟩ (by simp;omega) ?_
  rintro⟨v2,v3⟩ ⟨i,hi,rfl,rfl⟩
  simp only[yr]
  refine Wp.cond (λhlt=>?_) (λhlt=>?_)
  .have hlt:=mu hlt
   have hil:i<xs.length:=by omega
   refine Wp.ix oaa oaa λx hx hxi=>?_
   simp only[abN] at hxi
   have hx8:=hb x hx
   have hr:=lE k [(i:Int)]
   have e1:abK (ec k [(i:Int)]) 256=ec k [(i:Int)]%256:=abP hr.1
   have hb8:0<=ec k [(i:Int)]%256/\ec k [(i:Int)]%256<256:=by omega
   simp only[yk] at hx8
   refine Wp.eq (er (by simp) _) (Wp.eq (y8 _ oaa oaa) ?_)
   have hlen:((xE k xs).take i).length=i:=by rw[aaM,Eo];omega
   rw[e1,SS (hb x hx),bP oaa,Gn]
   have e4:(x-ec k [(i:Int)]%256)%256%256=d1 k i x:=by rw[d1];omega
   rw[e4]
   refine Wp.ok (f7 (by grind) (by grind)) (Wp.some ?_)
   have e3:WR ((i:Int)+1)=((i+1:Nat):Int):=by rw[bP oaa];rfl
   rw[e3]
   have hxd:(xE k xs)[i]?=some (d1 k i x):=by simp only[xE,abX,hxi,abZ]
   refine⟨⟨i+1,by omega,rfl,by rw[ab2,hxd];rfl⟩,?_⟩
   omega
  have hlt:=qz hlt
  refine Wp.some ?_
  rw[aca (by rw[Eo];omega)]
 obtain⟨r,h1,h2⟩:=goal.ex
 rw[Bw,h1,h2];rfl
def e1 (k:Int) (i:Nat) (x:Int):Int:=(x+ec k [(i:Int)]%256)%256
def tC (k:Int) (xs:List Int):List Int:=xs.mapIdx (λi x=>e1 k i x)
@[simp] theorem encL_len (k:Int) (xs:List Int):(tC k xs).length=xs.length:=by simp[tC]
theorem IK (k:Int) (xs:List Int):okB (tC k xs):=by
 intro x hx
 obtain⟨i,hi⟩:=aal hx
 simp only[tC,abX] at hi
 cases h:xs[i]? with
 |none=>simp_all
 |some y=>rw[h] at hi;simp at hi;subst hi;simp only[yk,e1];omega
theorem Xe {xs:List Int} (h:okB xs) (k:Int):xE k (tC k xs)=xs:=by
 apply abS
 intro i
 simp only[xE,tC,abX,Option.map_map]
 cases hx:xs[i]? with
 |none=>rfl
 |some x=>
  have:=h x (aab hx)
  simp only[yk] at this
  simp only[abZ,Function.comp,d1,e1,Option.some.injEq]
  omega
theorem K2 {xs:List Int} (hb:okB xs) (hl:xs.length<=50000) (k:Int):A5 k xs=some (tC k xs):=by
 have hc:eU xs=some xs:=vV oaa
 have goal:Wp (iter (xL k xs) FU (0,xs)) (λr=>r=tC k xs):=by
  refine Wp.iterF (λs=>∃i:Nat,i<=xs.length/\s.1=(i:Int)/\s.2.length=xs.length/\(∀j,j<i->s.2[j]?=(tC k xs)[j]?)/\(∀j,i<=j->s.2[j]?=xs[j]?)) (λs=>((xs.length:Int)-s.1).toNat) ⟨0,by omega,rfl,rfl,by omega,λ_ _=>rfl⟩ (by simp;omega) ?_
  rintro⟨v2,v3⟩ ⟨i,hi,rfl,h3,h4,h5⟩
  simp only at h3 h4 h5
  simp only[xL]
  refine Wp.cond (λhlt=>?_) (λhlt=>?_)
  .have hlt:=mu hlt
   have hil:i<xs.length:=by omega
   refine Wp.ix oaa oaa λx hx hxi=>?_
   refine Wp.eq (eo (by simp) _) (Wp.ix oaa oaa λx' _ _=>Wp.some ?_)
   simp only[abN] at hxi
   have hxi':xs[i]?=some x:=by rw[<-h5 i (aah _)];exact hxi
   have hr:=lE k [(i:Int)]
   have t1:abK (ec k [(i:Int)]) 256=ec k [(i:Int)]%256:=abP hr.1
   have t2:IntKind.u8.wrap (x+IntKind.u8.wrap (abK (ec k [(i:Int)]) 256))=e1 k i x:=by
    rw[Gn,Gn,t1,e1]
    omega
   have t3:WR ((i:Int)+1)=((i+1:Nat):Int):=by rw[bP oaa];rfl
   rw[t2,t3]
   refine⟨⟨i+1,by omega,rfl,by simp_all,λj hj=>?_,λj hj=>?_⟩,?_⟩
   .simp only[abN]
    rw[abu]
    by_cases hij:i=j
    .subst hij
     rw[if_pos rfl,if_pos oaa]
     simp only[tC,abX,hxi',abZ]
    grind
   .grind
   omega
  have hlt:=qz hlt
  refine Wp.some (abS λj=>?_)
  by_cases hj:j<xs.length
  .grind
  simp_all
 obtain⟨r,h1,h2⟩:=goal.ex
 rw[A5,hc]
 simp_all
theorem LV {xs:List Int} (hb:okB xs) (hl:xs.length<=50000) (k:Int):Bx k xs=some (tC k xs):=by
 have goal:Wp (iter (yt k xs) FU (0,[])) (λr=>r=tC k xs):=by
  refine Wp.iterF (λs=>∃i:Nat,i<=xs.length/\s.1=(i:Int)/\s.2=(tC k xs).take i) (λs=>((xs.length:Int)-s.1).toNat) ⟨0,by omega,rfl,rfl⟩ (by simp;omega) ?_
  rintro⟨v2,v3⟩ ⟨i,hi,rfl,rfl⟩
  simp only[yt]
  refine Wp.cond (λhlt=>?_) (λhlt=>?_)
  .have hlt:=mu hlt
   have hil:i<xs.length:=by omega
   refine Wp.ix oaa oaa λx hx hxi=>?_
   simp only[abN] at hxi
   have hx8:=hb x hx
   have hr:=lE k [(i:Int)]
   have t1:abK (ec k [(i:Int)]) 256=ec k [(i:Int)]%256:=abP hr.1
   have hb8:0<=ec k [(i:Int)]%256/\ec k [(i:Int)]%256<256:=by omega
   simp only[yk] at hx8
   refine Wp.eq (er (by simp) _) ?_
   have hlen:((tC k xs).take i).length=i:=by rw[aaM,encL_len];omega
   rw[t1,SS (hb x hx),bP oaa,abP oaa,Gn]
   have t4:(x+ec k [(i:Int)]%256)%256%256=e1 k i x:=by rw[e1];omega
   rw[t4]
   refine Wp.ok (f7 (by grind) (by grind)) (Wp.some ?_)
   have t3:WR ((i:Int)+1)=((i+1:Nat):Int):=by rw[bP oaa];rfl
   rw[t3]
   have hxd:(tC k xs)[i]?=some (e1 k i x):=by simp only[tC,abX,hxi,abZ]
   refine⟨⟨i+1,by omega,rfl,by rw[ab2,hxd];rfl⟩,?_⟩
   omega
  have hlt:=qz hlt
  refine Wp.some ?_
  rw[aca (by simp_all)]
 obtain⟨r,h1,h2⟩:=goal.ex
 rw[Bx,h1,h2];rfl
theorem UA {b:List Int} (hb:okB b) (hl:b.length<=50000) (k d c:Int):nD k d c b=some (ec k ([d,c]++((b.length:Int)::b))):=by
 rw[nD,Hz hb hl]
 simp only[abM]
 rw[show da 8 ([d,c]++((b.length:Int)::b)).length=true from f7 (by simp;omega) (by simp;omega),eo (by simp;omega)]
 rfl
theorem UB {m:bi} (hb:okB m.a9) (hl:m.a9.length<=50000) (k:Int):CE k m=some (mac k m):=by
 rw[CE,HX hb hl]
 simp only[abM]
 rw[show da 8 ([m.cZ,m.fQ]++((m.a9.length:Int)::m.a9)).length=true from f7 (by simp;omega) (by simp;omega),er (by simp;omega)]
 rfl
def FT (k c:Int) (b:List Int):bi:=⟨1,c,tC (dk k (2*c+1)) b,mac k ⟨1,c,tC (dk k (2*c+1)) b,0⟩⟩
def iH (root g e:Int) (x:ae):av:=⟨g,e,FT (LR root e) x.cW x.a9⟩
theorem NN (h0:0<=x.cW) (h1:x.cW<=1000000) (hb:okB x.a9) (hl:x.a9.length<=50000) (root g e:Int):tc root g e x=some (iH root g e x):=by
 simp only[tc,wF,FG,abM,bP (n:=2*x.cW) oaa,bP (n:=2*x.cW+1) oaa,uV,LV hb hl,UB (m:=⟨1,x.cW,tC _ x.a9,0⟩) (IK _ _) (by simpa using hl)]
 rfl
theorem VO (h0:0<=x.cW) (h1:x.cW<=1000000) (hb:okB x.a9) (hl:x.a9.length<=50000) (root g e:Int):sR root g e x=some (iH root g e x):=by
 simp only[sR,wd,EL,abM,bP (n:=2*x.cW) oaa,bP (n:=2*x.cW+1) oaa,uQ,K2 hb hl,UA (IK _ _) (show(tC _ x.a9).length<=50000 by simpa using hl)]
 rfl
theorem hM_le (k:Int) (xs:List Int):inR (ec k xs) 0 2147483646=true:=by have:=lE k xs;rw[bQ];grind
theorem Yn {c:Int} {b:List Int} (h0:1<=c) (h1:c<=100000) (hl:b.length<=60) (k:Int):Du (FT k c b)=true:=by
 simp only[Du,FT,encL_len,mac];rw[hM_le];simp[inR,leB];omega
theorem seal_v (h0:1<=x.cW) (h1:x.cW<=100000) (hl:x.a9.length<=60) (root g e:Int):wY root (iH root g e x)=true:=by
 simp only[wY,iH,Yn h0 h1 hl];simp[FT,mac,eqB]
def ro (root g e:Int) (x:av):ae×Bool:=
 if x.ag=g/\x.aV=e/\wY root x=true then(⟨x.bz.fQ,xE (dk (LR root e) (2*x.bz.fQ+1)) x.bz.a9⟩,true) else(bT,false)
theorem HI {p:av} (hb:okB p.bz.a9) (k g e:Int):sQ k g e p=some (ro k g e p)/\wE k g e p=some (ro k g e p):=by
 simp only[sQ,xc hb,wd,wE,xi hb,wF,abM,ro]
 cases hg:eqB p.ag g
 .simp_all
 cases he:eqB p.aV e
 .simp_all
 cases hv:wY k p
 .simp_all
 have he:=qi he
 rw[if_pos ⟨qi hg,he,rfl⟩]
 simp only[wY,hV] at hv
 obtain⟨h1,h2,h3⟩:=hv
 have hlen:=Gk h1
 have hd:=qi h2
 have hm:=qi h3
 have hcnt:1<=p.bz.fQ/\p.bz.fQ<=100000:=by
  simp only[Du,hV] at h1
  exact bQ.1 h1.2.1
 rw[he] at hm
 have ek:eqB p.bz.iK (mac (LR k e) p.bz)=true:=by rw[hm];simp
 simp only[wj,uQ,K1 hb (show p.bz.a9.length<=50000 by omega),Av,ta,zY hb (show p.bz.a9.length<=50000 by omega),uV,LU hb (show p.bz.a9.length<=50000 by omega),h1,h2,ek,show leB p.bz.fQ 0=false from leB_f.2 oaa,hd,bP (n:=2*p.bz.fQ) oaa,bP (n:=2*p.bz.fQ+1) oaa,au]
 simp_all
theorem Rn (h0:1<=x.cW) (h1:x.cW<=100000) (hb:okB x.a9) (hl:x.a9.length<=60) (root g e:Int):ro root g e (iH root g e x)=(x,true):=by
 rw[ro,if_pos ⟨rfl,rfl,seal_v h0 h1 hl _ _ _⟩]
 simp[iH,FT,Xe hb]
def NR (root:Int) (m:aF):Int:=ec (Lh root [1,2]) [23,m.a8,m.bh,m.ag,m.aV,m.bV]
def wL (root:Int) (m:aF):aF:={m with iK:=NR root m}
def tx (root:Int) (m:aF):Bool:=eqB m.iK (NR root m)
theorem VT (root:Int) (m:aF):tf root m=some (NR root m):=by simp[tf,oY,yv,er,NR]
theorem VS (root:Int) (m:aF):sS root m=some (NR root m):=by simp[sS,oo,xM,eo,NR]
theorem CC (root:Int) (m:aF):jO root m=some (wL root m):=by simp[jO,VT,wL]
theorem JW (root:Int) (m:aF):nB root m=some (wL root m):=by simp[nB,VS,wL]
theorem J7 (root:Int) (m:aF):im root m=some (tx root m):=by simp[im,VT,tx]
theorem Gl (root:Int) (m:aF):gv root m=some (tx root m):=by simp[gv,VS,tx]
@[simp] theorem vSig_sign (root:Int) (m:aF):tx root (wL root m)=true:=by simp[tx,wL,NR,eqB]
def lH (m:aF):Bool:=inR m.a8 1 8&&(inR m.bh 0 5&&(inR m.ag 0 999999&&(inR m.aV 0 999999&&inR m.bV 0 1000000000000)))
theorem PA (m:aF):lN m=some (lH m):=by
 simp only[lN,fK,abM,lH]
 grind
theorem Pz (m:aF):lv m=some (lH m):=by
 simp only[lv,gK,abM,lH]
 grind
def msk (k r:Int):Int:=ec k [1,r]%1000000
theorem Fc (k r:Int):0<=msk k r/\msk k r<1000000:=by unfold msk;omega
theorem Y6 (k r:Int):mN k r=some (msk k r):=by simp[mN,er,y8,msk]
theorem Y5 (k r:Int):mE k r=some (msk k r):=by simp[mE,eo,msk,abP (lE k [1,r]).1]
def unm (k r a:Int):Int:=(a%1000000-msk k r)%1000000
theorem Oi (k r a:Int):0<=unm k r a/\unm k r a<=999999:=by unfold unm;omega
theorem Zo (k r a:Int):kD k r a=some (unm k r a):=by
 have:=Fc k r
 simp only[kD,y8 _ (show(1:Int)<=1000000 by omega) oaa,Y6,abM,unm];rw[bP oaa]
theorem Zn (k r a:Int):kr k r a=some (unm k r a):=by
 have:=Fc k r
 simp only[kr,OZ _ (show(1:Int)<=1000000 by omega) oaa,Y5,abM,unm];rw[bP oaa]
def Jj (x:Int):Int:=if x=0 then 1 else x
def vec (k r q:Int):cy:=bif inR q 0 999999 then⟨r,(q+msk k r)%1000000,ec k [2,r,q],ec k [3,r],Jj (ec k [4,r,q])⟩ else cp
theorem XI (k:Int) (xs:List Int):1<=Jj (ec k xs)/\Jj (ec k xs)<=2147483646:=by have:=lE k xs;unfold hM Jj at*;omega
theorem Ql (k r q:Int):iF k r q=some (vec k r q):=by
 simp only[iF,fK,abM,vec]
 cases hq:inR q 0 999999
 .rfl
 rw[bQ] at hq
 have h1:=Fc k r
 have h2:=lE k [4,r,q]
 simp only[Y6,y8 _ (show(1:Int)<=1000000 by omega) oaa,er (show [2,r,q].length<=100000 by simp),er (show [3,r].length<=100000 by simp),er (show [4,r,q].length<=100000 by simp),FB,au]
 rw[bP oaa]
 by_cases h:ec k [4,r,q]=0
 .rw[show ltB 1 (ec k [4,r,q])=false from ltB_f.2 oaa];simp[Jj,h]
 by_cases h':ec k [4,r,q]=1
 .rw[h'];simp[ltB,Jj]
 rw[show ltB 1 (ec k [4,r,q])=true from ltB_t.2 oaa];simp[Jj,h]
theorem Zp (k r q:Int):lx k r q=some (vec k r q):=by
 simp only[lx,gK,abM,vec]
 cases hq:inR q 0 999999
 .rfl
 rw[bQ] at hq
 have h1:=Fc k r
 simp only[Y5,eo (show [2,r,q].length<=1048576 by simp),eo (show [3,r].length<=1048576 by simp),eo (show [4,r,q].length<=1048576 by simp),au]
 rw[bP oaa,abP oaa]
 by_cases h:ec k [4,r,q]=0
 .rw[h];simp[Jj]
 rw[show eqB (ec k [4,r,q]) 0=false from eqB_f.2 h];simp[Jj,h]
theorem Qf {k r q:Int} (h0:0<=q) (h1:q<=999999):unm k r ((q+msk k r)%1000000)=q:=by have:=Fc k r;unfold unm;omega
def jS (k last:Int) (v:cy):Int:=
 if v.iK≠ec k [2,v.ew,unm k v.ew v.f4] then 1 else if unm k v.ew v.f4<=last then 2 else if last<unm k v.ew v.f4-1000 then 3 else 0
theorem Qj (k last:Int) (v:cy):mP k last v=some (jS k last v):=by
 have hu:=Oi k v.ew v.f4
 simp only[mP,Zo,er (show [2,v.ew,unm k v.ew v.f4].length<=100000 by simp),abM,jS]
 rw[bP oaa]
 by_cases h1:v.iK=ec k [2,v.ew,unm k v.ew v.f4]
 .rw[show eqB v.iK (ec k [2,v.ew,unm k v.ew v.f4])=true from eqB_t.2 h1]
  simp only[ne_eq,h1,not_true_eq_false,if_false,au]
  by_cases h2:unm k v.ew v.f4<=last
  .rw[show leB (unm k v.ew v.f4) last=true from leB_t.2 h2,if_pos h2];rfl
  rw[show leB (unm k v.ew v.f4) last=false from leB_f.2 oaa,if_neg h2]
  by_cases h3:last<unm k v.ew v.f4-1000
  .rw[show ltB last (unm k v.ew v.f4-1000)=true from ltB_t.2 h3,if_pos h3];rfl
  rw[show ltB last (unm k v.ew v.f4-1000)=false from ltB_f.2 oaa,if_neg h3];rfl
 rw[show eqB v.iK (ec k [2,v.ew,unm k v.ew v.f4])=false from eqB_f.2 h1]
 simp[h1]
theorem Qi {last:Int} (hl: -9000000000000<=last/\last<=9000000000000) (k:Int) (v:cy):mF k last v=some (jS k last v):=by
 have hu:=Oi k v.ew v.f4
 simp only[mF,Zn,eo (show [2,v.ew,unm k v.ew v.f4].length<=1048576 by simp),abM,jS]
 rw[bP oaa]
 by_cases h1:v.iK=ec k [2,v.ew,unm k v.ew v.f4]
 .rw[show eqB v.iK (ec k [2,v.ew,unm k v.ew v.f4])=true from eqB_t.2 h1]
  simp only[ne_eq,h1,not_true_eq_false,if_false,au]
  by_cases h2:unm k v.ew v.f4<=last
  .rw[show leB (unm k v.ew v.f4) last=true from leB_t.2 h2,if_pos h2];rfl
  rw[show leB (unm k v.ew v.f4) last=false from leB_f.2 oaa,if_neg h2]
  by_cases h3:last<unm k v.ew v.f4-1000
  .rw[show ltB (last+1000) (unm k v.ew v.f4)=true from ltB_t.2 oaa,if_pos h3];rfl
  rw[show ltB (last+1000) (unm k v.ew v.f4)=false from ltB_f.2 oaa,if_neg h3];rfl
 rw[show eqB v.iK (ec k [2,v.ew,unm k v.ew v.f4])=false from eqB_f.2 h1]
 simp[h1]
theorem Sc {k r q:Int} (h0:0<=q) (h1:q<=999999) (last:Int):jS k last (vec k r q)=if q<=last then 2 else if last<q-1000 then 3 else 0:=by
 have hq:inR q 0 999999=true:=bQ.2 ⟨h0,h1⟩
 simp only[vec,hq,cond_true,jS,Qf h0 h1,ne_eq,not_true_eq_false,if_false]
def Eh (id:dv) (q:Int):Int:=ec 29 [id.eb,id.bV,q]
theorem Tm (id:dv) (q:Int):lK id q=some (Eh id q):=by simp[lK,er,Eh]
theorem ZC (id:dv) (q:Int):nU id q=some (Eh id q):=by simp[nU,eo,Eh]
theorem Mk {α:Type} (p:α->Bool):∀(xs:List α) (i:Nat),i<(xs.takeWhile p).length->∃x,xs[i]?=some x/\p x=true
 |[],i,h=>by simp at h
 |x::xs,i,h=>by
  rw[ab7] at h
  cases hp:p x<;>rw[hp] at h
  .simp at h
  cases i with
  |zero=>simp_all
  |succ i=>exact Mk p xs i (by simpa using h)
theorem Mj {α:Type} (p:α->Bool):∀(xs:List α) (x:α),xs[(xs.takeWhile p).length]?=some x->p x=false
 |[],x,h=>by simp at h
 |y::xs,x,h=>by
  rw[ab7] at h
  cases hp:p y<;>rw[hp] at h
  .simp_all
  exact Mj p xs x (by simpa using h)
theorem Gi (p:α->Bool) (xs:List α):(xs.takeWhile p).length<=xs.length:=(List.takeWhile_prefix p).length_le
theorem Gj {α:Type} (p:α->Bool):∀xs:List α,xs.take (xs.takeWhile p).length=xs.takeWhile p
 |[]=>rfl
 |x::xs=>by
  rw[ab7]
  cases p x
  .rfl
  simp[Gj p xs]
theorem Gh {α:Type} (p:α->Bool):∀xs:List α,xs.drop (xs.takeWhile p).length=xs.dropWhile p
 |[]=>rfl
 |x::xs=>by
  rw[ab7,acs]
  cases p x
  .rfl
  simp[Gh p xs]
theorem wZ {L:Int->Option (cr Int Int)} (xs:List α) (p:α->Bool) (hl:xs.length<=1048576)
 (h1:∀(k:Nat) (x:α),xs[k]?=some x->L k=bif p x then some (.next (WR ((k:Int)+1))) else some (.done k)) (h0:L xs.length=some (.done xs.length)):iter L FU 0=some (((xs.takeWhile p).length:Nat):Int):=by
 have hle:=Gi p xs
 have:Wp (iter L FU 0) (λr=>r=(((xs.takeWhile p).length:Nat):Int)):=by
  refine Wp.iterF (λs=>∃i:Nat,s=(i:Int)/\i<=(xs.takeWhile p).length) (λs=>((xs.length:Int)-s).toNat) ⟨0,rfl,by omega⟩ oaa ?_
  rintro _ ⟨i,rfl,hi⟩
  by_cases e:i<(xs.takeWhile p).length
  .obtain⟨x,hx,hp⟩:=Mk p xs i e
   rw[h1 i x hx,hp]
   exact⟨⟨i+1,by rw[bP oaa];rfl,by omega⟩,by simp only[bP (show-9223372036854775808<=(i:Int)+1/\(i:Int)+1<=9223372036854775807 by omega)];omega⟩
  have e:i=(xs.takeWhile p).length:=by omega
  by_cases hn:i<xs.length
  .obtain⟨x,hx⟩:∃x,xs[i]?=some x:=⟨_,v0 hn⟩
   rw[h1 i x hx,Mj p xs x (by simp_all)]
   subst e;rfl
  have:i=xs.length:=by omega
  subst this
  rw[h0]
  show(xs.length:Int)=_
  omega
 obtain⟨r,hr,rfl⟩:=this.ex
 exact hr
def before (q:Int) (x:ae):Bool:=ltB x.cW q
def qw (x:ae) (xs:List ae):List ae:=xs.takeWhile (before x.cW)++[x]++xs.dropWhile (before x.cW)
def sL:List ae->Int->List bJ->aP
 |[],n,dl=>⟨n,[],dl⟩
 |x::xs,n,dl=>if x.cW=n/\dl.length<24 then sL xs (n+1) (dl++[⟨x.a9⟩]) else⟨n,x::xs,dl⟩
def yc (r:aP) (x:ae):Bool:=!pb r||(ltB 60 (x.a9.length:Int)||(!inR x.cW r.bE (r.bE+7)||(r.aK.any (λy=>eqB y.cW x.cW)||leB 24 (r.be.length:Int))))
def nN (r:aP) (x:ae):aP:=
 bif yc r x then r else
  let o:=sL (qw x r.aK) r.bE r.be
  bif leB 24 (o.be.length:Int) then {o with aK:=[]} else o
theorem Ho:∀(xs:List ae) (n:Int) (dl:List bJ),dl.length<=24->(sL xs n dl).be.length<=24
 |[],n,dl,h=>h
 |x::xs,n,dl,h=>by
  rw[sL];split
  .exact Ho xs _ _ (by simp;omega)
  exact h
theorem B7 {L:aP->Option (cr aP aP)}
 (hL:∀v:aP,v.aK.length<=1000->v.be.length<=24->0<=v.bE->v.bE<=2000000->L v=match v.aK with
  |[]=>some (.done v)
  |x::xs=>if x.cW=v.bE/\v.be.length<24 then some (.next ⟨v.bE+1,xs,v.be++[⟨x.a9⟩]⟩) else some (.done v)):
 ∀(xs:List ae) (n:Int) (dl:List bJ) (fu:Nat),xs.length<=1000->dl.length<=24->0<=n->n+xs.length<=2000000->xs.length<fu->iter L fu ⟨n,xs,dl⟩=some (sL xs n dl)
 |[],n,dl,fu,h1,h2,h3,h4,h5=>by
  cases fu with
  |zero=>omega
  |succ fu=>rw[iter,hL _ h1 h2 h3 (by simp_all)];rfl
 |x::xs,n,dl,fu,h1,h2,h3,h4,h5=>by
  simp only[aak] at h1 h4 h5
  cases fu with
  |zero=>omega
  |succ fu=>
   rw[iter,hL ⟨n,x::xs,dl⟩ oaa h2 h3 (by grind),sL]
   simp only
   by_cases e:x.cW=n/\dl.length<24
   .rw[if_pos e,if_pos e]
    exact B7 hL xs (n+1) _ fu oaa (by simp;omega) oaa oaa oaa
   grind
theorem TY {xs:List ae} (h:xs.length<=1048576) (q:Int):∃r,F3 xs q=some r/\leB 0 r=xs.any (λy=>eqB y.cW q):=by
 refine⟨_,vf (L:=ur xs q) xs (λy=>eqB y.cW q) oaa (λk x hx hk=>?_) ?_,?_⟩
 .simp[ur,cA hk,hx];cases eqB x.cW q<;>simp[WRs (k:=k)]
 .simp[ur]
 rcases Ck (λy:ae=>eqB y.cW q) xs 0 with⟨e,ha⟩|⟨j,e,x,hx,hp,_⟩
 .rw[show((0:Nat):Int)=0 from rfl] at e
  rw[e,show xs.any (λy=>eqB y.cW q)=false from by simp_all];simp[leB]
 rw[show((0:Nat):Int)=0 from rfl] at e
 rw[e,show xs.any (λy=>eqB y.cW q)=true from List.any_eq_true.2 ⟨x,aab hx,hp⟩,leB_t];omega
theorem Vc (h:r.aK.length<=1048576) (q:Int):Al r q=some (r.aK.any (λy=>eqB y.cW q)):=
 Ks (L:=p3 r q) r.aK (λy=>eqB y.cW q) oaa (λk x hx hk=>by
  simp[p3,cA hk,hx];cases eqB x.cW q<;>simp[WRs (k:=k)]) (by simp[p3])
theorem sx (h:pb r=true):r.bE=(r.be.length:Int)+1/\r.be.length<=24/\r.aK.length<=8:=by
 simp only[pb,hV] at h
 obtain⟨h1,h2,h3,h4,h5⟩:=h
 have h2:=zu h2
 have h4:=zu h4
 have h1:=qi h1
 rw[bP oaa] at h1
 omega
theorem xW (x:ae) (xs:List ae):(qw x xs).length=xs.length+1:=by
 have:(xs.takeWhile (before x.cW)).length+(xs.dropWhile (before x.cW)).length=xs.length:=by rw[<-aaz,ab9]
 simp[qw];omega
theorem L2_i:∀v:aP,v.aK.length<=1000->v.be.length<=24->0<=v.bE->v.bE<=2000000->kV v=match v.aK with
 |[]=>some (.done v)
 |x::xs=>if x.cW=v.bE/\v.be.length<24 then some (.next ⟨v.bE+1,xs,v.be++[⟨x.a9⟩]⟩) else some (.done v):=by
 rintro⟨n,p,dl⟩ h1 h2 h3 h4
 cases p with
 |nil=>simp[kV]
 |cons x xs=>
  simp only[aak] at h1 h2
  have i0:ix (x::xs) 0=some x:=by simp[ix,leB]
  have hlt:ltB 0 (((x::xs).length:Nat):Int)=true:=ltB_t.2 (by simp_all)
  simp only[kV,i0,hlt,au]
  by_cases e:x.cW=n
  .by_cases e2:dl.length<24
   .rw[if_pos ⟨e,e2⟩,eqB_t.2 e,show ltB (dl.length:Int) 24=true from ltB_t.2 oaa]
    have a1:da 24 (dl++[(⟨x.a9⟩:bJ)]).length=true:=cz oaa (by simp;omega)
    have a2:eF (x::xs) 1 (((x::xs).length:Nat):Int)=true:=by simp[eF];omega
    simp only[a1,a2,bP (n:=n+1) (by grind),au]
    rfl
   rw[if_neg (λh=>e2 h.2),eqB_t.2 e,show ltB (dl.length:Int) 24=false from ltB_f.2 oaa];rfl
  rw[if_neg (λh=>e h.1),eqB_f.2 e];rfl
theorem L2_s:∀v:aP,v.aK.length<=1000->v.be.length<=24->0<=v.bE->v.bE<=2000000->ui v=match v.aK with
 |[]=>some (.done v)
 |x::xs=>if x.cW=v.bE/\v.be.length<24 then some (.next ⟨v.bE+1,xs,v.be++[⟨x.a9⟩]⟩) else some (.done v):=L2_i
theorem B5 (b:Bool) (x y:α):(bif b then some x else some y)=some (bif b then x else y):=by grind
theorem Pd (a b c d e:Bool):(bif !a then some true else bif b then some true else bif !c then some true else bif d then some true else some e)=some (!a||(b||(!c||(d||e)))):=by grind
theorem take_s (h:fa r) :oU r x=some (nN r x):=by
 obtain⟨q,hq,hq2⟩:=TY h.1.1 x.cW
 have hw:pb r=true->inR x.cW r.bE (WR (WR (r.bE+8)-1))=inR x.cW r.bE (r.bE+7):=λhv=>by
  have:=sx hv
  rw[bP (n:=r.bE+8) oaa,bP oaa,show r.bE+8-1=r.bE+7 by omega]
 have hl:(bif !pb r then some true else(bif ltB 60 (x.a9.length:Int) then some true else(bif !(inR x.cW r.bE (WR (WR (r.bE+8)-1))) then some true else(bif leB 0 q then some true else some (leB 24 (r.be.length:Int))))))=some (yc r x):=by
  rw[hq2,Pd]
  cases hv:pb r
  .simp[yc,hv]
  rw[hw hv];simp[yc,hv]
 simp only[oU,Vo h,Vq h.2.1 h.1.1,fK,hq,abM,hl]
 rw[nN]
 cases hlt:yc r x
 .simp only[yc,aam,abU] at hlt
  obtain⟨l1,l2,l3,l4,l5⟩:=hlt
  have hv:=sx l1
  have l2:=qz l2
  have l5:=yd l5
  have hw2:=Gi (before x.cW) r.aK
  have hrun:=wZ (L:=lh x r) r.aK (before x.cW) oaa (λk y hy=>by
   have hk:=(aaa.1 hy).1
   simp[lh,cA hk,hy,before]) (by simp[lh])
  have hxs:([]:List ae)++r.aK.take ((((r.aK.takeWhile (before x.cW)).length:Nat):Int)).toNat++[(⟨x.cW,[]++x.a9⟩:ae)]++r.aK.drop ((((r.aK.takeWhile (before x.cW)).length:Nat):Int)).toNat=qw x r.aK:=by
   simp[Gj,Gh,qw]
  have a1:eF r.aK 0 (((r.aK.takeWhile (before x.cW)).length:Nat):Int)=true:=by simp[eF];omega
  have a2:eF r.aK (((r.aK.takeWhile (before x.cW)).length:Nat):Int) (r.aK.length:Int)=true:=by simp[eF];omega
  have a3:da 1 (([]:List Int)++x.a9).length=true:=cz oaa (by simp;omega)
  have a4:da 32 (([]:List ae)++r.aK.take ((((r.aK.takeWhile (before x.cW)).length:Nat):Int)).toNat).length=true:=cz oaa (by simp;omega)
  have a5:da 32 (([]:List ae)++r.aK.take ((((r.aK.takeWhile (before x.cW)).length:Nat):Int)).toNat++[(⟨x.cW,[]++x.a9⟩:ae)]).length=true:=cz oaa (by simp;omega)
  simp only[hrun,a1,a2,a3,a4,a5,au]
  rw[hxs,cz oaa (show(qw x r.aK).length<=1048577 by grind),B7 L2_s (qw x r.aK) r.bE r.be FU (by grind) oaa oaa (by grind) (by have:=gZ;grind)]
  have hd:=Ho (qw x r.aK) r.bE r.be oaa
  simp only[B5,au]
  rw[show eqB (((sL (qw x r.aK) r.bE r.be).be.length:Nat):Int) 24=leB 24 (((sL (qw x r.aK) r.bE r.be).be.length:Nat):Int) from by rw[abO];simp[eqB,leB];omega]
  cases leB 24 (((sL (qw x r.aK) r.bE r.be).be.length:Nat):Int)<;>rfl
 rfl
theorem O8 (xs ys:List α) (z x:α):((cpD ((xs++ys)++[z]) (xs.length+1) (((xs++ys)++[z]).drop xs.length)).set xs.length x)=xs++[x]++ys:=by
 have e1:((xs++ys)++[z]).drop xs.length=ys++[z]:=by rw[ab6,acj]
 have e2:((xs++ys)++[z]).drop (xs.length+1)=(ys++[z]).drop 1:=by rw[<-aaK,e1]
 have e3:((xs++ys)++[z]).take (xs.length+1)=xs++(ys++[z]).take 1:=by rw[ab6,List.take_append,aca oaa];simp
 rw[cpD,e1,e2,e3,cpL]
 cases ys with
 |nil=>simp
 |cons y ys=>simp_all
theorem take_i (h:fa r) :og r x=some (nN r x):=by
 have hw:pb r=true->inR x.cW r.bE (WR (WR (r.bE+8)-1))=inR x.cW r.bE (r.bE+7):=λhv=>by
  have:=sx hv
  rw[bP (n:=r.bE+8) oaa,bP oaa,show r.bE+8-1=r.bE+7 by omega]
 have hl:(bif !pb r then some true else(bif ltB 60 (x.a9.length:Int) then some true else(bif !(inR x.cW r.bE (WR (WR (r.bE+8)-1))) then some true else(bif r.aK.any (λy=>eqB y.cW x.cW) then some true else some (leB 24 (r.be.length:Int))))))=some (yc r x):=by
  rw[Pd]
  cases hv:pb r
  .simp[yc,hv]
  rw[hw hv];simp[yc,hv]
 simp only[og,PP h,Vp h.2.1 h.1.1,gK,Vc h.1.1,abM,hl]
 rw[nN]
 cases hlt:yc r x
 .simp only[yc,aam,abU] at hlt
  obtain⟨l1,l2,l3,l4,l5⟩:=hlt
  have hv:=sx l1
  have l2:=qz l2
  have l5:=yd l5
  have hw2:=Gi (before x.cW) r.aK
  have hrun:=wZ (L:=kU x r) r.aK (before x.cW) oaa (λk y hy=>by
   have hk:=(aaa.1 hy).1
   simp[kU,cA hk,hy,before]) (by simp[kU])
  generalize hm:(r.aK.takeWhile (before x.cW)).length=m at*
  have hxs:(cpD (r.aK++[bT]) (m+1) ((r.aK++[bT]).drop m)).set m (⟨x.cW,x.a9⟩:ae)=qw x r.aK:=by
   have:=O8 (r.aK.takeWhile (before x.cW)) (r.aK.dropWhile (before x.cW)) bT x
   rw[ab9,hm] at this
   exact this
  have w1:WR ((m:Int)+1)=((m+1:Nat):Int):=nP oaa
  have a1:eF (r.aK++[bT]) ((m+1:Nat):Int) (((r.aK++[bT]).length:Nat):Int)=true:=by simp[eF];omega
  have a2:eF (r.aK++[bT]) (m:Int) (((r.aK++[bT]).length:Nat):Int)=true:=by simp[eF];omega
  have a3:da 32 (r.aK++[bT]).length=true:=cz oaa (by simp;omega)
  obtain⟨y,_,hy⟩:=Ut (xs:=cpD (r.aK++[bT]) (m+1) ((r.aK++[bT]).drop m)) (i:=(m:Int)) oaa (by simp;omega)
  simp only[hrun,w1,abN,a1,a2,a3,vV (show x.a9.length<=1048576 by omega),hy,au]
  rw[hxs,B7 L2_i (qw x r.aK) r.bE r.be FU (by rw[xW];omega) oaa oaa (by rw[xW];omega) (by have:=gZ;rw[xW];omega)]
  grind
 rfl
def xB (d:aG):aF:=wL d.aZ ⟨5,d.bh,d.ag,d.aV,0,cp,0⟩
def yQ (d:aG):aF:={d9 with a8:=1,bh:=d.bh}
def rf (d:aG):aX:=
 bif ltB 0 d.fo then⟨{d with fo:=d.fo-1},[]⟩ else bif eqB d.bp 1 then⟨{d with fo:=3},[yQ d]⟩ else bif eqB d.bp 2&&!d.cq then⟨{d with fo:=3},[xB d]⟩ else⟨d,[]⟩
def dOn (d:aG):aX:=bif eqB d.bp 0 then⟨{d with bp:=1,fo:=3},[yQ d]⟩ else⟨d,[]⟩
def xn (d:aG):aX:=⟨{d with cq:=false,fo:=3},[xB d]⟩
def sK (d:aG) (c:Int):aX:=
 bif eqB c d.bh||!inR c 0 5 then⟨d,[]⟩ else bif eqB d.bp 2&&ltB d.aV 999999 then xn {d with bh:=c,aV:=d.aV+1} else⟨{d with bh:=c},[]⟩
def Gu (d:aG) (m:aF):aX:=
 bif eqB (jS d.dr.eX d.dr.di m.cd) 0 then
  ⟨{d with dr:={d.dr with di:=unm d.dr.eX m.cd.ew m.cd.f4},ag:=m.ag,aZ:=(vec d.dr.eX m.cd.ew (unm d.dr.eX m.cd.ew m.cd.f4)).eX},
   [⟨3,d.bh,m.ag,0,ec d.dr.eX [3,m.cd.ew],cp,0⟩]⟩
 else⟨d,[]⟩
def Ab (d:aG) (m:aF):aX:=
 bif !lH m||(!eqB m.bh d.bh||eqB d.bp 0) then⟨d,[]⟩ else
 bif eqB m.a8 2&&eqB d.bp 1 then Gu d m else
 bif eqB m.a8 4&&(eqB d.bp 1&&(ra d.aZ&&(eqB m.ag d.ag&&tx d.aZ m))) then⟨{d with bp:=2,aV:=m.aV,cq:=true},[]⟩ else
 bif eqB m.a8 6&&(eqB d.bp 2&&(eqB m.ag d.ag&&(eqB m.aV d.aV&&tx d.aZ m))) then⟨{d with cq:=true},[]⟩ else
 bif eqB m.a8 7&&(eqB d.bp 3&&ltB d.aV 999999) then xn {d with bp:=2,aV:=d.aV+1} else
 bif eqB m.a8 7&&eqB d.bp 2 then xn d else⟨d,[]⟩
def dAck (d:aG) (r:aP):aF:=wL d.aZ ⟨8,d.bh,d.ag,d.aV,r.bE,cp,0⟩
def Aa (d:aG) (x:av):aX:=
 let o:=ro d.aZ d.ag d.aV x
 bif eqB d.bp 2&&o.2 then⟨{d with bW:=nN d.bW o.1},[dAck d (nN d.bW o.1)]⟩ else⟨d,[]⟩
def vd (d:aG):aG:=bif eqB d.bp 2 then {d with bp:=3} else d
theorem Jv {d:aG} (h:eg d):tj d=some ⟨d,[]⟩:=by simp[tj,AX h]
theorem Nz (d:aG):vI d=some (xB d):=by simp[vI,CC,xB]
theorem Vb (d:aG):qx d=some (xB d):=by simp[qx,JW,xB]
theorem Zb {d:aG} (h:eg d) {l:List aF} (hl:l.length<=1048576):cO d l=some ⟨d,l⟩:=by simp[cO,M3 h,VU hl]
theorem qW {d:aG} (h:eg d):cO d []=some ⟨d,[]⟩:=Zb h (by simp)
theorem Fs {d:aG} (h:eg d) (m:aF):cO d [m]=some ⟨d,[m]⟩:=Zb h (by simp)
theorem tick_s {d:aG} (h:eg d) (hw:d.fo<=3):uk d=some (rf d):=by
 simp only[uk,AX h,abM,ti,mS,Nz,rf]
 cases hb:ltB 0 d.fo
 .cases eqB d.bp 1<;>cases eqB d.bp 2<;>cases hp:d.cq<;>rfl
 have:=mu hb
 rw[bP oaa];rfl
theorem tick_i {d:aG} (h:eg d) (hw:d.fo<=3):tX d=some (rf d):=by
 have h2:∀w,eg {d with fo:=w}:=λ_=>h
 simp only[tX,qW h,qW (h2 _),Fs (h2 _),mG,Vb,abM,rf]
 cases hb:ltB 0 d.fo
 .cases eqB d.bp 1<;>cases eqB d.bp 2<;>cases hp:d.cq<;>rfl
 have:=mu hb
 rw[bP oaa];rfl
theorem on_s {d:aG} (h:eg d):yw d=some (dOn d):=by
 simp only[yw,Jv h,AX h,abM,ti,mS,dOn]
 cases eqB d.bp 0<;>rfl
theorem on_i {d:aG} (h:eg d):A7 d=some (dOn d):=by
 simp only[A7,qW h,Fs (d:={d with bp:=1,fo:=3}) h,abM,mG,dOn]
 cases eqB d.bp 0<;>rfl
theorem UU {d:aG} (he:0<=d.aV/\d.aV<=999999):yB d=some (xn {d with aV:=d.aV+1}):=by
 simp only[yB,Nz,abM,mS]
 rw[bP oaa];rfl
theorem SY {d:aG} (h:eg d):ig d=some (xn d):=by
 simp only[ig,Vb,abM,Fs (d:={d with cq:=false,fo:=3}) h];rfl
theorem move_s {d:aG} (h:eg d) (he:0<=d.aV/\d.aV<=999999) (c:Int):ue d c=some (sK d c):=by
 simp only[ue,Jv h,AX h,abM,fK,UU (d:={d with bh:=c}) he,sK]
 grind
theorem move_i {d:aG} (h:eg d) (he:0<=d.aV/\d.aV<=999999) (c:Int):tU d c=some (sK d c):=by
 simp only[tU,qW h,qW (d:={d with bh:=c}) h,SY (d:={d with bh:=c,aV:=WR (d.aV+1)}) h,abM,gK,sK,sY]
 rw[bP oaa]
 grind
theorem tok_s (k r last:Int):∃t,rT k r last=some t:=by
 simp only[rT,fK,abM,er (show [5,r,last].length<=100000 by simp),y8 _ (show(1:Int)<=1000 by omega) oaa]
 cases inR last 0 999999<;>exact⟨_,rfl⟩
theorem tok_i (k r last:Int):∃t,rE k r last=some t:=by
 simp only[rE,gK,abM,eo (show [5,r,last].length<=1048576 by simp)]
 cases inR last 0 999999<;>exact⟨_,rfl⟩
theorem ask_s {d:aG} (h:eg d) (hc:uH d.dr=true) (m:aF):zi d m=some (Gu d m):=by
 obtain⟨t,ht⟩:=tok_s d.dr.eX m.cd.ew d.dr.di
 simp only[zi,my,Wj,hc,Qj,Zo,Ql,er (show [3,m.cd.ew].length<=100000 by simp),ht,AX h,Gu,au]
 cases h0:eqB (jS d.dr.eX d.dr.di m.cd) 0
 .grind
 simp[eL]
theorem ask_i {d:aG} (h:eg d) (hc:uH d.dr=true) (m:aF):mb d m=some (Gu d m):=by
 obtain⟨t,ht⟩:=tok_i d.dr.eX m.cd.ew d.dr.di
 have hl: -9000000000000<=d.dr.di/\d.dr.di<=9000000000000:=by
  simp only[uH,hV,bQ] at hc;omega
 simp only[mb,mt,Wi,hc,Qi hl,Zn,Zp,eo (show [3,m.cd.ew].length<=1048576 by simp),ht,Gu,au]
 cases h0:eqB (jS d.dr.eX d.dr.di m.cd) 0
 .cases h2:eqB (jS d.dr.eX d.dr.di m.cd) 2<;>cases h3:eqB (jS d.dr.eX d.dr.di m.cd) 3<;>simp[h0,qW h]
 simp only[h0,au]
 rw[Fs (d:={d with dr:={d.dr with di:=unm d.dr.eX m.cd.ew m.cd.f4},ag:=m.ag,aZ:=(vec d.dr.eX m.cd.ew (unm d.dr.eX m.cd.ew m.cd.f4)).eX}) h]
 rfl
theorem sig_s {d:aG} (h:eg d) (hc:uH d.dr=true) (he:0<=d.aV/\d.aV<=999999) (m:aF):oV d m=some (Ab d m):=by
 simp only[oV,PA,Jv h,AX h,ask_s h hc,Lf,J7,UU (d:={d with bp:=2}) he,Nz,mS,abM,Ab]
 cases lH m<;>cases eqB m.bh d.bh<;>cases eqB d.bp 0<;>try rfl
 simp only[ab0,au]
 cases eqB m.a8 2<;>cases eqB d.bp 1<;>try rfl
 all_goals cases eqB m.a8 4<;>cases ra d.aZ<;>cases eqB m.ag d.ag<;>cases tx d.aZ m<;>cases eqB m.a8 6<;>cases eqB d.bp 2<;>cases eqB m.aV d.aV<;>cases eqB m.a8 7<;>cases eqB d.bp 3<;>cases ltB d.aV 999999<;>rfl
theorem Ca {a c:Int} (h:eqB a b=true) (hn:b≠c):eqB a c=false:=by simp_all
theorem sig_i {d:aG} (h:eg d) (hc:uH d.dr=true) (he:0<=d.aV/\d.aV<=999999) (m:aF):oh d m=some (Ab d m):=by
 have a1:ig d=some (xn d):=SY h
 have a2:ig {d with bp:=2,aV:=WR (d.aV+1)}=some (xn {d with bp:=2,aV:=d.aV+1}):=by rw[bP oaa];exact SY (d:={d with bp:=2,aV:=d.aV+1}) h
 have a3:cO {d with bp:=2,aV:=m.aV,cq:=true} []=some ⟨{d with bp:=2,aV:=m.aV,cq:=true},[]⟩:=qW (d:={d with bp:=2,aV:=m.aV,cq:=true}) h
 have a4:∀b,cO {d with cq:=b} []=some ⟨{d with cq:=b},[]⟩:=λb=>qW (d:={d with cq:=b}) h
 simp only[oh,Pz,ask_i h hc,Le,Gl,a1,a2,a4,qW h,abM,Ab]
 cases lH m<;>cases eqB m.bh d.bh<;>cases eqB d.bp 0<;>try rfl
 simp only[ab0,au]
 cases h2:eqB m.a8 2
 .cases h4:eqB m.a8 4
  .cases h6:eqB m.a8 6
   .cases h7:eqB m.a8 7
    .rfl
    cases eqB d.bp 3<;>cases ltB d.aV 999999<;>cases eqB d.bp 2<;>rfl
   rw[Ca h6 (show(6:Int)≠7 by omega)]
   cases eqB d.bp 2<;>cases eqB m.ag d.ag<;>cases eqB m.aV d.aV<;>cases tx d.aZ m<;>rfl
  rw[Ca h4 (show(4:Int)≠6 by omega),Ca h4 (show(4:Int)≠7 by omega)]
  cases eqB d.bp 1<;>cases ra d.aZ<;>cases eqB m.ag d.ag<;>cases tx d.aZ m<;>first|(simp only[a3,qW h,abQ,abW,acx,acy,au];done)|(simp[a3,qW h];done)
 rw[Ca h2 (show(2:Int)≠4 by omega),Ca h2 (show(2:Int)≠6 by omega),Ca h2 (show(2:Int)≠7 by omega)]
 cases eqB d.bp 1<;>rfl
def Py (x:av):Prop:=okB x.bz.a9
theorem rad_s {d:aG} (h:eg d) {x:av} (hx:Py x):p8 d x=some (Aa d x):=by
 simp only[p8,(HI hx _ _ _).2,Jv h,AX h,take_s h,CC,abM,Aa]
 cases eqB d.bp 2<;>cases(ro d.aZ d.ag d.aV x).2<;>rfl
theorem Mi (h:fa r) (x:ae):fa (nN r x):=by
 rw[nN]
 cases hlt:yc r x
 .simp only[yc,aam,abU] at hlt
  obtain⟨l1,l2,l3,l4,l5⟩:=hlt
  have hv:=sx l1
  have l2:=qz l2
  have hi:okL fY (qw x r.aK):=by
   refine⟨by rw[xW];omega,λy hy=>?_⟩
   simp only[qw,aae,abg] at hy
   rcases hy with(hy|hy)|hy
   .exact h.1.2 y (acq _ hy)
   .subst hy;exact⟨by omega,λ_ _=>trivial⟩
   exact h.1.2 y (ace _ hy)
  have hd:∀(xs:List ae) (n:Int) (dl:List bJ),okL fY xs->(∀p∈dl,s4 p)->dl.length<=24->fa (sL xs n dl):=by
   intro xs
   induction xs with
   |nil=>exact λn dl h1 h2 h3=>⟨h1,by show dl.length<=1048576;omega,h2⟩
   |cons y ys ih=>
    intro n dl h1 h2 h3
    rw[sL];split
    .exact ih _ _ ⟨by have:=h1.1;grind,λz hz=>h1.2 z (by simp[hz])⟩ (λp hp=>by
      rcases aae.1 hp with hp|hp
      .exact h2 p hp
      simp at hp;subst hp;exact h1.2 y (by simp)) (by simp;omega)
    exact⟨h1,by grind,h2⟩
  have:=hd _ r.bE r.be hi h.2.2 oaa
  simp only[cond_false]
  cases leB 24 (((sL (qw x r.aK) r.bE r.be).be.length:Nat):Int)
  .exact this
  exact⟨⟨by simp,by simp⟩,this.2⟩
 exact h
theorem rad_i {d:aG} (h:eg d) {x:av} (hx:Py x):pW d x=some (Aa d x):=by
 simp only[pW,(HI hx _ _ _).1,qW h,take_i h,JW,abM,Aa]
 cases eqB d.bp 2
 .rfl
 cases(ro d.aZ d.ag d.aV x).2
 .rfl
 simp only[abQ,au]
 rw[Fs (d:={d with bW:=nN d.bW (ro d.aZ d.ag d.aV x).1}) (Mi h _)]
 rfl
theorem Z0 {d:aG} (h:eg d):wx d=some (vd d):=by
 simp only[wx,AX h,abM,vd];cases eqB d.bp 2<;>rfl
theorem ZZ {d:aG} (h:eg d):wc d=some (vd d):=by
 have a:∀v,lB {d with bp:=v}=some {d with bp:=v}:=λv=>M3 (d:={d with bp:=v}) h
 simp only[wc,a,abM,vd];cases eqB d.bp 2<;>rfl
theorem O4 {α:Type} (p:α->Bool) (x:α) (d:List α) (hx:p x=true):∀(t:List α) (i:Nat),(∀y∈t,p y=false)->oB p (i:Int) (t++x::d)=((i+t.length:Nat):Int)
 |[],i,_=>by simp[oB,hx]
 |y::t,i,h=>by
  rw[aav,oB,h y (by simp),cond_false]
  have:=O4 p x d hx t (i+1) (λz hz=>h z (by simp[hz]))
  grind
theorem O5 {α:Type} (p:α->Bool):∀(t:List α) (i:Int),(∀y∈t,p y=false)->oB p i t= -1
 |[],i,_=>rfl
 |y::t,i,h=>by rw[oB,h y (by simp),cond_false];exact O5 p t _ λz hz=>h z (by simp[hz])
def Io:List aD->Int->Int->List aD
 |[],i,n=>[⟨i,n⟩]
 |x::xs,i,n=>if x.aJ<i then x::Io xs i n else if x.aJ=i then⟨i,x.dW+n⟩::xs else⟨i,n⟩::x::xs
def QE:List aD->Int->Int->List aD
 |[],i,n=>[]
 |x::xs,i,n=>if x.aJ=i then(if n<x.dW then⟨i,x.dW-n⟩::xs else xs) else x::QE xs i n
def wW (h:List aD):Int:=(h.map aD.dW).sum
structure qf (a:aj):Prop where
 t:0<=a.gU/\a.gU<=100000
 v:0<=a.bY/\a.bY<=a.gU
 s:0<=a.ey/\a.ey<=a.gU
 l:a.an.length<=8
 r:∀x∈a.an,0<=x.aJ/\1<=x.dW/\x.dW<=100000
 o:a.an.Pairwise λx y=>x.aJ<y.aJ
 e:a.bY+a.ey+wW a.an=a.gU
theorem HM {α:Type} {key:α->Int}:∀{xs:List α},(∀(k:Nat) (x y:α),xs[k]?=some x->xs[k+1]?=some y->key x<key y)->xs.Pairwise λx y=>key x<key y
 |[],_=>.nil
 |[x],_=>by simp
 |x::y::xs,h=>by
  have ih:=HM (xs:=y::xs) (key:=key) λk a b h1 h2=>h (k+1) a b (by simp_all) (by simp_all)
  have hxy:=h 0 x y rfl rfl
  refine List.Pairwise.cons (λz hz=>?_) ih
  rcases aaf.1 hz with e|hz
  .simp_all
  exact Int.lt_trans hxy (acp ih hz)
theorem Hf {key:α->Int} {xs:List α} (h:∀(k:Nat) (x:α),xs[k]?=some x->jN key xs k x=true):xs.Pairwise λx y=>key x<key y:=by
 refine HM λk x y h1 h2=>?_
 have:=h (k+1) y h2
 simp only[jN,h1,aaw] at this
 simp_all
theorem DF {key:α->Int} {xs:List α} (h:xs.Pairwise λx y=>key x<key y) {x:α} (hx:xs[k]?=some x):jN key xs k x=true:=by
 cases k with
 |zero=>rfl
 |succ k=>
  have hl:=(aaa.1 hx).1
  simp only[jN,v0 (show k<xs.length by omega),aaw]
  rw[leB_f]
  have:=List.pairwise_iff_getElem.1 h k (k+1) oaa hl oaa
  simp_all
theorem Y0:∀(h:List aD) (s:Int),(∀x∈h,0<=x.dW/\x.dW<=100000)->0<=s->s+100000*h.length<=9000000000000->h.foldl (λs x=>WR (s+x.dW)) s=s+wW h
 |[],s,_,_,_=>by simp[wW]
 |x::h,s,hx,h0,h1=>by
  have hh:=hx x (by simp)
  simp only[aak] at h1
  rw[ab8,bP oaa,Y0 h _ (λy hy=>hx y (by simp[hy])) oaa oaa]
  simp[wW];omega
theorem Qe (l:a.an.length<=8) (r:∀x∈a.an,0<=x.aJ/\1<=x.dW/\x.dW<=100000):Sb a=wW a.an:=by
 rw[Sb,Y0 _ _ (λx hx=>by grind) oaa oaa];omega
theorem uE:∀{h:List aD},(∀x∈h,0<=x.aJ/\1<=x.dW/\x.dW<=100000)->0<=wW h/\wW h<=100000*h.length/\∀x∈h,x.dW<=wW h
 |[],_=>by simp[wW]
 |x::h,r=>by
  have ih:=uE (h:=h) λy hy=>r y (by simp[hy])
  have hx:=r x (by simp)
  have e:wW (x::h)=x.dW+wW h:=by simp[wW]
  grind
theorem yL:jM a=true↔qf a:=by
 constructor
 .intro h
  simp only[jM,hV,bQ,ez] at h
  obtain⟨h1,h2,h3,h4,h5,h6⟩:=h
  have h4:=zu h4
  have r:∀x∈a.an,0<=x.aJ/\1<=x.dW/\x.dW<=100000:=λx hx=>by
   obtain⟨k,hk⟩:=aal hx
   have:=h5 k x hk
   simp only[GU,hV,aaw,bQ] at this
   simp_all
  have hs:=uE r
  refine⟨h1,h2,h3,by omega,r,Hf λk x hk=>?_,?_⟩
  .have:=h5 k x hk
   simp only[GU,hV] at this
   simp_all
  have h6:=qi h6
  rw[Qe oaa r,bP (n:=a.bY+a.ey) oaa,bP oaa] at h6
  exact h6
 rintro⟨h1,h2,h3,h4,r,h5,h6⟩
 have hs:=uE r
 simp only[jM,hV,bQ,ez]
 refine⟨h1,h2,h3,leB_t.2 oaa,λk x hk=>?_,eqB_t.2 ?_⟩
 .have hx:=r x (aab hk)
  simp only[GU,hV,aaw,bQ]
  exact⟨ltB_f.2 oaa,by omega,DF h5 hk⟩
 rw[Qe oaa r,bP (n:=a.bY+a.ey) oaa,bP oaa]
 exact h6
theorem qf.ok (h:qf a):hU a:=⟨by have:=h.l;omega,λ_ _=>trivial⟩
theorem KN {h:List aD} (o:h.Pairwise λx y=>x.aJ<y.aJ) (i:Int):
 (∃t m d,h=t++⟨i,m⟩::d/\(∀x∈t,x.aJ<i)/\∀x∈d,i<x.aJ)\/(∃t d,h=t++d/\(∀x∈t,x.aJ<i)/\∀x∈d,i<x.aJ):=by
 induction h with
 |nil=>exact .inr ⟨[],[],rfl,by simp,by simp⟩
 |cons x h ih=>
  have hx:=λy hy=>acp o (a':=y) hy
  by_cases h1:x.aJ<i
  .grind
  by_cases h2:x.aJ=i
  .exact .inl ⟨[],x.dW,h,by rw[<-h2];rfl,by simp,λy hy=>by simp_all⟩
  refine .inr ⟨[],x::h,rfl,by simp,λy hy=>?_⟩
  grind
theorem Ip {d:List aD} {m n:Int} (h:∀x∈t,x.aJ<i):Io (t++⟨i,m⟩::d) i n=t++⟨i,m+n⟩::d:=by
 induction t with
 |nil=>simp[Io]
 |cons x t ih=>rw[aav,Io,if_pos (h x (by simp)),ih λy hy=>h y (by simp[hy])];rfl
theorem Iq {d:List aD} {n:Int} (h:∀x∈t,x.aJ<i) (h2:∀x∈d,i<x.aJ):Io (t++d) i n=t++⟨i,n⟩::d:=by
 induction t with
 |nil=>cases d with
  |nil=>rfl
  |cons y d=>have:=h2 y (by simp);rw[abb,Io,if_neg oaa,if_neg oaa];rfl
 |cons x t ih=>rw[aav,Io,if_pos (h x (by simp)),ih λy hy=>h y (by simp[hy])];rfl
theorem IA {d:List aD} {m n:Int} (h:∀x∈t,x.aJ<i):QE (t++⟨i,m⟩::d) i n=t++(if n<m then⟨i,m-n⟩::d else d):=by
 induction t with
 |nil=>simp[QE]
 |cons x t ih=>rw[aav,QE,if_neg (by grind),ih λy hy=>h y (by simp[hy])];rfl
theorem nH {d:List aD} {m:Int} (e:a.an=t++⟨i,m⟩::d) (h:∀x∈t,x.aJ<i):iJ a i=m:=by
 rw[iJ,e,List.find?_append,show t.find? (λx=>eqB x.aJ i)=none from by rw[List.find?_eq_none];intro x hx;have:=h x hx;simp[eqB];omega]
 simp[eqB]
theorem sr (h:∀x∈a.an,x.aJ≠i):iJ a i=0:=by
 rw[iJ,show a.an.find? (λx=>eqB x.aJ i)=none from by simp_all]
theorem We {d:List aD} (h:∀x∈t,x.aJ<i) (h2:∀x∈d,i<=x.aJ):((t++d).takeWhile λx=>ltB x.aJ i)=t:=by
 rw[List.takeWhile_append_of_pos (λx hx=>ltB_t.2 (h x hx))]
 cases d with
 |nil=>simp
 |cons y d=>simp_all
theorem DB {L:Int->Option (cr Int Int)} (ok:qf a) (hL:∀v1,L v1=bif ltB v1 (a.an.length:Int) then(abJ (ix a.an v1) λx2=>bif eqB x2.aJ i then(dn (some v1)) else(some (.next (WR (v1+1))))) else(dn (some (-1)))):
 iter L FU 0=some (oB (λx=>eqB x.aJ i) 0 a.an):=by
 have:=ok.l
 exact vf (L:=L) a.an (λx=>eqB x.aJ i) oaa (λk x hx hk=>by
  simp only[hL,cA hk,bu,hx,WRs (k:=k),au]
  rfl) (by simp[hL,dn])
theorem NY (ok:qf a) {n:Int} (h0:0<=n/\n<=100000):DJ a.an i n=some (Io a.an i n):=by
 have hl:=ok.l
 have hrun:=wZ (L:=wM a.an i) a.an (λx=>ltB x.aJ i) oaa (λk x hx=>by
  have hk:=(aaa.1 hx).1
  simp[wM,cA hk,hx]) (by simp[wM])
 rw[DJ,hrun]
 rcases KN ok.o i with⟨t,m,d,e,h1,h2⟩|⟨t,d,e,h1,h2⟩
 .have hm:m<=100000/\1<=m:=by have:=ok.r ⟨i,m⟩ (by rw[e];simp);simp only at this;omega
  have htl:t.length+1<=8:=by have:=congrArg ab5 e;simp at this;omega
  rw[e,We h1 (λx hx=>by grind),Ip h1]
  have hx:(t++(⟨i,m⟩:aD)::d)[t.length]?=some ⟨i,m⟩:=by simp
  have a1:da 16 (t++(⟨i,m⟩:aD)::d).length=true:=cz oaa (by grind)
  simp only[cA (show t.length<(t++(⟨i,m⟩:aD)::d).length by simp),bu,hx,abb,a1,bX,abN,bP (n:=m+n) oaa,au]
  simp
 have htl:t.length<=8/\d.length<=8:=by have:=congrArg ab5 e;simp at this;omega
 rw[e,We h1 (λx hx=>by grind),Iq h1 h2]
 have hc:(bif ltB (t.length:Int) (((t++d).length:Nat):Int) then(abJ (ix (t++d) (t.length:Int)) λx8=>some (eqB x8.aJ i)) else some false)=some false:=by
  cases d with
  |nil=>simp
  |cons y d=>
   have:=h2 y (by simp)
   rw[cA (show t.length<(t++y::d).length by simp),bu,show(t++y::d)[t.length]?=some y by simp,abM,eqB_f.2 (show y.aJ≠i by omega)];rfl
 have a1:eF (t++d) 0 (t.length:Int)=true:=by simp[eF];omega
 have a2:eF (t++d) (t.length:Int) (((t++d).length:Nat):Int)=true:=by simp[eF];omega
 have a3:da 16 t.length=true:=cz oaa oaa
 have a4:da 16 (t++[(⟨i,n⟩:aD)]).length=true:=cz oaa (by simp;omega)
 have a5:da 16 (t++[(⟨i,n⟩:aD)]++d).length=true:=cz oaa (by simp;omega)
 simp_all
theorem IW {d:List aD} {m:Int} (h1:∀x∈t,x.aJ<i):oB (λx=>eqB x.aJ i) 0 (t++(⟨i,m⟩:aD)::d)=(t.length:Int):=by
 have:=O4 (λx:aD=>eqB x.aJ i) ⟨i,m⟩ d (by simp) t 0 (λy hy=>eqB_f.2 (by grind))
 simp_all
theorem Nn {d:List aD} (h1:∀x∈t,x.aJ<i) (h2:∀x∈d,i<x.aJ):oB (λx=>eqB x.aJ i) 0 (t++d)= -1:=
 O5 _ _ _ λy hy=>eqB_f.2 (by grind)
theorem NZ (ok:qf a) {d:List aD} {m n:Int} (e:a.an=t++⟨i,m⟩::d) (h1:∀x∈t,x.aJ<i) (hn:0<=n/\n<=m):DL a.an (t.length:Int) n=some (QE a.an i n):=by
 have hl:=ok.l
 have hm:m<=100000/\1<=m:=by have:=ok.r ⟨i,m⟩ (by rw[e];simp);simp only at this;omega
 have htl:t.length+1+d.length<=8:=by have:=congrArg ab5 e;simp at this;omega
 rw[e,IA h1]
 have hx:(t++(⟨i,m⟩:aD)::d)[t.length]?=some ⟨i,m⟩:=by simp
 have a1:da 16 (t++(⟨i,m⟩:aD)::d).length=true:=cz oaa (by grind)
 simp only[DL,abb,a1,bu,hx,abN,au]
 by_cases hb:n<m
 .rw[ltB_t.2 hb,if_pos hb]
  simp only[cond_true,bP (n:=m-n) oaa]
  simp
 rw[ltB_f.2 oaa,if_neg hb]
 have a2:eF (t++(⟨i,m⟩:aD)::d) 0 (t.length:Int)=true:=by simp[eF];omega
 have a3:eF (t++(⟨i,m⟩:aD)::d) ((t.length+1:Nat):Int) (((t++(⟨i,m⟩:aD)::d).length:Nat):Int)=true:=by simp[eF];omega
 have e2:(t++(⟨i,m⟩:aD)::d).drop (t.length+1)=d:=by rw[<-aaK,acj];rfl
 have a4:da 16 (t++d).length=true:=cz oaa (by simp;omega)
 simp only[a2,WRs (k:=t.length),a3,abN,e2,acm,a4,au]
theorem Ui {d:List aD} {x:aD} (e:a.an=t++x::d) (hl:t.length+1+d.length<=8):mc a (t.length:Int)=some {a with an:=t++d}:=by
 have a2:eF (t++x::d) 0 (t.length:Int)=true:=by simp[eF];omega
 have a3:eF (t++x::d) ((t.length+1:Nat):Int) (((t++x::d).length:Nat):Int)=true:=by simp[eF];omega
 have e2:(t++x::d).drop (t.length+1)=d:=by rw[<-aaK,acj];rfl
 have a4:da 16 (t++d).length=true:=cz oaa (by simp;omega)
 have a5:da 16 t.length=true:=cz oaa oaa
 simp only[mc,e,a2,WRs (k:=t.length),a3,cond_true,abN,e2,acm,abb,a4,a5]
def full (a:aj) (i:Int):Bool:=leB 8 (a.an.length:Int)&&!a.an.any λx=>eqB x.aJ i
def kw (x y:Int):Int:=if y<x then y else x
def iY (a:aj) (i n:Int):aj×Int:=
 bif ltB i 0||(!inR n 1 100000||(eqB a.bY 0||full a i)) then(a,0) else({a with bY:=a.bY-kw n a.bY,an:=Io a.an i (kw n a.bY)},kw n a.bY)
def xD (a:aj) (i n:Int):aj:=bif ltB 0 n then {a with ey:=a.ey+n,an:=QE a.an i n} else a
theorem Lr (x y:Int):FD x y=some (kw x y):=by
 rw[FD,kw];by_cases h:y<x
 .rw[ltB_t.2 h,if_pos h];rfl
 rw[ltB_f.2 oaa,if_neg h];rfl
theorem Pm (x y:Int):Nf x y=some (kw x y):=Lr x y
def Cm (x y:Int):Int:=if x<y then y else x
theorem Lq (x y:Int):FB x y=some (Cm x y):=by
 rw[FB,Cm];by_cases h:x<y
 .rw[ltB_t.2 h,if_pos h];rfl
 rw[ltB_f.2 oaa,if_neg h];rfl
theorem UF (x y:Int):Ue x y=some (Cm x y):=Lq x y
theorem YR {d:List aD} {m:Int}:((t++(⟨i,m⟩:aD)::d).any λx=>eqB x.aJ i)=true:=by simp
theorem SZ {d:List aD} (h1:∀x∈t,x.aJ<i) (h2:∀x∈d,i<x.aJ):((t++d).any λx=>eqB x.aJ i)=false:=by
 rw[abA];intro y hy
 rcases aae.1 hy with hy|hy
 .have:=h1 y hy;simp[eqB];omega
 have:=h2 y hy;simp[eqB];omega
theorem Rw (ok:qf a) (i n:Int):Bz a i n=some (iY a i n):=by
 have hv:=yL.2 ok
 have hd:=ok.v
 have ht:=ok.t
 have hfind:qI a i=some (oB (λx=>eqB x.aJ i) 0 a.an):=DB ok λv=>rfl
 have hf:(bif leB 8 (a.an.length:Int) then(abJ (qI a i) λr5=>some (ltB r5 0)) else some false)=some (full a i):=by
  rw[hfind,full]
  cases leB 8 (a.an.length:Int)
  .rfl
  rcases KN ok.o i with⟨t,m,d,e,h1,h2⟩|⟨t,d,e,h1,h2⟩
  .rw[e,IW h1,YR];simp[ltB]
  rw[e,Nn h1 h2,SZ h1 h2];simp[ltB]
 simp only[Bz,D2 ok.ok,yN ok.ok,hv,hf,fK,Lr,iY,au]
 cases h1:ltB i 0<;>cases h2:inR n 1 100000<;>cases h3:eqB a.bY 0<;>cases h4:full a i<;>try rfl
 rw[bQ] at h2
 have h3:=M8 h3
 have hmin:1<=kw n a.bY/\kw n a.bY<=100000/\kw n a.bY<=a.bY:=by unfold kw;split<;>omega
 simp only[NY ok (show 0<=kw n a.bY/\kw n a.bY<=100000 by omega),bP (n:=a.bY-kw n a.bY) oaa,ab0,au]
theorem Rv (ok:qf a) (i n:Int):A8 a i n=some (iY a i n):=by
 have hv:=yL.2 ok
 have hd:=ok.v
 have ht:=ok.t
 have hl:=ok.l
 have hfind:fU a i=some (oB (λx=>eqB x.aJ i) 0 a.an):=DB ok λv=>rfl
 simp only[A8,BX ok.ok,yM ok.ok,hv,hfind,gK,Pm,iY,au]
 cases h1:ltB i 0<;>cases h2:inR n 1 100000<;>cases h3:eqB a.bY 0<;>try rfl
 rw[bQ] at h2
 have h3:=M8 h3
 have hmin:1<=kw n a.bY/\kw n a.bY<=100000/\kw n a.bY<=a.bY:=by unfold kw;split<;>omega
 simp only[bP (n:=a.bY-kw n a.bY) oaa,aaC,au]
 rcases KN ok.o i with⟨t,m,d,e,k1,k2⟩|⟨t,d,e,k1,k2⟩
 .have hm:m<=100000/\1<=m:=by have:=ok.r ⟨i,m⟩ (by rw[e];simp);simp only at this;omega
  rw[full,e,IW k1,YR,Ip k1,show leB 0 (t.length:Int)=true from leB_t.2 oaa]
  have hx:(t++(⟨i,m⟩:aD)::d)[t.length]?=some ⟨i,m⟩:=by simp
  simp only[bu,hx,abN,bP (n:=m+kw n a.bY) oaa,acx,au]
  simp
 have htl:t.length+d.length<=8:=by have:=congrArg ab5 e;simp at this;omega
 rw[full,e,Nn k1 k2,SZ k1 k2,Iq k1 k2,show leB 0 (-1)=false from by simp[leB]]
 cases h4:leB 8 (((t++d).length:Nat):Int)
 .have hlt:(t++d).length<8:=by have:=yd h4;omega
  have hrun:=wZ (L:=tV i a) a.an (λx=>ltB x.aJ i) oaa (λk x hx=>by
   have hk:=(aaa.1 hx).1
   simp[tV,cA hk,hx]) (by simp[tV])
  rw[e,We k1 (λx hx=>by grind)] at hrun
  have hs:=O8 t d db (⟨i,kw n a.bY⟩:aD)
  have b1:da 16 (t++d++[db]).length=true:=cz oaa (by grind)
  have b2:eF (t++d++[db]) ((t.length+1:Nat):Int) (((t++d++[db]).length:Nat):Int)=true:=by simp[eF];omega
  have b3:eF (t++d++[db]) (t.length:Int) (((t++d++[db]).length:Nat):Int)=true:=by simp[eF];omega
  obtain⟨y,_,hy⟩:=Ut (xs:=cpD (t++d++[db]) (t.length+1) ((t++d++[db]).drop t.length)) (i:=(t.length:Int)) oaa (by simp;omega)
  simp only[hrun,WRs (k:=t.length),abN,b1,b2,b3,hy,hs,acy,au]
  simp
 rfl
theorem Cr (ok:qf a) (i:Int):0<=iJ a i/\iJ a i<=100000:=by
 rcases KN ok.o i with⟨t,m,d,e,h1,h2⟩|⟨t,d,e,h1,h2⟩
 .rw[nH e h1];have:=ok.r ⟨i,m⟩ (by rw[e];simp);grind
 rw[sr (λx hx=>by grind)];omega
theorem Xc (ok:qf a) {n:Int} (hn:0<=n/\n<=iJ a i):JK a i n=some (xD a i n,true):=by
 have hv:=yL.2 ok
 have ht:=ok.t
 have hs:=ok.s
 have hr:=Cr ok i
 have hfind:qI a i=some (oB (λx=>eqB x.aJ i) 0 a.an):=DB ok λv=>rfl
 have hin:inR n 0 (iJ a i)=true:=bQ.2 hn
 simp only[JK,D2 ok.ok,yN ok.ok,hv,hfind,LQ ok.ok,fK,hin,xD,au]
 cases h0:ltB 0 n
 .rfl
 have h0:=mu h0
 rcases KN ok.o i with⟨t,m,d,e,h1,h2⟩|⟨t,d,e,h1,h2⟩
 .rw[nH e h1] at hn hr
  have hc:=NZ ok e h1 hn
  rw[show oB (λx=>eqB x.aJ i) 0 a.an=(t.length:Int) by rw[e];exact IW h1]
  simp only[hc,bP (n:=a.ey+n) oaa,au]
 rw[sr (λx hx=>by grind)] at hn
 omega
theorem Xb (ok:qf a) {n:Int} (hn:0<=n/\n<=iJ a i):IR a i n=some (xD a i n,true):=by
 have hv:=yL.2 ok
 have ht:=ok.t
 have hs:=ok.s
 have hl:=ok.l
 have hr:=Cr ok i
 have hfind:fU a i=some (oB (λx=>eqB x.aJ i) 0 a.an):=DB ok λv=>rfl
 have hin:inR n 0 (iJ a i)=true:=bQ.2 hn
 simp only[IR,BX ok.ok,yM ok.ok,hv,hfind,LP ok.ok,gK,hin,xD,au]
 rcases KN ok.o i with⟨t,m,d,e,h1,h2⟩|⟨t,d,e,h1,h2⟩
 .rw[nH e h1] at hn
  have hm:m<=100000/\1<=m:=by have:=ok.r ⟨i,m⟩ (by rw[e];simp);simp only at this;omega
  have htl:t.length+1+d.length<=8:=by have:=congrArg ab5 e;simp at this;omega
  have hx:(t++(⟨i,m⟩:aD)::d)[t.length]?=some ⟨i,m⟩:=by simp
  have hset:∀z:aD,(t++(⟨i,m⟩:aD)::d).set t.length z=t++z::d:=λz=>by simp
  have hx2:∀z:aD,(t++z::d)[t.length]?=some z:=λz=>by simp
  rw[e,IW h1,show ltB (t.length:Int) 0=false from ltB_f.2 oaa,IA h1]
  simp only[bu,hx,hset,hx2,abN,bP (n:=m-n) oaa,bP (n:=a.ey+n) oaa,au]
  cases h0:ltB 0 n
  .have h0:=qz h0
   have hn0:n=0:=by omega
   subst hn0
   rw[show m-0=m by omega,eqB_f.2 (show m≠0 by omega),show a.ey+0=a.ey by omega]
   simp only[<-e,au]
  have h0:=mu h0
  by_cases hb:n<m
  .rw[if_pos hb,eqB_f.2 (show m-n≠0 by omega)];rfl
  rw[if_neg hb,eqB_t.2 (show m-n=0 by omega)]
  simp only[Ui (a:={a with ey:=a.ey+n,an:=t++(⟨i,m-n⟩:aD)::d}) rfl htl,au]
 have h0:n=0:=by
  rw[sr (λx hx=>by grind)] at hn
  omega
 subst h0
 rw[e,Nn h1 h2]
 simp[ltB]
structure WOK (w:aY):Prop where
 n:1<=w.bE/\w.bE<=100000
 l:w.aC.length<=8
 f:1<=w.bE-w.aC.length
 u:∀(k:Nat) (x:ae),w.aC[k]?=some x->x.cW=w.bE-w.aC.length+k/\x.a9.length<=60
theorem WOK.ok (h:WOK w):ji w:=⟨by have:=h.l;omega,λx hx=>by
 obtain⟨k,hk⟩:=aal hx
 exact⟨by have:=(h.u k x hk).2;omega,λ_ _=>trivial⟩⟩
theorem tL {n:Nat}:xo n=true↔n<=60:=by simp[xo,ltB];omega
theorem DT:kj w=true↔WOK w:=by
 constructor
 .intro h
  simp only[kj,hV,bQ,ez,unB,tL] at h
  obtain⟨h1,h2,h3,h4⟩:=h
  have h2:=zu h2
  have h3:=zu h3
  rw[bP oaa] at h3
  refine⟨h1,by omega,h3,λk x hx=>?_⟩
  have hk:=(aaa.1 hx).1
  have:=h4 k x hx
  have e:=qi this.1
  rw[bP (n:=w.bE-(w.aC.length:Int)) oaa,bP oaa] at e
  omega
 rintro⟨h1,h2,h3,h4⟩
 simp only[kj,hV,bQ,ez,unB,tL]
 refine⟨h1,leB_t.2 oaa,leB_t.2 (by rw[bP oaa];omega),λk x hx=>?_⟩
 have hk:=(aaa.1 hx).1
 have:=h4 k x hx
 exact⟨eqB_t.2 (by rw[bP (n:=w.bE-(w.aC.length:Int)) oaa,bP oaa];exact this.1),this.2⟩
def f6 (xs:List ae):Int:=(xs.map λx=>(x.a9.length:Int)).sum
theorem wV:∀{xs:List ae},(∀x∈xs,x.a9.length<=60)->0<=f6 xs/\f6 xs<=60*xs.length
 |[],_=>by simp[f6]
 |x::xs,h=>by
  have ih:=wV (xs:=xs) λy hy=>h y (by simp[hy])
  have:=h x (by simp)
  have e:f6 (x::xs)=x.a9.length+f6 xs:=by simp[f6]
  grind
theorem HF {xs:List ae} (h:∀x∈xs,x.a9.length<=60) (hl:xs.length<=1000):yf xs=f6 xs:=by
 have key:∀(xs:List ae) (s:Int),(∀x∈xs,x.a9.length<=60)->0<=s->s+60*xs.length<=9000000000->xs.foldl (λa x=>WR (a+(x.a9.length:Int))) s=s+f6 xs:=by
  intro xs
  induction xs with
  |nil=>intro s _ _ _;simp[f6]
  |cons x xs ih=>
   intro s h h0 h1
   have hx:=h x (by simp)
   simp only[aak] at h1
   rw[ab8,bP oaa,ih _ (λy hy=>h y (by simp[hy])) oaa oaa]
   simp[f6];omega
 have:=key xs 0 h oaa oaa
 rw[yf,this];omega
theorem WOK.d (h:WOK w):∀x∈w.aC,x.a9.length<=60:=λx hx=>by
 obtain⟨k,hk⟩:=aal hx;exact(h.u k x hk).2
structure QOK (q:cP):Prop where
 i:0<=q.aJ
 u:0<=q.em
 g:q.em<=q.cV
 m:q.cV<=100000
theorem Fm:lT q=true↔QOK q:=by
 simp only[lT,hV,leB_t]
 exact⟨λ⟨a,b,c,d⟩=>⟨a,b,c,d⟩,λ⟨a,b,c,d⟩=>⟨a,b,c,d⟩⟩
theorem DH (h:QOK q):LN q=q.cV-q.em:=by
 rw[LN,Fm.2 h];obtain⟨a,b,c,d⟩:=h
 simp only[cond_true];rw[bP oaa]
structure SP (s:ah):Prop where
 ok:d4 s
 rcd:tE s.bF=true
 plan:qK s.gT=true
 page:ki s.ga=true
 win:WOK s.ax
 q:QOK s.b9
 st:0<=s.bp/\s.bp<=1
 k1:s.bp=1->ra s.aZ=true
 k2:0<s.bI->ra s.aK.eX=true
 ps:0<=s.bI/\s.bI<=999999
 gn:0<=s.ag/\s.ag<=999999
 ep:0<=s.aV/\s.aV<=999999
 rk:0<=s.aZ/\s.aZ<=2147483646
 ce:0<=s.bh/\s.bh<=5
 qu:0<=s.dT/\s.dT<=5
 rt:0<=s.dP/\s.dP<=3
 sl:s.aH.length<=24
 sd:∀p∈s.aH,p.a9.length<=60
 nx:s.ax.bE<=s.aH.length+1
 un:∀x∈s.ax.aC,CG s x=true
 pd:f6 s.ax.aC<=s.b9.cV-s.b9.em
theorem vC (ok:d4 s):ja s=true↔SP s:=by
 constructor
 .intro h
  simp only[ja,hV,bQ,DT,Fm,aag,BS,tL,uc,E5] at h
  obtain⟨h1,h2,h3,h4,h5,h6,⟨h7,h8⟩,h9,h10,h11,h12,h13,h14,h15,h16,h17,h18,h19,h20⟩:=h
  have h16:=zu h16
  have h18:=zu h18
  have h20:=zu h20
  rw[bP oaa] at h18
  rw[DH h5,HF h4.d (by have:=h4.l;omega)] at h20
  refine⟨ok,h1,h2,h3,h4,h5,h6,λe=>?_,λe=>?_,h9,h10,h11,h12,h13,h14,h15,by omega,h17,h18,h19,h20⟩
  .simp_all
  rw[ltB_t.2 e] at h8;simp_all
 rintro⟨_,h1,h2,h3,h4,h5,h6,h7,h8,h9,h10,h11,h12,h13,h14,h15,h16,h17,h18,h19,h20⟩
 simp only[ja,hV,bQ,DT,Fm,aag,BS,tL,uc,E5]
 refine⟨h1,h2,h3,h4,h5,h6,⟨?_,?_⟩,h9,h10,h11,h12,h13,h14,h15,leB_t.2 oaa,h17,leB_t.2 (by rw[bP oaa];omega),h19,leB_t.2 (by rw[DH h5,HF h4.d (by have:=h4.l;omega)];omega)⟩
 .cases e:eqB s.bp 1
  .rfl
  simp_all
 cases e:ltB 0 s.bI
 .rfl
 simp_all
def tD (s:ah) (b:List Int):ah×Bool:=bif leB 24 (s.aH.length:Int)||ltB 60 (b.length:Int) then(s,false) else({s with aH:=s.aH++[⟨b⟩]},true)
theorem Zl (h:d4 s) {b:List Int}:mO s b=some (tD s b):=by
 simp only[mO,qZ h,abM,tD,F4,abb]
 cases h1:leB 24 (s.aH.length:Int)<;>cases h2:ltB 60 (b.length:Int)<;>try rfl
 have h1:=yd h1
 have h2:=qz h2
 simp only[ab0,cz (by_:=1) (n:=b.length) oaa oaa,cz (by_:=24) (n:=(s.aH++[(⟨b⟩:bJ)]).length) oaa (by simp;omega),au]
theorem sub_i (h:d4 s) {b:List Int}:pY s b=some (tD s b):=by
 simp only[pY,wH h,abM,tD]
 cases h1:leB 24 (s.aH.length:Int)<;>cases h2:ltB 60 (b.length:Int)<;>try rfl
 have h1:=yd h1
 have h2:=qz h2
 simp only[ab0,vV (show b.length<=1048576 by omega),cz (by_:=24) (n:=(s.aH++[(⟨b⟩:bJ)]).length) oaa (by simp;omega),au]
def GX (s:ah) (m:aF):bN:=
 let q:=s.bF.cW+1
 let v:=vec s.bF.eX (Eh s.bF.ID q) q
 bif eqB s.bF.cW 999999 then⟨s,[]⟩ else⟨{s with bF:={s.bF with cW:=q},aK:=v,bI:=q},[⟨2,m.bh,q,0,0,v,0⟩]⟩
def y9 (s:ah) (k:Int):aF:=wL s.aZ ⟨k,s.bh,s.ag,s.aV,0,cp,0⟩
def xq (s:ah) (c:Int):ah:=⟨s.bF,s.gT,1,cp,0,s.bI,s.aK.eX,s.aV+1,c,0,et,s.aH,s.ax,s.dP,s.b9⟩
def zW (s:ah) (m:aF):bN:=
 bif leB s.bI 0||(!eqB m.ag s.bI||(!eqB m.bV s.aK.w8||leB 999999 s.aV)) then⟨s,[]⟩ else⟨xq s m.bh,[y9 (xq s m.bh) 4]⟩
def sW (s:ah) (m:aF):Bool:=eqB s.bp 1&&(eqB m.ag s.ag&&tx s.aZ m)
def wD (s:ah) (m:aF):ah:={s with aV:=m.aV,bh:=m.bh,dT:=0,ga:=et,dP:=0}
def zV (s:ah) (m:aF):bN:=
 bif !sW s m||(ltB m.aV s.aV||(eqB m.aV s.aV&&!eqB m.bh s.bh)) then⟨s,[]⟩ else⟨wD s m,[y9 (wD s m) 6]⟩
def lj (w:aY) (k:Int):aY:=bif ltB w.bE k then w else⟨w.bE,w.aC.filter λx=>leB k x.cW⟩
def tH (q:cP) (n:Int):cP:=bif inR n 0 (q.cV-q.em) then {q with em:=q.em+n} else q
def lJ (s:ah) (k:Int):ah:={s with dT:=0,ax:=lj s.ax k,b9:=tH s.b9 (f6 s.ax.aC-f6 (lj s.ax k).aC)}
def GW (s:ah) (m:aF):bN:=bif !sW s m||ltB s.ax.bE m.bV then⟨s,[]⟩ else⟨lJ s m.bV,[]⟩
def sUp (s:ah) (m:aF):bN:=
 bif !lH m then⟨s,[]⟩ else bif eqB m.a8 1 then GX s m else bif eqB m.a8 3 then zW s m else bif eqB m.a8 5 then zV s m else bif eqB m.a8 8 then GW s m else⟨s,[]⟩
def lL (s:ah):ah:={s with aK:=cp,bI:=0,dT:=0,ga:=et,dP:=0}
theorem Bl (h:d4 s):o6 s=some ⟨s,[]⟩:=by simp[o6,qZ h]
theorem Vw (h:d4 s) {l:List aF} (hl:l.length<=1048576):dK s l=some ⟨s,l⟩:=by simp[dK,wH h,VU hl]
theorem y6 (h:d4 s):dK s []=some ⟨s,[]⟩:=Vw h (by simp)
theorem JG (h:d4 s) (m:aF):dK s [m]=some ⟨s,[m]⟩:=Vw h (by simp)
theorem ZO (h:d4 s):y7 s=some (lL s):=by simp[y7,qZ h,lL]
theorem ZN (h:d4 s):yX s=some (lL s):=by simp[yX,wH h,lL]
theorem JC {r:aO} (h:tE r=true):0<=r.cW/\r.cW<=999999:=by
 simp only[tE,hV,bQ] at h;omega
theorem att_s (h:SP s) (m:aF):oT s m=some (GX s m):=by
 have hr:=JC h.rcd
 simp only[oT,Tm,qX,Vm,h.rcd,Ql,Bl h.ok,qZ h.ok,bP (n:=s.bF.cW+1) oaa,GX,au]
 cases he:eqB s.bF.cW 999999
 .simp only[bX,eqB_f.2 (show s.bF.cW+1≠s.bF.cW by omega),abW,abQ,au]
 simp_all
theorem att_i (h:SP s) (m:aF):oc s m=some (GX s m):=by
 have hr:=JC h.rcd
 simp only[oc,ZC,qS,Y8,h.rcd,Zp,y6 h.ok,bP (n:=s.bF.cW+1) oaa,GX,au]
 cases he:eqB s.bF.cW 999999
 .simp only[bX,eqB_f.2 (show s.bF.cW+1≠s.bF.cW by omega),abW,abQ,au]
  rw[JG (s:={s with bF:={s.bF with cW:=s.bF.cW+1},aK:=vec s.bF.eX (Eh s.bF.ID (s.bF.cW+1)) (s.bF.cW+1),bI:=s.bF.cW+1}) h.ok]
  rfl
 simp_all
theorem resp_s (h:SP s) (m:aF):mf s m=some (zW s m):=by
 have he:=h.ep
 simp only[mf,pH,Bl h.ok,qZ h.ok,tk,CC,abM,bP (n:=s.aV+1) oaa,zW]
 cases leB s.bI 0<;>cases eqB m.ag s.bI<;>cases eqB m.bV s.aK.w8<;>cases leB 999999 s.aV<;>rfl
theorem resp_i (h:SP s) (m:aF):ma s m=some (zW s m):=by
 have he:=h.ep
 have hh:d4 (xq s m.bh):=h.ok
 have a:∀x,dK ⟨s.bF,s.gT,1,cp,0,s.bI,s.aK.eX,s.aV+1,m.bh,0,et,s.aH,s.ax,s.dP,s.b9⟩ [x]=some ⟨xq s m.bh,[x]⟩:=λx=>JG hh x
 simp only[ma,pt,y6 h.ok,mK,JW,abM,bP (n:=s.aV+1) oaa,a,zW]
 cases leB s.bI 0<;>cases eqB m.ag s.bI<;>cases eqB m.bV s.aK.w8<;>cases leB 999999 s.aV<;>rfl
theorem Pc (s:ah) (m:aF):vJ s m=some (sW s m):=by
 simp only[vJ,J7,abM,sW];grind
theorem X3 (h:SP s) (m:aF):kf s m=some (zV s m):=by
 simp only[kf,Pc,Bl h.ok,qZ h.ok,tk,CC,abM,zV]
 cases sW s m<;>cases ltB m.aV s.aV<;>cases eqB m.aV s.aV<;>cases eqB m.bh s.bh<;>rfl
theorem X2 (h:SP s) (m:aF):jY s m=some (zV s m):=by
 have hh:d4 (wD s m):=h.ok
 have a:∀x,dK {s with aV:=m.aV,bh:=m.bh,dT:=0,ga:=et,dP:=0} [x]=some ⟨wD s m,[x]⟩:=λx=>JG hh x
 simp only[jY,Gl,y6 h.ok,mK,JW,abM,a,zV,sW]
 cases eqB s.bp 1<;>cases eqB m.ag s.ag<;>cases tx s.aZ m<;>cases ltB m.aV s.aV<;>cases eqB m.aV s.aV<;>cases eqB m.bh s.bh<;>rfl
theorem Zw (h:WOK w) (k:Int):lf w k=some (lj w k):=by
 have hl:=h.l
 simp only[lf,FY h.ok,abM,lj]
 cases ltB w.bE k
 .have:=eJ (step:=gO w k) w.aC (λi s=>((i:Int),s)) (sP 32 (λx=>leB k x.cW) (λx=>x)) some oaa
   (λi x s hx hi=>by
    have hd:=h.d x (aab hx)
    simp only[gO,cA hi,bu,hx,abb,cz (by_:=1) (n:=x.a9.length) oaa oaa,WRs (k:=i),sP,au]
    cases leB k x.cW<;>simp
    cases da 32 (s.length+1)<;>rfl) (λs=>by simp[gO]) ([]:List ae)
  rw[tJ oaa _ _ _ _ (by simp;omega)] at this
  simp only[show iter (gO w k) FU (0,[])=_ from this,abb,acz,au]
 rfl
theorem OP (h:WOK w) (p:ae->Bool):okL fY (w.aC.filter p):=
 ⟨by have:=acf p w.aC;have:=h.l;omega,λx hx=>h.ok.2 x (ab1.1 hx).1⟩
theorem Zv (h:WOK w) (k:Int):kR w k=some (lj w k):=by
 have hl:=h.l
 simp only[kR,Cz h.ok,abM,lj]
 cases ltB w.bE k
 .have:=eJ (step:=gG w k) w.aC (λi s=>((i:Int),s)) (sP 32 (λx=>leB k x.cW) (λx=>x)) some oaa
   (λi x s hx hi=>by
    simp only[gG,cA hi,bu,hx,WRs (k:=i),sP,au]
    cases leB k x.cW<;>simp
    cases da 32 (s.length+1)<;>rfl) (λs=>by simp[gG]) ([]:List ae)
  rw[tJ oaa _ _ _ _ (by simp;omega)] at this
  simp only[show iter (gG w k) FU (0,[])=_ from this,abb,acz,Ap (OP h _),au]
 rfl
theorem QD (h:QOK q) (n:Int):∃b,p6 q n=some (tH q n,b):=by
 obtain⟨a,b,c,d⟩:=h
 simp only[p6,Br,Fm.2 ⟨a,b,c,d⟩,fK,bP (n:=q.cV-q.em) oaa,tH,au]
 cases hn:inR n 0 (q.cV-q.em)
 .exact⟨false,rfl⟩
 rw[bQ] at hn
 simp only[bP (n:=q.em+n) oaa,au];exact⟨true,rfl⟩
theorem QC (h:QOK q) (n:Int):∃b,pV q n=some (tH q n,b):=by
 obtain⟨a,b,c,d⟩:=h
 simp only[pV,DG,Fm.2 ⟨a,b,c,d⟩,gK,bP (n:=q.cV-q.em) oaa,tH,au]
 cases hn:inR n 0 (q.cV-q.em)
 .exact⟨false,rfl⟩
 rw[bQ] at hn
 simp only[bP (n:=q.em+n) oaa,au];exact⟨true,rfl⟩
theorem H5 (p:ae->Bool):∀xs:List ae,f6 xs=f6 (xs.filter p)+f6 (xs.filter λx=>!p x)
 |[]=>rfl
 |x::xs=>by
  have ih:=H5 p xs
  have e:∀ys,f6 (x::ys)=x.a9.length+f6 ys:=λys=>by simp[f6]
  rw[acb,acb,e]
  cases p x<;>simp[e]<;>omega
theorem J4 (n:Int):∀(xs:List ae) (s:Int),(∀x∈xs,x.a9.length<=60)->0<=s->s+60*xs.length<=9000000000->
 xs.foldl (λa x=>bif ltB x.cW n then WR (a+(x.a9.length:Int)) else a) s=s+f6 (xs.filter λx=>ltB x.cW n)
 |[],s,_,_,_=>by simp[f6]
 |x::xs,s,h,h0,h1=>by
  have hx:=h x (by simp)
  simp only[aak] at h1
  rw[ab8,acb]
  cases ltB x.cW n
  .simp only[cond_false]
   exact J4 n xs s (λy hy=>h y (by simp[hy])) h0 oaa
  simp only[cond_true]
  rw[bP oaa,J4 n xs _ (λy hy=>h y (by simp[hy])) oaa oaa]
  simp[f6];omega
theorem In (h:WOK w) {k:Int} (hk:ltB w.bE k=false):f6 w.aC-f6 (lj w k).aC=f6 (w.aC.filter λx=>ltB x.cW k):=by
 rw[lj,hk,H5 (λx=>leB k x.cW) w.aC]
 simp only[cond_false]
 have:(λx:ae=>ltB x.cW k)=λx=>!leB k x.cW:=by funext x;rw[sY]
 rw[this];omega
theorem ack_s (h:SP s) (m:aF):nf s m=some (GW s m):=by
 obtain⟨b,hb⟩:=QD h.q (f6 s.ax.aC-f6 (lj s.ax m.bV).aC)
 have hu:=h.win.d
 have hl:=h.win.l
 have hu2:∀x∈(lj s.ax m.bV).aC,x.a9.length<=60:=λx hx=>by
  rw[lj] at hx;revert hx
  cases ltB s.ax.bE m.bV
  .exact λhx=>hu x (ab1.1 hx).1
  exact hu x
 have hl2:(lj s.ax m.bV).aC.length<=8:=by
  rw[lj];cases ltB s.ax.bE m.bV
  .have:=acf (λx:ae=>leB m.bV x.cW) s.ax.aC
   simp only[cond_false];omega
  exact hl
 have s1:=wV hu
 have s2:=wV hu2
 have e1:WR (yf s.ax.aC-yf (lj s.ax m.bV).aC)=f6 s.ax.aC-f6 (lj s.ax m.bV).aC:=by
  rw[HF hu oaa,HF hu2 oaa,bP oaa]
 simp only[nf,Pc,Bl h.ok,qZ h.ok,Zw h.win,XR (show s.ax.aC.length<=1048576 by omega),XR (show(lj s.ax m.bV).aC.length<=1048576 by omega),abM,e1,hb,GW]
 cases sW s m<;>cases ltB s.ax.bE m.bV<;>rfl
theorem WU (h:WOK w) (k:Int):ji (lj w k):=by
 rw[lj];cases ltB w.bE k
 .exact OP h _
 exact h.ok
theorem ack_i (h:SP s) (m:aF):mY s m=some (GW s m):=by
 have hu:=h.win.d
 have hl:=h.win.l
 have hrun:iter (jX s m) FU (0,0)=some (f6 (s.ax.aC.filter λx=>ltB x.cW m.bV)):=by
  rw[vg s.ax.aC (λa x=>bif ltB x.cW m.bV then WR (a+(x.a9.length:Int)) else a) oaa (λk x a hx hk=>by
   simp only[jX,cA hk,bu,hx,WRs (k:=k),au]
   cases ltB x.cW m.bV<;>rfl) (λa=>by simp[jX]),J4 m.bV s.ax.aC 0 hu oaa oaa]
  simp
 obtain⟨b,hb⟩:=QC h.q (f6 (s.ax.aC.filter λx=>ltB x.cW m.bV))
 simp only[mY,Gl,y6 h.ok,hrun,hb,Zv h.win,abM,GW,sW]
 cases eqB s.bp 1<;>cases eqB m.ag s.ag<;>cases tx s.aZ m<;>try rfl
 cases hk:ltB s.ax.bE m.bV
 .have ho:d4 (lJ s m.bV):=⟨h.ok.1,h.ok.2.1,WU h.win _⟩
  have:=y6 ho
  rw[lJ,In h.win hk] at this
  simp only[abQ,acn,lJ,In h.win hk,this,au]
 rfl
theorem up_s (h:SP s) (m:aF):oW s m=some (sUp s m):=by
 simp only[oW,PA,Bl h.ok,att_s h,resp_s h,X3 h,ack_s h,abM,sUp]
 cases lH m<;>cases eqB m.a8 1<;>cases eqB m.a8 3<;>cases eqB m.a8 5<;>cases eqB m.a8 8<;>rfl
theorem up_i (h:SP s) (m:aF):oi s m=some (sUp s m):=by
 simp only[oi,Pz,y6 h.ok,att_i h,resp_i h,X2 h,ack_i h,abM,sUp]
 cases lH m<;>cases eqB m.a8 1<;>cases eqB m.a8 3<;>cases eqB m.a8 5<;>cases eqB m.a8 8<;>rfl
theorem tv (t d:List aD):wW (t++d)=wW t+wW d:=by simp[wW,List.sum_append]
@[simp] theorem sumR_cons (x:aD) (d:List aD):wW (x::d)=x.dW+wW d:=by simp[wW]
theorem Vh {d:List aD} {m m':Int} (h:(t++⟨i,m⟩::d).Pairwise λx y=>x.aJ<y.aJ):(t++⟨i,m'⟩::d).Pairwise λx y=>x.aJ<y.aJ:=by
 rw[abR,abT] at h ⊢
 simp_all
theorem pw_ins {d:List aD} {m:Int} (h:(t++d).Pairwise λx y=>x.aJ<y.aJ) (h1:∀x∈t,x.aJ<i) (h2:∀x∈d,i<x.aJ):(t++(⟨i,m⟩:aD)::d).Pairwise λx y=>x.aJ<y.aJ:=by
 rw[abR] at h ⊢
 simp_all
theorem XT {d:List aD} (h1:∀x∈t,x.aJ<i) (h2:∀x∈d,i<x.aJ):∀x∈t++d,x.aJ≠i:=λx hx=>by
 grind
theorem Ft (ok:qf a) (i n:Int):
 qf (iY a i n).1/\iJ (iY a i n).1 i=iJ a i+(iY a i n).2/\0<=(iY a i n).2/\(iY a i n).2<=a.bY/\(iY a i n).1.bY=a.bY-(iY a i n).2/\(iY a i n).1.ey=a.ey/\(iY a i n).1.gU=a.gU:=by
 have hv:=ok.v
 have ht:=ok.t
 have hs:=ok.s
 have hl:=ok.l
 have he:=ok.e
 rw[iY]
 cases h1:ltB i 0<;>cases h2:inR n 1 100000<;>cases h3:eqB a.bY 0<;>cases h4:full a i<;>simp only[acn,Bool.or_true,aco,aaC,au]<;>try exact⟨ok,by omega,by omega,by omega,by omega,by simp,by simp⟩
 rw[bQ] at h2
 have h1:=qz h1
 have h3:=M8 h3
 have hmin:1<=kw n a.bY/\kw n a.bY<=100000/\kw n a.bY<=a.bY:=by unfold kw;split<;>omega
 generalize kw n a.bY=g at*
 rcases KN ok.o i with⟨t,m,d,e,k1,k2⟩|⟨t,d,e,k1,k2⟩
 .have hm:=ok.r ⟨i,m⟩ (by rw[e];simp)
  have hsum:=(uE ok.r).2.2 ⟨i,m⟩ (by rw[e];simp)
  simp only at hm hsum
  rw[e,tv,sumR_cons] at he
  simp only at he
  have hs1:=uE (h:=t) λx hx=>ok.r x (by simp_all)
  have hs2:=uE (h:=d) λx hx=>ok.r x (by simp_all)
  have ho:=ok.o
  rw[e] at ho
  rw[nH e k1]
  simp only[e,Ip k1]
  have hll:(t++(⟨i,m+g⟩:aD)::d).length=a.an.length:=by rw[e];simp
  refine⟨⟨ht,by grind,hs,by simp_all,λx hx=>?_,Vh ho,by simp only[tv,sumR_cons];omega⟩,nH (t:=t) (d:=d) rfl k1,by omega,by omega,trivial,trivial,trivial⟩
  rcases aae.1 hx with hx|hx
  .exact ok.r x (by simp_all)
  rcases aaf.1 hx with e'|hx
  .grind
  exact ok.r x (by simp_all)
 rw[sr (a:=a) (λx hx=>by grind)]
 have hb:a.an.length<8:=by
  rw[full,e,SZ k1 k2] at h4
  simp only[Bool.not_false,abQ] at h4
  have:=yd h4
  rw[e];omega
 rw[e,tv] at he
 have ho:=ok.o
 rw[e] at ho
 simp only[e,Iq k1 k2]
 refine⟨⟨ht,by grind,hs,by grind,λx hx=>?_,pw_ins ho k1 k2,by simp only[tv,sumR_cons];omega⟩,Eq.trans (nH (t:=t) (d:=d) rfl k1) oaa,by omega,by omega,trivial,trivial,trivial⟩
 rcases aae.1 hx with hx|hx
 .exact ok.r x (by simp_all)
 rcases aaf.1 hx with e'|hx
 .simp_all
 exact ok.r x (by simp_all)
theorem TB (ok:qf a) {n:Int} (hn:0<=n/\n<=iJ a i):
 qf (xD a i n)/\iJ (xD a i n) i=iJ a i-n/\(xD a i n).ey=a.ey+n/\(xD a i n).bY=a.bY/\(xD a i n).gU=a.gU:=by
 have hv:=ok.v
 have ht:=ok.t
 have hs:=ok.s
 have hl:=ok.l
 have he:=ok.e
 rw[xD]
 cases h0:ltB 0 n
 .have h0:=qz h0
  grind
 have h0:=mu h0
 simp only[cond_true]
 rcases KN ok.o i with⟨t,m,d,e,k1,k2⟩|⟨t,d,e,k1,k2⟩
 .rw[nH e k1] at hn ⊢
  have hm:=ok.r ⟨i,m⟩ (by rw[e];simp)
  simp only at hm
  rw[e,tv,sumR_cons] at he
  have hs1:=uE (h:=t) λx hx=>ok.r x (by simp_all)
  have hs2:=uE (h:=d) λx hx=>ok.r x (by simp_all)
  have ho:=ok.o
  rw[e] at ho
  have hll:t.length+1+d.length=a.an.length:=by rw[e];simp;omega
  simp only at he
  simp only[e,IA k1]
  by_cases hb:n<m
  .simp only[if_pos hb]
   refine⟨⟨ht,by omega,by grind,by simp;omega,λx hx=>?_,Vh ho,by simp only[tv,sumR_cons];omega⟩,nH (t:=t) (d:=d) rfl k1,trivial,trivial,trivial⟩
   rcases aae.1 hx with hx|hx
   .exact ok.r x (by simp_all)
   rcases aaf.1 hx with e'|hx
   .grind
   exact ok.r x (by simp_all)
  simp only[if_neg hb]
  have ho2:(t++d).Pairwise λx y=>x.aJ<y.aJ:=ho.sublist (by simp)
  refine⟨⟨ht,by omega,by grind,by simp;omega,λx hx=>ok.r x (by grind),ho2,by simp only[tv];omega⟩,?_,trivial,trivial,trivial⟩
  rw[sr (a:={a with ey:=a.ey+n,an:=t++d}) (XT k1 k2)];omega
 rw[sr (λx hx=>by grind)] at hn
 omega
structure MOK (a:aj) (q:cP):Prop where
 acc:qf a
 quo:QOK q
 res:iJ a q.aJ=q.cV
theorem sm:wX a q=true↔MOK a q:=by
 simp only[wX,hV,yL,Fm,eqB_t]
 exact⟨λ⟨x,y,z⟩=>⟨x,y,z⟩,λ⟨x,y,z⟩=>⟨x,y,z⟩⟩
def jp (a:aj) (q:cP) (n:Int):aj×cP:=
 let r:=iY a q.aJ n
 (r.1,{q with cV:=q.cV+r.2})
theorem Ar (h:MOK a q) (n:Int):MOK (jp a q n).1 (jp a q n).2/\q.cV<=(jp a q n).2.cV:=by
 obtain⟨h1,h2,h3,h4,h5,h6,h7⟩:=Ft h.acc q.aJ n
 have:=Cr h1 q.aJ
 have hr:=h.res
 obtain⟨a1,a2,a3,a4⟩:=h.quo
 exact⟨⟨h1,⟨a1,a2,by simp only[jp];omega,by simp only[jp];omega⟩,by simp only[jp];omega⟩,by simp only[jp];omega⟩
theorem Rt (h:MOK a q) (n:Int):p9 a q n=some (jp a q n):=by
 have h0:=(Ar h n).1.quo
 have hq:=h.quo
 simp only[jp] at h0
 have hg:=h0.m
 have hg2:=h0.g
 simp only at hg hg2
 simp only[p9,Rw h.acc,Ji h.acc.ok,sm.2 h,Br,bP (n:=q.cV+(iY a q.aJ n).2) (by have:=hq.u;omega),Fm.2 h0,jp,au]
theorem Rs (h:MOK a q) (n:Int):pX a q n=some (jp a q n):=by
 have h0:=(Ar h n).1.quo
 have hq:=h.quo
 simp only[jp] at h0
 have hg:=h0.m
 have hg2:=h0.g
 simp only at hg hg2
 simp only[pX,Rv h.acc,Jh h.acc.ok,sm.2 h,bP (n:=q.cV+(iY a q.aJ n).2) (by have:=hq.u;omega),ltB_f.2 hg,jp,au]
def lI (a:aj) (q:cP):aj×cP:=(xD a q.aJ q.em,⟨q.aJ,q.cV-q.em,0⟩)
theorem Rr (h:MOK a q):MOK (lI a q).1 (lI a q).2/\(lI a q).1.ey=a.ey+q.em/\(lI a q).1.gU=a.gU/\(lI a q).1.bY=a.bY:=by
 obtain⟨a1,a2,a3,a4⟩:=h.quo
 have hr:=h.res
 obtain⟨h1,h2,h3,h4,h5⟩:=TB h.acc (i:=q.aJ) (n:=q.em) oaa
 exact⟨⟨h1,⟨a1,by simp[lI],by simp only[lI];omega,by simp only[lI];omega⟩,by simp only[lI];omega⟩,h3,h5,h4⟩
theorem Vv (h:MOK a q):rS a q=some (lI a q):=by
 obtain⟨a1,a2,a3,a4⟩:=h.quo
 have hr:=h.res
 simp only[rS,Ji h.acc.ok,sm.2 h,Xc h.acc (i:=q.aJ) (n:=q.em) oaa,bP (n:=q.cV-q.em) oaa,lI,au]
theorem Vu (h:MOK a q):ol a q=some (lI a q):=by
 obtain⟨a1,a2,a3,a4⟩:=h.quo
 have hr:=h.res
 simp only[ol,Jh h.acc.ok,sm.2 h,Xb h.acc (i:=q.aJ) (n:=q.em) oaa,bP (n:=q.cV-q.em) oaa,lI,au]
def mn (s:ah) (n:Int):Int:=Cm 0 (f6 s.ax.aC+n-(s.b9.cV-s.b9.em))
theorem UT (hw:WOK s.ax) (hq:QOK s.b9) {n:Int} (hn:0<=n/\n<=1000):oS s n=some (mn s n):=by
 have hs:=wV hw.d
 have hl:=hw.l
 obtain⟨a1,a2,a3,a4⟩:=hq
 simp only[oS,oR,XR (show s.ax.aC.length<=1048576 by omega),HF hw.d (show s.ax.aC.length<=1000 by omega),Za,DH ⟨a1,a2,a3,a4⟩,Lq,abM,mn,bP (n:=f6 s.ax.aC+n) oaa,bP (n:=f6 s.ax.aC+n-(s.b9.cV-s.b9.em)) oaa]
theorem US (hw:WOK s.ax) (hq:QOK s.b9) {n:Int} (hn:0<=n/\n<=1000):n9 s n=some (mn s n):=by
 have hs:=wV hw.d
 have hl:=hw.l
 obtain⟨a1,a2,a3,a4⟩:=hq
 simp only[n9,iS,nb_i (show s.ax.aC.length<=1048576 by omega),HF hw.d (show s.ax.aC.length<=1000 by omega),Y9,DH ⟨a1,a2,a3,a4⟩,UF,abM,mn,bP (n:=f6 s.ax.aC+n) oaa,bP (n:=f6 s.ax.aC+n-(s.b9.cV-s.b9.em)) oaa]
def dh (s:ah) (a:aj) (n:Int):ah×aj:=
 bif leB (mn s n) 0 then(s,a) else
  let r:=jp a s.b9 (Cm (mn s n) s.gT.eD)
  ({s with b9:=r.2},r.1)
theorem TQ (h:SP s) (hm:MOK a s.b9) {n:Int} (hn:0<=n/\n<=1000):rQ s a n=some (dh s a n):=by
 simp only[rQ,qZ h.ok,UT h.win h.q hn,D2 hm.acc.ok,Lq,Rt hm,abM,dh]
 grind
theorem TP (h:SP s) (hm:MOK a s.b9) {n:Int} (hn:0<=n/\n<=1000):rA s a n=some (dh s a n):=by
 simp only[rA,wH h.ok,US h.win h.q hn,BX hm.acc.ok,UF,Rs hm,abM,dh]
 grind
def pI (w:aY) (b:List Int):aY:=⟨w.bE+1,w.aC++[⟨w.bE,b⟩]⟩
theorem DI (h:WOK w) {b:List Int} (hn:w.bE<100000) (hl:w.aC.length<8) (hb:b.length<=60):WOK (pI w b):=by
 have h1:=h.n
 have h3:=h.f
 refine⟨by simp only[pI];omega,by simp[pI];omega,by simp[pI];omega,λk x hx=>?_⟩
 simp only[pI] at hx ⊢
 rw[aaz,acg]
 by_cases hk:k<w.aC.length
 .rw[aaq hk] at hx
  have:=h.u k x hx
  omega
 grind
theorem send_s (h:WOK w) {b:List Int} (hn:w.bE<100000) (hl:w.aC.length<8) (hb:b.length<=60):qG w b=some (pI w b,⟨w.bE,b⟩,true):=by
 have h1:=h.n
 have hs:=DI h hn hl hb
 have e:(⟨WR (w.bE+1),w.aC++[(⟨w.bE,b⟩:ae)]⟩:aY)=pI w b:=by rw[bP oaa];rfl
 simp only[qG,FY h.ok,abb,cz (by_:=1) (n:=b.length) oaa oaa,cz (by_:=32) (n:=(w.aC++[(⟨w.bE,b⟩:ae)]).length) oaa (by simp;omega),e,L5 hs.ok,DT.2 hs,au]
theorem send_i (h:WOK w) {b:List Int} (hn:w.bE<100000) (hl:w.aC.length<8) (hb:b.length<=60):qs w b=some (pI w b,⟨w.bE,b⟩,true):=by
 have h1:=h.n
 have hs:=DI h hn hl hb
 have e:(⟨WR (w.bE+1),w.aC++[(⟨w.bE,b⟩:ae)]⟩:aY)=pI w b:=by rw[bP oaa];rfl
 simp only[qs,Cz h.ok,vV (show b.length<=1048576 by omega),cz (by_:=32) (n:=(w.aC++[(⟨w.bE,b⟩:ae)]).length) oaa (by simp;omega),e,L4 hs.ok,DT.2 hs,au]
structure SG (s:ah) (a:aj):Prop where
 sp:SP s
 b1:∀p∈s.aH,okB p.a9
 b2:∀x∈s.ax.aC,okB x.a9
 mo:MOK a s.b9
def rm (s:ah):Option bJ:=bif leB s.ax.bE (s.aH.length:Int)&&ltB (s.ax.aC.length:Int) 8 then s.aH[(s.ax.bE-1).toNat]? else none
def gp:Nat->ah->aj->List av->ah×aj×List av
 |0,s,a,r=>(s,a,r)
 |k+1,s,a,r=>match rm s with
  |none=>(s,a,r)
  |some x=>
   let e:=dh s a (x.a9.length:Int)
   bif ltB 0 (mn e.1 (x.a9.length:Int)) then(e.1,e.2,r)
   else gp k {e.1 with ax:=pI e.1.ax x.a9} e.2 (r++[iH e.1.aZ e.1.ag e.1.aV ⟨e.1.ax.bE,x.a9⟩])
theorem nn (h:SP s) {x:bJ} (e:rm s=some x):x∈s.aH/\ix s.aH (WR (s.ax.bE-1))=some x/\s.aH[(s.ax.bE-1).toNat]?=some x/\s.ax.bE<=s.aH.length/\s.ax.aC.length<8/\x.a9.length<=60:=by
 have hn:=h.win.n
 rw[rm] at e
 cases h1:leB s.ax.bE (s.aH.length:Int)<;>cases h2:ltB (s.ax.aC.length:Int) 8<;>rw[h1,h2] at e<;>try cases e
 have h1:=zu h1
 have h2:=mu h2
 have e:s.aH[(s.ax.bE-1).toNat]?=some x:=e
 have hm:=aab e
 refine⟨hm,?_,e,h1,by omega,h.sd x hm⟩
 rw[bP oaa,ix,leB_t.2 (show 0<=s.ax.bE-1 by omega)]
 exact e
theorem Fh (h:SP s) (e:rm s=none):(leB s.ax.bE (s.aH.length:Int)&&ltB (s.ax.aC.length:Int) 8)=false:=by
 have hn:=h.win.n
 cases h1:leB s.ax.bE (s.aH.length:Int)&&ltB (s.ax.aC.length:Int) 8
 .rfl
 rw[rm,h1] at e
 rw[hV] at h1
 have h1:=zu h1.1
 have e:s.aH[(s.ax.bE-1).toNat]?=none:=e
 rw[List.getElem?_eq_none_iff] at e
 omega
theorem ve (h:SG s a) {n:Int} (hn:0<=n/\n<=60):SG (dh s a n).1 (dh s a n).2:=by
 rw[dh]
 cases leB (mn s n) 0
 .obtain⟨h1,h2⟩:=Ar h.mo (Cm (mn s n) s.gT.eD)
  have hp:=h.sp.pd
  have hu:(jp a s.b9 (Cm (mn s n) s.gT.eD)).2.em=s.b9.em:=rfl
  exact⟨{h.sp with q:=h1.quo,pd:=by simp only[cond_false] at hp ⊢;rw[hu];omega},h.b1,h.b2,h1⟩
 exact h
theorem R6 (x:ByteArray):strB x x=true:=by simp[strB]
theorem BB (h:SG s a) {x:bJ} (e:rm s=some x) (hq:ltB 0 (mn s (x.a9.length:Int))=false):SG {s with ax:=pI s.ax x.a9} a:=by
 obtain⟨hm,_,hx,hn,hl,hb⟩:=nn h.sp e
 have hs:=h.sp.sl
 have hq:=qz hq
 have hnn:=h.sp.win.n
 have hpd:f6 (s.ax.aC++[⟨s.ax.bE,x.a9⟩])<=s.b9.cV-s.b9.em:=by
  have e1:f6 (s.ax.aC++[⟨s.ax.bE,x.a9⟩])=f6 s.ax.aC+x.a9.length:=by simp[f6]
  rw[mn,Cm] at hq
  rw[e1]
  split at hq<;>omega
 refine⟨{h.sp with ok:=⟨h.sp.ok.1,h.sp.ok.2.1,(DI h.sp.win oaa hl hb).ok⟩,win:=DI h.sp.win oaa hl hb,nx:=by simp only[pI];omega,un:=λy hy=>?_,pd:=hpd},h.b1,λy hy=>?_,h.mo⟩
 .simp only[pI,aae,abg] at hy
  rcases hy with hy|rfl
  .exact h.sp.un y hy
  simp only[CG,hx,L0];exact R6 _
 simp only[pI,aae,abg] at hy
 rcases hy with hy|rfl
 .exact h.b2 y hy
 exact h.b1 x hm
theorem nz (s:ah) (a:aj) (n:Int):∃q,(dh s a n).1={s with b9:=q}:=by
 rw[dh];cases leB (mn s n) 0
 .exact⟨_,rfl⟩
 exact⟨s.b9,rfl⟩
theorem FW:∀(k fu:Nat) (s:ah) (a:aj) (r:List av),SG s a->k<=2->k<fu->r.length+k<=1000->
 iter tW fu ((2:Int)-(k:Nat),r,s,a)=some ((gp k s a r).2.2,(gp k s a r).1,(gp k s a r).2.1)
 |0,fu,s,a,r,h,h1,h2,h3=>by
  cases fu with
  |zero=>omega
  |succ fu=>rw[iter];simp[tW,gp]
 |k+1,fu,s,a,r,h,h1,h2,h3=>by
  cases fu with
  |zero=>omega
  |succ fu=>
   have hlt:ltB ((2:Int)-((k+1:Nat):Int)) 2=true:=ltB_t.2 oaa
   have hc:(bif ltB (s.aH.length:Int) s.ax.bE then some true else some (leB 8 (s.ax.aC.length:Int)))=some (!(leB s.ax.bE (s.aH.length:Int)&&ltB (s.ax.aC.length:Int) 8)):=by
    rw[sY (s.aH.length:Int),sY (s.ax.aC.length:Int)]
    cases leB s.ax.bE (s.aH.length:Int)<;>cases leB 8 (s.ax.aC.length:Int)<;>rfl
   rw[iter]
   simp only[tW,hlt,hc,gp,au]
   cases e:rm s with
   |none=>rw[Fh h.sp e];rfl
   |some x=>
    obtain⟨hm,hx,_,hn,hl,hb⟩:=nn h.sp e
    have hcc:(leB s.ax.bE (s.aH.length:Int)&&ltB (s.ax.aC.length:Int) 8)=true:=by rw[leB_t.2 hn,ltB_t.2 oaa];rfl
    have he:=ve h (n:=(x.a9.length:Int)) oaa
    have hsl:=h.sp.sl
    have hnn:=h.sp.win.n
    simp only[hcc,hx,TP h.sp h.mo (n:=(x.a9.length:Int)) oaa,US he.sp.win he.sp.q (n:=(x.a9.length:Int)) oaa,au]
    cases hq:ltB 0 (mn (dh s a (x.a9.length:Int)).1 (x.a9.length:Int))
    .obtain⟨q,hk⟩:=nz s a (x.a9.length:Int)
     have e2:rm (dh s a (x.a9.length:Int)).1=some x:=by rw[hk];exact e
     have hg:=BB he e2 hq
     have hw:(dh s a (x.a9.length:Int)).1.ax=s.ax:=by rw[hk]
     have hww:=he.sp.win
     simp only[send_i hww (b:=x.a9) (by rw[hw];omega) (by rw[hw];omega) hb,VO (x:=⟨(dh s a (x.a9.length:Int)).1.ax.bE,x.a9⟩) (by rw[hw];simp only;omega) (by rw[hw];simp only;omega) (h.b1 x hm) (by simp only;omega),cz (by_:=64) (n:=(r++[iH (dh s a (x.a9.length:Int)).1.aZ (dh s a (x.a9.length:Int)).1.ag (dh s a (x.a9.length:Int)).1.aV ⟨(dh s a (x.a9.length:Int)).1.ax.bE,x.a9⟩]).length) oaa (by simp;omega),bP (n:=(2:Int)-((k+1:Nat):Int)+1) oaa,au]
     rw[show(2:Int)-((k+1:Nat):Int)+1=2-(k:Nat) by omega]
     exact FW k fu _ _ _ hg oaa oaa (by simp;omega)
    rfl
theorem FX (s0:ah):∀(k fu:Nat) (s:ah) (a:aj) (g:List aF) (r:List av),SG s a->s.aH=s0.aH->s.aZ=s0.aZ->s.ag=s0.ag->s.aV=s0.aV->k<=2->k<fu->r.length+k<=1000->
 iter (uj s0) fu ((2:Int)-(k:Nat),⟨s,a,g,r⟩)=some ⟨(gp k s a r).1,(gp k s a r).2.1,g,(gp k s a r).2.2⟩
 |0,fu,s,a,g,r,h,c1,c2,c3,c4,h1,h2,h3=>by
  cases fu with
  |zero=>omega
  |succ fu=>rw[iter];simp[uj,gp]
 |k+1,fu,s,a,g,r,h,c1,c2,c3,c4,h1,h2,h3=>by
  cases fu with
  |zero=>omega
  |succ fu=>
   have hlt:ltB ((2:Int)-((k+1:Nat):Int)) 2=true:=ltB_t.2 oaa
   have hc:(bif leB s.ax.bE (s0.aH.length:Int) then some (ltB (s.ax.aC.length:Int) 8) else some false)=some (leB s.ax.bE (s.aH.length:Int)&&ltB (s.ax.aC.length:Int) 8):=by
    rw[<-c1]
    cases leB s.ax.bE (s.aH.length:Int)<;>rfl
   rw[iter]
   simp only[uj,hlt,hc,gp,au]
   cases e:rm s with
   |none=>rw[Fh h.sp e];rfl
   |some x=>
    obtain⟨hm,hx,_,hn,hl,hb⟩:=nn h.sp e
    have hcc:(leB s.ax.bE (s.aH.length:Int)&&ltB (s.ax.aC.length:Int) 8)=true:=by rw[leB_t.2 hn,ltB_t.2 oaa];rfl
    have he:=ve h (n:=(x.a9.length:Int)) oaa
    have hsl:=h.sp.sl
    have hnn:=h.sp.win.n
    rw[c1] at hx
    simp only[hcc,hx,TQ h.sp h.mo (n:=(x.a9.length:Int)) oaa,UT he.sp.win he.sp.q (n:=(x.a9.length:Int)) oaa,au]
    cases hq:ltB 0 (mn (dh s a (x.a9.length:Int)).1 (x.a9.length:Int))
    .obtain⟨q,hk⟩:=nz s a (x.a9.length:Int)
     have e2:rm (dh s a (x.a9.length:Int)).1=some x:=by rw[hk];exact e
     have hg:=BB he e2 hq
     have hw:(dh s a (x.a9.length:Int)).1.ax=s.ax:=by rw[hk]
     have hww:=he.sp.win
     have d1:(dh s a (x.a9.length:Int)).1.aZ=s0.aZ:=by rw[hk];exact c2
     have d2:(dh s a (x.a9.length:Int)).1.ag=s0.ag:=by rw[hk];exact c3
     have d3:(dh s a (x.a9.length:Int)).1.aV=s0.aV:=by rw[hk];exact c4
     simp only[send_s hww (b:=x.a9) (by rw[hw];omega) (by rw[hw];omega) hb,yE,NN (x:=⟨(dh s a (x.a9.length:Int)).1.ax.bE,x.a9⟩) (by rw[hw];simp only;omega) (by rw[hw];simp only;omega) (h.b1 x hm) (by simp only;omega),<-d1,<-d2,<-d3,cz (by_:=64) (n:=(r++[iH (dh s a (x.a9.length:Int)).1.aZ (dh s a (x.a9.length:Int)).1.ag (dh s a (x.a9.length:Int)).1.aV ⟨(dh s a (x.a9.length:Int)).1.ax.bE,x.a9⟩]).length) oaa (by simp;omega),bP (n:=(2:Int)-((k+1:Nat):Int)+1) oaa,au]
     rw[show(2:Int)-((k+1:Nat):Int)+1=2-(k:Nat) by omega]
     exact FX s0 k fu _ _ _ _ hg (by simp only;rw[hk];exact c1) d1 d2 d3 oaa oaa (by simp;omega)
    rfl
theorem RK (h:SG s a) (hs:s.bp=1):Ba s a=some ⟨(gp 2 s a []).1,(gp 2 s a []).2.1,[],(gp 2 s a []).2.2⟩:=by
 have:=FW 2 FU s a [] h oaa (by have:=gZ;omega) (by simp)
 rw[show(2:Int)-((2:Nat):Int)=0 by omega] at this
 simp only[Ba,wH h.sp.ok,BX h.mo.acc.ok,CA h.sp.ok,(vC h.sp.ok).2 h.sp,eqB_t.2 hs,this,au]
theorem RL (h:SG s a) (hs:s.bp=1):yx s a=some ⟨(gp 2 s a []).1,(gp 2 s a []).2.1,[],(gp 2 s a []).2.2⟩:=by
 have:=FX s 2 FU s a [] [] h rfl rfl rfl rfl oaa (by have:=gZ;omega) (by simp)
 rw[show(2:Int)-((2:Nat):Int)=0 by omega] at this
 have hz:({ci with aU:=s,eu:=a}:bO)=⟨s,a,[],[]⟩:=rfl
 simp only[yx,tl,yC,qZ h.sp.ok,D2 h.mo.acc.ok,CB h.sp.ok,(vC h.sp.ok).2 h.sp,eqB_t.2 hs,hz,this,au]
theorem L3:∀(k:Nat) (s:ah) (a:aj) (r:List av),SG s a->SG (gp k s a r).1 (gp k s a r).2.1
 |0,s,a,r,h=>h
 |k+1,s,a,r,h=>by
  rw[gp]
  cases e:rm s with
  |none=>exact h
  |some x=>
   obtain⟨hm,hx,_,hn,hl,hb⟩:=nn h.sp e
   have he:=ve h (n:=(x.a9.length:Int)) oaa
   simp only
   cases hq:ltB 0 (mn (dh s a (x.a9.length:Int)).1 (x.a9.length:Int))
   .obtain⟨q,hk⟩:=nz s a (x.a9.length:Int)
    exact L3 k _ _ _ (BB he (by rw[hk];exact e) hq)
   exact he
theorem Ez (xs:List α):(xs.filter λ_=>true)=xs:=List.filter_eq_self.2 (by simp)
def xv (s:ah):List av:=bif eqB s.bp 1 then(s.ax.aC.take 2).map λx=>iH s.aZ s.ag s.aV x else []
theorem Oh (h:WOK s.ax) (hx:x∈s.ax.aC):1<=x.cW/\x.cW<s.ax.bE/\x.cW<=100000/\x.a9.length<=60:=by
 obtain⟨k,hk⟩:=aal hx
 have hl:=(aaa.1 hk).1
 have:=h.u k x hk
 have h1:=h.f
 have h2:=h.n
 omega
theorem WV (h:SG s a):qr s=some (xv s):=by
 simp only[qr,xv]
 cases eqB s.bp 1
 .rfl
 have hm:kw 2 (s.ax.aC.length:Int)=(((min 2 s.ax.aC.length:Nat)):Int):=by unfold kw;split<;>omega
 have hs:eF s.ax.aC 0 (((min 2 s.ax.aC.length:Nat)):Int)=true:=by simp[eF];omega
 have ht:s.ax.aC.take (min 2 s.ax.aC.length)=s.ax.aC.take 2:=by
  rcases Nat.le_total 2 s.ax.aC.length with h|h
  .simp_all
  grind
 have hrun:=eJ (step:=ly s (((min 2 s.ax.aC.length:Nat)):Int)) (s.ax.aC.take 2) (λi r=>((i:Int),r)) (sP 64 (λ_=>true) (λx=>iH s.aZ s.ag s.aV x)) some (by simp;omega)
  (λi x r hx hi=>by
   have hxm:x∈s.ax.aC:=aas (aab hx)
   have hu:=Oh h.sp.win hxm
   simp only[ly,abN,ht,cA hi,bu,hx,VO (x:=x) oaa oaa (h.b2 x hxm) oaa,nP (show i<9223372036854775807 by grind),sP,au]
   simp_all) (λr=>by simp[ly,ht]) ([]:List av)
 rw[tJ oaa _ _ _ _ (by simp;omega)] at hrun
 have hrun:iter (ly s (((min 2 s.ax.aC.length:Nat)):Int)) FU (0,[])=_:=hrun
 simp only[Pm,hm,hs,hrun,abb,Ez,au]
theorem WW (h:SG s a):nK s=some (xv s):=by
 have key:∀(n:Nat) (fu k:Nat) (r:List av),n=(s.ax.aC.take 2).length-k->k<=(s.ax.aC.take 2).length->n<fu->r.length+n<=100->eqB s.bp 1=true->
  iter (jL s) fu ((k:Int),r)=some (r++((s.ax.aC.take 2).drop k).map λx=>iH s.aZ s.ag s.aV x):=by
  intro n
  have hle:(s.ax.aC.take 2).length=min 2 s.ax.aC.length:=by simp
  induction n with
  |zero=>
   intro fu k r hn hk hf hr hs
   cases fu with
   |zero=>omega
   |succ fu=>
    have hk':k=(s.ax.aC.take 2).length:=by omega
    have hc:(bif ltB (k:Int) (s.ax.aC.length:Int) then(bif ltB (k:Int) 2 then some (eqB s.bp 1) else some false) else some false)=some false:=by
     by_cases h2:k<s.ax.aC.length
     .rw[cA h2,ltB_f.2 (show(2:Int)<=k by omega)];rfl
     rw[ltB_f.2 (show(s.ax.aC.length:Int)<=k by omega)];rfl
    rw[iter]
    simp only[jL,hc,au]
    simp_all
  |succ n ih=>
   intro fu k r hn hk hf hr hs
   cases fu with
   |zero=>omega
   |succ fu=>
    have hlt:k<(s.ax.aC.take 2).length:=by omega
    have hc:(bif ltB (k:Int) (s.ax.aC.length:Int) then(bif ltB (k:Int) 2 then some (eqB s.bp 1) else some false) else some false)=some true:=by
     rw[cA (show k<s.ax.aC.length by omega),ltB_t.2 (show(k:Int)<2 by omega),hs];rfl
    obtain⟨x,hx⟩:∃x,s.ax.aC[k]?=some x:=⟨_,v0 (show k<s.ax.aC.length by omega)⟩
    have hxm:=aab hx
    have hu:=Oh h.sp.win hxm
    have hd:(s.ax.aC.take 2).drop k=x::(s.ax.aC.take 2).drop (k+1):=by
     rw[aaX hlt];congr 1
     have:=(aaa.1 hx).2
     simpa using this
    rw[iter]
    simp only[jL,hc,bu,hx,yE,NN (x:=x) oaa oaa (h.b2 x hxm) oaa,cz (by_:=64) (n:=(r++[iH s.aZ s.ag s.aV x]).length) oaa (by simp;omega),WRs (k:=k),au]
    rw[ih fu (k+1) _ oaa oaa oaa (by simp;omega) hs,hd]
    simp
 rw[nK,xv]
 cases hs:eqB s.bp 1
 .have h0:iter (jL s) FU (0,[])=some []:=by
   have:FU=(FU-1)+1:=by have:=gZ;omega
   rw[this,iter]
   have hc:(bif ltB 0 (s.ax.aC.length:Int) then(bif ltB 0 2 then some (eqB s.bp 1) else some false) else some false)=some false:=by
    rw[hs];cases ltB 0 (s.ax.aC.length:Int)<;>cases ltB 0 2<;>rfl
   simp only[jL,hc,au]
  rw[h0];rfl
 have:=key _ FU 0 [] rfl oaa (by have:=gZ;simp;omega) (by simp;omega) hs
 simp_all
def tG (m:aS) (a:Int):List Int:=(m.bb.zipIdx.filter λy=>eqB y.1.fZ a).map λy=>(y.2:Int)
def SW (m:aS):List Int:=(f5 m.bb.length).map λ(k:Nat)=>(k:Int)
def CX (m:aS) (a t:Int):List Int:=bif eqB t 1&&ltB 0 (((tG m a).length:Nat):Int) then tG m a else bif inR t 1 4 then SW m else []
theorem Qp {xs:List α} {y:α×Nat} (h:xs.zipIdx[k]?=some y):xs[k]?=some y.1/\y.2=k:=by
 grind
theorem Tb (h:m.bb.length<=1000) (a:Int):rP m a=some (tG m a):=by
 have hrun:=eJ (step:=kz m a) m.bb.zipIdx (λi r=>((i:Int),r)) (sP 8 (λy=>eqB y.1.fZ a) (λy=>(y.2:Int))) some (by simp;omega)
  (λi y r hy hi=>by
   obtain⟨hx,e⟩:=Qp hy
   have hi:i<m.bb.length:=by simpa using hi
   simp only[kz,cA hi,bu,hx,WRs (k:=i),sP,e,au]
   cases eqB y.1.fZ a
   .rfl
   cases da 8 (r++[(i:Int)]).length<;>rfl) (λr=>by simp[kz]) ([]:List Int)
 rw[tJ oaa _ _ _ _ (by simp;omega)] at hrun
 rw[rP,show iter (kz m a) FU (0,[])=_ from hrun]
 rfl
theorem Zy (h:m.bb.length<=1000) (a:Int):wb m a=some (tG m a):=Tb h a
theorem K6 (n:Nat):∀(v:List Int),v.length=n->(∀k:Nat,k<n->v[k]?=some (k:Int))->v=(f5 n).map λ(k:Nat)=>(k:Int):=by
 intro v hv h
 apply abS
 grind
theorem YQ {L:Int×List Int->Option (cr (Int×List Int) (List Int))} (n:Nat) (hn:n<=1000)
 (hL:∀(k:Nat) (v:List Int),L ((k:Int),v)=bif ltB (k:Int) (n:Int) then(abJ (ix v (k:Int)) λ_=>some (.next (WR ((k:Int)+1),v.set ((k:Int)).toNat (k:Int)))) else some (.done v)):
 iter L FU (0,aac n 0)=some ((f5 n).map λ(k:Nat)=>(k:Int)):=by
 have:Wp (iter L FU (0,aac n 0)) (λr=>r=(f5 n).map λ(k:Nat)=>(k:Int)):=by
  refine Wp.iterF (λs=>∃i:Nat,i<=n/\s.1=(i:Int)/\s.2.length=n/\∀j:Nat,j<i->s.2[j]?=some (j:Int)) (λs=>((n:Int)-s.1).toNat) ⟨0,by omega,rfl,by simp,by omega⟩ (by simp;omega) ?_
  rintro⟨v2,v3⟩ ⟨i,hi,rfl,h3,h4⟩
  simp only at h3 h4
  rw[hL]
  refine Wp.cond (λhlt=>?_) (λhlt=>?_)
  .have hlt:=mu hlt
   refine Wp.ix oaa oaa λx hx hxi=>Wp.some ?_
   rw[bP oaa]
   refine⟨⟨i+1,by omega,by simp,by simp_all,λj hj=>?_⟩,by omega⟩
   grind
  have hlt:=qz hlt
  exact Wp.some (K6 n v3 h3 λk hk=>h4 k oaa)
 obtain⟨r,hr,rfl⟩:=this.ex
 exact hr
theorem X0 (h:m.bb.length<=1000) (a t:Int):rC m a t=some (CX m a t):=by
 have hmk:pA 8 (m.bb.length:Int) (m.bb.length:Int)=true:=hP oaa oaa
 have hr1:=YQ (L:=qT m) m.bb.length h (λk v=>by simp only[qT,acr,abN])
 have hr2:=YQ (L:=qU m) m.bb.length h (λk v=>by simp only[qU,acr,abN])
 simp only[rC,gK,Zy h,hmk,abN,hr1,hr2,CX,SW,au]
 cases h1:eqB t 1
 .grind
 have h1:=qi h1
 subst h1
 rw[show inR 1 1 4=true from by simp[inR,leB]]
 grind
theorem X1 (h:m.bb.length<=1000) (a t:Int):rR m a t=some (CX m a t):=by
 simp only[rR,Tb h,abM,CX,SW]
 cases hb:inR t 1 4
 .have h0:iter (iM m t) FU (0,[])=some []:=by
   have:FU=(FU-1)+1:=by have:=gZ;omega
   rw[this,iter]
   simp only[iM,fK,hb,abM]
   cases ltB 0 (m.bb.length:Int)<;>rfl
  grind
 have hrun:=eJ (step:=iM m t) m.bb.zipIdx (λi r=>((i:Int),r)) (sP 8 (λ_=>true) (λy=>(y.2:Int))) some (by simp;omega)
  (λi y r hy hi=>by
   obtain⟨hx,e⟩:=Qp hy
   have hi:i<m.bb.length:=by simpa using hi
   simp only[iM,cA hi,fK,hb,WRs (k:=i),sP,e,au]
   simp_all) (λr=>by simp[iM]) ([]:List Int)
 rw[tJ oaa _ _ _ _ (by simp;omega)] at hrun
 have hall:(m.bb.zipIdx.filter λ_=>true).map (λy:fc×Nat=>(y.2:Int))=(f5 m.bb.length).map λ(k:Nat)=>(k:Int):=by
  rw[Ez]
  refine K6 _ _ (by simp) λk hk=>?_
  simp[List.getElem?_zipIdx,v0 hk]
 grind
def xk (p:cG) (m:aS):cG×List Int:=
 bif ltB 0 p.fo then({p with fo:=p.fo-1},[]) else
  let t:=bif ltB p.fm 4 then p.fm+1 else 1
  (⟨p.fZ,t,3⟩,CX m p.fZ t)
structure POK (p:cG):Prop where
 a:0<=p.fm/\p.fm<=4
 w:0<=p.fo/\p.fo<=3
theorem YC (hp:POK p) (h:m.bb.length<=1000):ul p m=some (xk p m):=by
 have h1:=hp.a
 have h2:=hp.w
 simp only[ul,X1 h,abM,xk,bP (n:=p.fo-1) oaa,bP (n:=p.fm+1) oaa,B5]
theorem YB (hp:POK p) (h:m.bb.length<=1000):tY p m=some (xk p m):=by
 have h1:=hp.a
 have h2:=hp.w
 simp only[tY,X0 h,abM,xk,bP (n:=p.fo-1) oaa,bP (n:=p.fm+1) oaa,B5]
def mr (m:aS) (c:Int):Int:=bif eN m c then(match m.bb[c.toNat]? with|some x=>x.fZ|none=>0) else 0
def LA (c:Int):aF:={d9 with a8:=7,bh:=c}
def FE (s:ah) (a:aj) (m:aS):bO:=
 let r:=xk {s.ga with fZ:=mr m s.bh} m
 ⟨{s with ga:=r.1},a,r.2.map LA,[]⟩
theorem HK {L:Int×List aF->Option (cr (Int×List aF) (List aF))} (xs:List Int) (hl:xs.length<=10000)
 (hL:∀(v:Int) (r:List aF),L (v,r)=bif ltB v (xs.length:Int) then(abJ (ix xs v) λx10=>bif da 88 (r++[{d9 with a8:=7,bh:=x10}]).length then(some (.next (WR (v+1),(r++[{d9 with a8:=7,bh:=x10}])))) else none) else(some (.done r))):
 iter L FU (0,[])=some (xs.map LA):=by
 have hrun:=eJ (step:=L) xs (λi r=>((i:Int),r)) (sP 88 (λ_=>true) LA) some oaa
  (λi x r hx hi=>by
   simp only[hL,cA hi,bu,hx,WRs (k:=i),sP,LA,au]
   simp_all) (λr=>by simp[hL]) ([]:List aF)
 rw[tJ oaa _ _ _ _ (by simp;omega)] at hrun
 refine Eq.trans (show iter L FU (0,[])=_ from hrun) (by rw[Ez,abb])
theorem CI (h:m.bb.length<=1000):(xk p m).2.length<=1000:=by
 have hc:(tG m p.fZ).length<=1000:=by
  simp only[tG,List.length_map]
  have:=acf (λy:fc×Nat=>eqB y.1.fZ p.fZ) m.bb.zipIdx
  simp at this;omega
 rw[xk];cases ltB 0 p.fo
 .simp only[cond_false,CX]
  cases eqB (bif ltB p.fm 4 then p.fm+1 else 1) 1&&ltB 0 (((tG m p.fZ).length:Nat):Int)
  .cases inR (bif ltB p.fm 4 then p.fm+1 else 1) 1 4<;>simp[SW];omega
  exact hc
 simp
theorem page_s (h:SP s) (ha:qf a) (hp:POK s.ga) (hm:1<=m.bb.length/\m.bb.length<=1000):yD s a m=some (FE s a m):=by
 have hz:({ci with aU:=s,eu:=a}:bO)=⟨s,a,[],[]⟩:=rfl
 have hin:(bif eN m s.bh then(abJ (ix m.bb s.bh) λx4=>some x4.fZ) else some 0)=some (mr m s.bh):=by
  rw[mr]
  cases hc:eN m s.bh
  .rfl
  obtain⟨d,_,h1,h2⟩:=AT hc
  simp_all
 have hpp:POK {s.ga with fZ:=mr m s.bh}:=⟨hp.a,hp.w⟩
 have hr:=HK (L:=Da (xk {s.ga with fZ:=mr m s.bh} m)) _ (by have:=CI (p:={s.ga with fZ:=mr m s.bh}) hm.2;omega) (λv r=>rfl)
 simp only[yD,tl,qZ h.ok,D2 ha.ok,fK,abM,bP (n:=(m.bb.length:Int)-1) oaa,hz]
 rw[show inR s.bh 0 ((m.bb.length:Int)-1)=eN m s.bh from rfl,hin]
 simp only[abM,YC hpp hm.2,hr,FE]
theorem page_i (hp:POK s.ga) (hm:1<=m.bb.length/\m.bb.length<=1000):t9 s a m=some (FE s a m):=by
 have hin:(bif eN m s.bh then(abJ (DC m s.bh) λr3=>some r3) else some 0)=some (mr m s.bh):=by
  rw[mr]
  cases hc:eN m s.bh
  .rfl
  obtain⟨d,_,h1,h2⟩:=AT hc
  simp only[DC,vX (show m.bb.length<=1048576 by omega),hc,h1,h2,au]
 have hpp:POK {s.ga with fZ:=mr m s.bh}:=⟨hp.a,hp.w⟩
 have hr:=HK (L:=xZ (xk {s.ga with fZ:=mr m s.bh} m)) _ (by have:=CI (p:={s.ga with fZ:=mr m s.bh}) hm.2;omega) (λv r=>rfl)
 simp only[t9,vX (show m.bb.length<=1048576 by omega),hin,abM,YB hpp hm.2,hr,FE]
def fH (s:ah) (a:aj):aj×cP:=bif leB s.gT.eD s.b9.em then lI a s.b9 else(a,s.b9)
def De (s:ah):Bool:=ltB 0 (s.ax.aC.length:Int)
def iV (s:ah):Int:=bif De s then kw 5 (s.dT+1) else 0
def mq (s:ah):List av×Int:=bif De s&&ltB 0 s.dP then([],s.dP-1) else bif De s then(xv s,3) else([],s.dP)
def LY (s:ah) (a:aj) (m:aS):bO:=
 let g:=fH s a
 let t:=gp 2 {s with dT:=iV s,dP:=(mq s).2,b9:=g.2} g.1 []
 ⟨t.1,t.2.1,[],(mq s).1++t.2.2⟩
def nL (s:ah) (a:aj) (m:aS):bO:=
 bif !eqB s.bp 1 then⟨s,a,[],[]⟩ else bif ltB 4 (iV s) then FE {s with dT:=iV s,b9:=(fH s a).2} (fH s a).1 m else LY s a m
theorem ED (h:SG s a):MOK (fH s a).1 (fH s a).2/\(fH s a).2.cV-(fH s a).2.em=s.b9.cV-s.b9.em/\(fH s a).2.aJ=s.b9.aJ/\(fH s a).1.ey+(fH s a).2.em=a.ey+s.b9.em/\(fH s a).1.gU=a.gU/\(fH s a).1.bY=a.bY:=by
 rw[fH]
 cases leB s.gT.eD s.b9.em
 .exact⟨h.mo,rfl,rfl,rfl,rfl,rfl⟩
 obtain⟨h1,h2,h3,h4⟩:=Rr h.mo
 simp only[cond_true]
 exact⟨h1,by simp[lI],rfl,by rw[h2];simp[lI],h3,h4⟩
theorem yo (h:SP s):0<=iV s/\iV s<=5:=by
 have:=h.qu
 rw[iV];cases De s
 .simp
 simp only[cond_true,kw];split<;>omega
theorem yq (h:SP s):0<=(mq s).2/\(mq s).2<=3:=by
 have:=h.rt
 rw[mq];cases De s
 .exact this
 cases hb:ltB 0 s.dP
 .simp
 have:=mu hb
 simp;omega
theorem SG.upd (h:SG s a) {q r:Int} (hq:0<=q/\q<=5) (hr:0<=r/\r<=3):SG {s with dT:=q,dP:=r,b9:=(fH s a).2} (fH s a).1:=by
 obtain⟨h1,h2,_⟩:=ED h
 have hp:=h.sp.pd
 exact⟨{h.sp with q:=h1.quo,qu:=hq,rt:=hr,pd:=by simp only;omega},h.b1,h.b2,h1⟩
theorem Qs (s:ah):(xv s).length<=2:=by
 rw[xv];cases eqB s.bp 1<;>simp;omega
theorem Cs (s:ah):(mq s).1.length<=2:=by
 have:=Qs s
 rw[mq];cases De s<;>cases ltB 0 s.dP<;>simp<;>omega
theorem zg:∀(k:Nat) (s:ah) (a:aj) (r:List av),(gp k s a r).2.2.length<=r.length+k
 |0,s,a,r=>by simp[gp]
 |k+1,s,a,r=>by
  rw[gp]
  cases rm s with
  |none=>simp
  |some x=>
   simp only
   cases ltB 0 (mn (dh s a (x.a9.length:Int)).1 (x.a9.length:Int))
   .have:=zg k {(dh s a (x.a9.length:Int)).1 with ax:=pI (dh s a (x.a9.length:Int)).1.ax x.a9} (dh s a (x.a9.length:Int)).2 (r++[iH (dh s a (x.a9.length:Int)).1.aZ (dh s a (x.a9.length:Int)).1.ag (dh s a (x.a9.length:Int)).1.aV ⟨(dh s a (x.a9.length:Int)).1.ax.bE,x.a9⟩])
    simp only[aaz,acg] at this
    simp only[cond_false];omega
   simp only[cond_true];omega
theorem YE (h:SG s a) (hm:1<=m.bb.length/\m.bb.length<=1000) (hp:POK s.ga):rW s a m=some (nL s a m):=by
 have hz:({ci with aU:=s,eu:=a}:bO)=⟨s,a,[],[]⟩:=rfl
 have hqu:=h.sp.qu
 have hrt:=h.sp.rt
 simp only[rW,yC,tl,qZ h.sp.ok,D2 h.mo.acc.ok,CB h.sp.ok,(vC h.sp.ok).2 h.sp,abM,hz,nL]
 cases hs:eqB s.bp 1
 .rfl
 have hst:=qi hs
 have hq:=yo h.sp
 have hr:=yq h.sp
 have hqq:∀(k:Int->Option bO),(abJ (bif ltB 0 (s.ax.aC.length:Int) then(abJ (FD 5 (WR (s.dT+1))) λr9=>some r9) else some 0) k)=k (iV s):=λk=>by
  rw[iV,De,bP (n:=s.dT+1) oaa,Lr]
  cases ltB 0 (s.ax.aC.length:Int)<;>rfl
 have hrr:∀(u:cP) (k:List av×Int->Option bO),SG {s with dT:=iV s,dP:=3,b9:=u} (fH s a).1->
  (abJ (bif ltB 0 (s.ax.aC.length:Int) then some (ltB 0 s.dP) else some false) λ(v11:Bool)=>abJ (bif v11 then(some (([]:List av),WR (s.dP-1))) else(abJ (bif ltB 0 (s.ax.aC.length:Int) then(abJ (nK {s with dT:=iV s,dP:=3,b9:=u}) λr16=>some (r16,3)) else(some (([]:List av),s.dP))) λx=>some (x.1,x.2))) k)=k ((mq s).1,(mq s).2):=λu k hu=>by
  rw[mq,De,bP (n:=s.dP-1) oaa,WW hu]
  cases ltB 0 (s.ax.aC.length:Int)<;>cases ltB 0 s.dP<;>rfl
 have hl:da 64 ((mq s).1++(gp 2 {s with dT:=iV s,dP:=(mq s).2,b9:=(fH s a).2} (fH s a).1 []).2.2).length=true:=by
  have h1:=Cs s
  have h2:=zg 2 {s with dT:=iV s,dP:=(mq s).2,b9:=(fH s a).2} (fH s a).1 []
  simp only[abV] at h2
  exact cz oaa (by simp;omega)
 have hu:=h.upd hq (show(0:Int)<=3/\(3:Int)<=3 by omega)
 have hv:=h.upd hq hr
 have hw:=h.upd hq h.sp.rt
 have hpp:POK ({s with dT:=iV s,b9:=(fH s a).2}:ah).ga:=hp
 have e1:=page_s (s:={s with dT:=iV s,b9:=(fH s a).2}) hw.sp hw.mo.acc hpp hm
 have e2:=RL hv hst
 rw[fH] at hu e1 e2 hl
 simp only[au]
 rw[LY,fH]
 cases hg:leB s.gT.eD s.b9.em
 .rw[hg] at hu e1 e2 hl
  simp only[cond_false] at hu e1 e2 hl ⊢
  have hu':=hrr s.b9
  rw[fH,hg] at hu'
  rw[hqq]
  cases ltB 4 (iV s)
  .simp only[cond_false]
   rw[hu' _ hu]
   simp only[e2,hl,au]
  simp only[e1,au]
 rw[hg] at hu e1 e2 hl
 simp only[cond_true] at hu e1 e2 hl ⊢
 have hu':=hrr (lI a s.b9).2
 rw[fH,hg] at hu'
 simp only[Vv h.mo,abM]
 rw[hqq]
 cases ltB 4 (iV s)
 .simp only[cond_false]
  rw[hu' _ hu]
  simp only[e2,hl,au]
 simp only[e1,au]
theorem Q3 (x y:Int):kw x y=kw y x:=by unfold kw;split<;>split<;>omega
theorem YD (h:SG s a) (hm:1<=m.bb.length/\m.bb.length<=1000) (hp:POK s.ga):rG s a m=some (nL s a m):=by
 have hz:({ci with aU:=s,eu:=a}:bO)=⟨s,a,[],[]⟩:=rfl
 have hqu:=h.sp.qu
 have hrt:=h.sp.rt
 simp only[rG,wH h.sp.ok,BX h.mo.acc.ok,CA h.sp.ok,(vC h.sp.ok).2 h.sp,hz,nL,au]
 cases hs:eqB s.bp 1
 .rfl
 have hst:=qi hs
 have hq:=yo h.sp
 have hr:=yq h.sp
 have hu:=h.upd hq (show(0:Int)<=3/\(3:Int)<=3 by omega)
 have hv:=h.upd hq hr
 have hgr:(bif leB s.gT.eD s.b9.em then(abJ (ol a s.b9) λr14=>some ({s with b9:=r14.2},r14.1)) else some (s,a))=some ({s with b9:=(fH s a).2},(fH s a).1):=by
  rw[fH,Vu h.mo];cases leB s.gT.eD s.b9.em<;>rfl
 have hqq:(bif ltB 0 (s.ax.aC.length:Int) then(abJ (Nf (WR (s.dT+1)) 5) λr9=>some r9) else some 0)=some (iV s):=by
  rw[iV,De,bP (n:=s.dT+1) oaa,Pm,Q3]
  cases ltB 0 (s.ax.aC.length:Int)<;>rfl
 have hl:da 64 ((mq s).1++(gp 2 {s with dT:=iV s,dP:=(mq s).2,b9:=(fH s a).2} (fH s a).1 []).2.2).length=true:=by
  have h1:=Cs s
  have h2:=zg 2 {s with dT:=iV s,dP:=(mq s).2,b9:=(fH s a).2} (fH s a).1 []
  simp only[abV] at h2
  exact cz oaa (by simp;omega)
 have hpp:POK ({s with dT:=iV s,b9:=(fH s a).2}:ah).ga:=hp
 have e1:=page_i (s:={s with dT:=iV s,b9:=(fH s a).2}) (a:=(fH s a).1) hpp hm
 have e2:=RK hv hst
 simp only[hgr,hqq,au]
 cases ltB 4 (iV s)
 .simp only[cond_false,LY]
  have hrr2:∀(k:List av×Int->Option bO),(abJ (bif ltB 0 (s.ax.aC.length:Int) then some (ltB 0 s.dP) else some false) λ(v11:Bool)=>abJ (bif v11 then(some (([]:List av),WR (s.dP-1))) else(abJ (bif ltB 0 (s.ax.aC.length:Int) then(abJ (qr {s with dT:=iV s,dP:=3,b9:=(fH s a).2}) λr16=>some (r16,3)) else(some (([]:List av),s.dP))) λx=>some (x.1,x.2))) k)=k (mq s):=λk=>by
   rw[mq,De,bP (n:=s.dP-1) oaa,WV hu]
   cases ltB 0 (s.ax.aC.length:Int)<;>cases ltB 0 s.dP<;>rfl
  rw[hrr2]
  simp only[e2,hl,au]
 simp only[e1,au]
 rfl
structure RP (r:aP):Prop where
 ok:fa r
 v:pb r=true
 b1:∀x∈r.aK,okB x.a9
 b2:∀p∈r.be,okB p.a9
structure DP (d:aG):Prop where
 card:uH d.dr=true
 st:0<=d.bp/\d.bp<=3
 ce:0<=d.bh/\d.bh<=5
 gn:0<=d.ag/\d.ag<=999999
 ep:0<=d.aV/\d.aV<=999999
 rk:0<=d.aZ/\d.aZ<=2147483646
 k:2<=d.bp->ra d.aZ=true
 wt:0<=d.fo/\d.fo<=3
 rc:RP d.bW
theorem DP.ok {d:aG} (h:DP d):eg d:=h.rc.ok
theorem DP.v {d:aG} (h:DP d):li d=true:=by
 have:=h.st
 simp only[li,hV,bQ]
 refine⟨h.card,h.st,h.ce,h.gn,h.ep,h.rk,?_,h.wt,h.rc.v⟩
 cases e:inR d.bp 2 3
 .rfl
 rw[bQ] at e;rw[h.k e.1];rfl
theorem DP.of {d:aG} (h:li d=true) (ok:eg d) (b1:∀x∈d.bW.aK,okB x.a9) (b2:∀p∈d.bW.be,okB p.a9):DP d:=by
 simp only[li,hV,bQ] at h
 obtain⟨h1,h2,h3,h4,h5,h6,h7,h8,h9⟩:=h
 refine⟨h1,h2,h3,h4,h5,h6,λe=>?_,h8,⟨ok,h9,b1,b2⟩⟩
 rw[bQ.2 ⟨e,h2.2⟩] at h7;simpa using h7
theorem En {d:aG} (h:DP d):DP (rf d).bm:=by
 have hw:=h.wt
 rw[rf]
 cases hb:ltB 0 d.fo
 .cases eqB d.bp 1
  .cases eqB d.bp 2&&!d.cq
   .exact h
   exact {h with wt:=⟨by simp,by simp⟩}
  exact {h with wt:=⟨by simp,by simp⟩}
 have:=mu hb
 exact {h with wt:=⟨by simp only[cond_true];omega,by simp only[cond_true];omega⟩}
theorem ZH {d:aG} (h:DP d):DP (dOn d).bm:=by
 rw[dOn]
 cases eqB d.bp 0
 .exact h
 exact {h with st:=⟨by simp,by simp⟩,wt:=⟨by simp,by simp⟩,k:=λe=>by simp at e}
theorem IE {d:aG} (h:DP d):DP (xn d).bm:={h with wt:=⟨by simp[xn],by simp[xn]⟩}
theorem KL {d:aG} (h:DP d) (c:Int):DP (sK d c).bm:=by
 have he:=h.ep
 rw[sK]
 cases h1:eqB c d.bh||!inR c 0 5
 .simp only[aam,abU] at h1
  have hc:=bQ.1 h1.2
  cases h2:eqB d.bp 2&&ltB d.aV 999999
  .exact {h with ce:=hc}
  rw[hV] at h2
  have:=mu h2.2
  exact IE {h with ce:=hc,ep:=⟨by simp only;omega,by simp only;omega⟩}
 exact h
theorem Tx {d:aG} (h:DP d):DP (vd d):=by
 rw[vd]
 cases e:eqB d.bp 2
 .exact h
 have e:=qi e
 exact {h with st:=⟨by simp,by simp⟩,k:=λ_=>h.k (by omega)}
theorem Qk {k r q:Int} (h0:0<=q) (h1:q<=999999):1<=(vec k r q).eX/\(vec k r q).eX<=2147483646:=by
 rw[vec,bQ.2 ⟨h0,h1⟩];exact XI _ _
theorem y5 {m:aF} (h:lH m=true):(1<=m.a8/\m.a8<=8)/\(0<=m.bh/\m.bh<=5)/\(0<=m.ag/\m.ag<=999999)/\(0<=m.aV/\m.aV<=999999)/\0<=m.bV/\m.bV<=1000000000000:=by
 simp only[lH,hV,bQ] at h;exact h
theorem W6 {d:aG} (h:DP d) {m:aF} (hm:lH m=true) (h1:d.bp=1):DP (Gu d m).bm:=by
 obtain⟨_,_,hg,_⟩:=y5 hm
 have hu:=Oi d.dr.eX m.cd.ew m.cd.f4
 have hk:=Qk (k:=d.dr.eX) (r:=m.cd.ew) hu.1 hu.2
 rw[Gu]
 cases eqB (jS d.dr.eX d.dr.di m.cd) 0
 .exact h
 refine {h with card:=?_,gn:=hg,rk:=⟨by simp only[cond_true];omega,by simp only[cond_true];omega⟩,k:=λe=>by simp only[cond_true] at e;omega}
 have hc:=h.card
 simp only[uH,hV] at hc ⊢
 exact⟨hc.1,hc.2.1,bQ.2 hu⟩
theorem Xa {d:aG} (h:DP d) (m:aF):DP (Ab d m).bm:=by
 have he:=h.ep
 rw[Ab]
 cases h1:!lH m||(!eqB m.bh d.bh||eqB d.bp 0)
 .have hm:lH m=true:=by revert h1;cases lH m<;>simp
  obtain⟨_,_,hg,hep,_⟩:=y5 hm
  simp only[cond_false]
  cases h2:eqB m.a8 2&&eqB d.bp 1
  .simp only[cond_false]
   cases h4:eqB m.a8 4&&(eqB d.bp 1&&(ra d.aZ&&(eqB m.ag d.ag&&tx d.aZ m)))
   .simp only[cond_false]
    cases h6:eqB m.a8 6&&(eqB d.bp 2&&(eqB m.ag d.ag&&(eqB m.aV d.aV&&tx d.aZ m)))
    .simp only[cond_false]
     cases h7:eqB m.a8 7&&(eqB d.bp 3&&ltB d.aV 999999)
     .simp only[cond_false]
      cases h8:eqB m.a8 7&&eqB d.bp 2
      .exact h
      exact IE h
     simp only[hV] at h7
     have h3:=qi h7.2.1
     have:=mu h7.2.2
     exact IE {h with st:=⟨by simp,by simp⟩,ep:=⟨by simp only;omega,by simp only;omega⟩,k:=λ_=>h.k (by omega)}
    exact {h with}
   simp only[hV] at h4
   exact {h with st:=⟨by simp,by simp⟩,ep:=hep,k:=λ_=>h4.2.2.1}
  rw[hV] at h2
  exact W6 h hm (qi h2.2)
 exact h
theorem Ep:∀(xs:List ae) (n:Int) (dl:List bJ),∃t d,xs=t++d/\sL xs n dl=⟨n+t.length,d,dl++t.map λx=>⟨x.a9⟩⟩/\(∀(k:Nat) (x:ae),t[k]?=some x->x.cW=n+k)/\((∃y ys,d=y::ys/\(y.cW≠n+t.length\/24<=dl.length+t.length))\/d=[])/\(t≠[]->dl.length+t.length<=24)
 |[],n,dl=>⟨[],[],rfl,by simp[sL],by simp,.inr rfl,by simp⟩
 |x::xs,n,dl=>by
  rw[sL]
  by_cases h:x.cW=n/\dl.length<24
  .rw[if_pos h]
   obtain⟨t,d,e1,e2,e3,e4,e5⟩:=Ep xs (n+1) (dl++[⟨x.a9⟩])
   refine⟨x::t,d,by rw[e1];rfl,?_,λk y hy=>?_,?_,λ_=>?_⟩
   .rw[e2];simp;omega
   .cases k with
    |zero=>simp at hy;subst hy;simp;exact h.1
    |succ k=>have:=e3 k y (by simpa using hy);rw[this];omega
   .rcases e4 with⟨y,ys,e,h4⟩|e
    .left;refine⟨y,ys,e,?_⟩
     simp only[aaz,acg,aak,abV] at h4 ⊢
     rcases h4 with h4|h4
     .left;omega
     right;omega
    exact .inr e
   simp only[aak]
   by_cases ht:t=[]
   .subst ht;simp;omega
   have:=e5 ht;simp at this;omega
  rw[if_neg h]
  refine⟨[],x::xs,rfl,by simp,by simp,.inl ⟨x,xs,rfl,?_⟩,by simp⟩
  simp only[abV]
  by_cases hx:x.cW=n
  .right;have:¬dl.length<24:=λhl=>h ⟨hx,hl⟩;omega
  left;omega
structure RcV (r:aP):Prop where
 n:r.bE=(r.be.length:Int)+1
 l:r.be.length<=24
 d:∀p∈r.be,p.a9.length<=60
 pl:r.aK.length<=8
 pr:∀x∈r.aK,r.bE+1<=x.cW/\x.cW<=r.bE+7/\x.a9.length<=60
 po:r.aK.Pairwise λx y=>x.cW<y.cW
theorem Fx:pb r=true↔RcV r:=by
 constructor
 .intro h
  have hl:=sx h
  simp only[pb,hV,BS,aag,tL,ez] at h
  obtain⟨h1,h2,h3,h4,h5⟩:=h
  have hp:∀(k:Nat) (x:ae),r.aK[k]?=some x->(r.bE+1<=x.cW/\x.cW<=r.bE+7)/\jN ae.cW r.aK k x=true/\x.a9.length<=60:=λk x hx=>by
   have:=h5 k x hx
   simp only[Bq,hV,bQ,tL] at this
   rw[bP (n:=r.bE+1) oaa,bP (n:=r.bE+8) oaa,bP (n:=r.bE+8-1) oaa] at this
   exact⟨by omega,this.2⟩
  refine⟨hl.1,hl.2.1,h3,hl.2.2,λx hx=>?_,Hf λk x hx=>(hp k x hx).2.1⟩
  obtain⟨k,hk⟩:=aal hx
  have:=hp k x hk
  exact⟨this.1.1,this.1.2,this.2.2⟩
 rintro⟨h1,h2,h3,h4,h5,h6⟩
 simp only[pb,hV,BS,aag,tL,ez]
 refine⟨eqB_t.2 (by rw[bP oaa];exact h1),leB_t.2 oaa,h3,leB_t.2 oaa,λk x hx=>?_⟩
 have:=h5 x (aab hx)
 simp only[Bq,hV,bQ,tL]
 rw[bP (n:=r.bE+1) oaa,bP (n:=r.bE+8) oaa,bP (n:=r.bE+8-1) oaa]
 exact⟨by omega,DF h6 hx,this.2.2⟩
theorem OA {α:Type} {key:α->Int}:∀{xs:List α} {a b:Int},(xs.Pairwise λx y=>key x<key y)->(∀x∈xs,a<=key x/\key x<=b)->(xs.length:Int)<=max 0 (b-a+1)
 |[],a,b,_,_=>by simp;omega
 |x::xs,a,b,h,hr=>by
  have hx:=hr x (by simp)
  have ih:=OA (xs:=xs) (a:=key x+1) (b:=b) (abT.1 h).2 λy hy=>⟨by have:=(abT.1 h).1 y hy;omega,(hr y (by simp[hy])).2⟩
  simp only[aak];omega
theorem YU {x:ae}:∀{xs:List ae},(xs.Pairwise λa b=>a.cW<b.cW)->∀y∈xs.dropWhile (before x.cW),x.cW<=y.cW
 |[],_,y,hy=>by simp at hy
 |z::xs,h,y,hy=>by
  rw[acs] at hy
  cases hb:before x.cW z<;>rw[hb] at hy
  .have hz:=qz hb
   rcases aaf.1 hy with e|hy
   .subst e;exact hz
   have:=(abT.1 h).1 y hy;omega
  exact YU (abT.1 h).2 y hy
theorem Wd {α:Type} (p:α->Bool):∀(xs:List α) (y:α),y∈xs.takeWhile p->p y=true
 |[],y,h=>by simp at h
 |x::xs,y,h=>by
  rw[ab7] at h
  cases hp:p x<;>rw[hp] at h
  .simp at h
  rcases aaf.1 h with e|h
  .subst e;exact hp
  exact Wd p xs y h
theorem tw_lt {q:Int} {xs:List ae}:∀y∈xs.takeWhile (before q),y.cW<q:=λy hy=>mu (show ltB y.cW q=true from Wd (before q) xs y hy)
theorem Un {xs:List ae} (h:xs.Pairwise λa b=>a.cW<b.cW) (hn:∀y∈xs,y.cW≠x.cW):(qw x xs).Pairwise λa b=>a.cW<b.cW:=by
 have e:=ab9 (p:=before x.cW) (l:=xs)
 rw[<-e,abR] at h
 obtain⟨h1,h2,h3⟩:=h
 rw[qw,ab6,abR]
 refine⟨h1,abT.2 ⟨λy hy=>?_,h2⟩,λa ha b hb=>?_⟩
 .have hm:y∈xs:=ace _ hy
  have:=hn y hm
  have hge:x.cW<=y.cW:=by
   have hs:xs.Pairwise λa b=>a.cW<b.cW:=by rw[<-e,abR];exact⟨h1,h2,h3⟩
   exact YU hs y hy
  omega
 rcases aae.1 hb with hb|hb
 .simp at hb;subst hb;exact tw_lt a ha
 exact h3 a ha b hb
theorem Be {y:ae} {xs:List ae}:y∈qw x xs↔y=x\/y∈xs:=by
 rw[qw]
 constructor
 .intro h
  simp only[aae,abg] at h
  rcases h with(h|h)|h
  .exact .inr (acq _ h)
  .exact .inl h
  exact .inr (ace _ h)
 rintro(h|h)
 .simp[h]
 rw[<-ab9 (p:=before x.cW) (l:=xs)] at h
 simp only[aae,abg] at h ⊢
 rcases h with h|h
 .exact .inl (.inl h)
 exact .inr h
theorem Gg (h:RcV r) (hl:yc r x=false):
 ∃t d,qw x r.aK=t++d/\(∀(k:Nat) (y:ae),t[k]?=some y->y.cW=r.bE+k)/\(nN r x).bE=r.bE+t.length/\(nN r x).be=r.be++t.map (λy=>⟨y.a9⟩)/\RcV (nN r x)/\
  ((nN r x).aK=d\/(nN r x).aK=[])/\r.be.length+t.length<=24/\(x.cW=r.bE->t≠[]):=by
 obtain⟨t,d,e1,e2,e3,e4,e5⟩:=Ep (qw x r.aK) r.bE r.be
 have hl2:=hl
 simp only[yc,aam,abU] at hl
 obtain⟨l1,l2,l3,l4,l5⟩:=hl
 have l2:=qz l2
 rw[bQ] at l3
 have l5:=yd l5
 have hn:∀y∈r.aK,y.cW≠x.cW:=λy hy=>by
  rw[abA] at l4
  have:=l4 y hy
  simpa [eqB] using this
 have hasc:=Un h.po hn
 have hrng:∀y∈qw x r.aK,r.bE<=y.cW/\y.cW<=r.bE+7/\y.a9.length<=60:=λy hy=>by
  rcases Be.1 hy with rfl|hy
  .exact⟨l3.1,l3.2,by omega⟩
  have:=h.pr y hy;exact⟨by omega,by omega,this.2.2⟩
 have hlen:=OA (key:=ae.cW) hasc (a:=r.bE) (b:=r.bE+7) λy hy=>⟨(hrng y hy).1,(hrng y hy).2.1⟩
 have htl:r.be.length+t.length<=24:=by
  by_cases ht:t=[]
  .subst ht;have:=h.l;simp;omega
  exact e5 ht
 have hd:∀y∈d,r.bE+t.length<=y.cW:=λy hy=>by
  by_cases ht:t=[]
  .subst ht
   have:=(hrng y (by rw[e1];simp[hy])).1
   simp;omega
  obtain⟨k,hk⟩:∃k,t.length=k+1:=⟨t.length-1,by have:=List.length_pos_iff.2 ht;omega⟩
  obtain⟨z,hz⟩:∃z,t[k]?=some z:=⟨_,v0 (show k<t.length by omega)⟩
  have:=e3 k z hz
  rw[e1,abR] at hasc
  have:=hasc.2.2 z (aab hz) y hy
  omega
 have hdl:(r.be++t.map λy=>(⟨y.a9⟩:bJ)).length=r.be.length+t.length:=by simp
 have hdata:∀p∈r.be++t.map λy=>(⟨y.a9⟩:bJ),p.a9.length<=60:=λp hp=>by
  rcases aae.1 hp with hp|hp
  .exact h.d p hp
  obtain⟨y,hy,rfl⟩:=aba.1 hp
  exact(hrng y (by rw[e1];simp[hy])).2.2
 have hnx:=h.n
 have hsome:x.cW=r.bE->t≠[]:=λe ht=>by
  subst ht
  simp only[abb] at e1
  rcases e4 with⟨y,ys,e,h4⟩|e
  .simp only[abV] at h4
   have hy:y.cW<=x.cW:=by
    have hx:x∈d:=by rw[<-e1];exact Be.2 (.inl rfl)
    rw[e] at hx
    rcases aaf.1 hx with e'|hx
    .rw[e'];omega
    rw[e1,e] at hasc
    have:=(abT.1 hasc).1 x hx
    omega
   have:=(hrng y (by rw[e1,e];simp)).1
   rcases h4 with h4|h4<;>omega
  have:(qw x r.aK).length=0:=by rw[e1,e];rfl
  rw[xW] at this;omega
 refine⟨t,d,e1,e3,?_⟩
 rw[nN,hl2]
 simp only[cond_false,e2,hdl]
 cases h24:leB 24 ((r.be.length+t.length:Nat):Int)
 .have h24:=yd h24
  simp only[cond_false]
  refine⟨trivial,trivial,⟨by simp only[hdl];omega,by simp only[hdl];omega,hdata,?_,λy hy=>?_,?_⟩,.inl trivial,htl,hsome⟩
  .have:t.length+d.length=(qw x r.aK).length:=by rw[e1];simp
   simp only;omega
  .have h1:=hrng y (by rw[e1];simp[hy])
   have h2:=hd y hy
   refine⟨?_,by simp only;omega,h1.2.2⟩
   simp only
   rcases e4 with⟨z,zs,e,h4⟩|e
   .have hz:=hd z (by rw[e];simp)
    have hzn:z.cW≠r.bE+t.length:=by rcases h4 with h4|h4;exact h4;omega
    rw[e] at hy
    rcases aaf.1 hy with e'|hy'
    .rw[e'];omega
    rw[e1,e,abR] at hasc
    have:=(abT.1 hasc.2.1).1 y hy'
    omega
   rw[e] at hy;simp at hy
  rw[e1,abR] at hasc
  exact hasc.2.1
 have h24:=zu h24
 simp only[cond_true]
 exact⟨trivial,trivial,⟨by simp only[hdl];omega,by simp only[hdl];omega,hdata,by simp,by simp,.nil⟩,.inr trivial,htl,hsome⟩
theorem V6 (h:RP r) (hx:okB x.a9):RP (nN r x):=by
 cases hl:yc r x
 .have hv:=Fx.1 h.v
  obtain⟨t,d,e1,e3,e4,e5,e6,e7,e8,e9⟩:=Gg hv hl
  have hb:∀y∈t++d,okB y.a9:=λy hy=>by
   rw[<-e1] at hy
   rcases Be.1 hy with rfl|hy
   .exact hx
   exact h.b1 y hy
  refine⟨Mi h.ok x,Fx.2 e6,λy hy=>?_,λp hp=>?_⟩
  .rcases e7 with e|e<;>rw[e] at hy
   .exact hb y (by simp[hy])
   simp at hy
  rw[e5] at hp
  rcases aae.1 hp with hp|hp
  .exact h.b2 p hp
  obtain⟨y,hy,rfl⟩:=aba.1 hp
  exact hb y (by simp[hy])
 rw[nN,hl];exact h
theorem U5 (root g e:Int) (x:av):okB (ro root g e x).1.a9:=by
 rw[ro];split
 .exact Xd _ _
 intro y hy;simp[bT] at hy
theorem W8 {d:aG} (h:DP d) (x:av):DP (Aa d x).bm:=by
 simp only[Aa]
 cases eqB d.bp 2&&(ro d.aZ d.ag d.aV x).2
 .exact h
 exact {h with rc:=V6 h.rc (U5 _ _ _ _)}
theorem Wx:ki et=true:=by decide+kernel
theorem Hu {k:Int}:∀{xs:List ae} {f:Int},(∀(i:Nat) (x:ae),xs[i]?=some x->x.cW=f+i)->(xs.filter λx=>leB k x.cW)=xs.drop (k-f).toNat
 |[],f,_=>by simp
 |x::xs,f,h=>by
  have hx:x.cW=f:=by have:=h 0 x rfl;simpa using this
  have ih:=Hu (k:=k) (xs:=xs) (f:=f+1) λi y hy=>by have:=h (i+1) y (by simpa using hy);rw[this];omega
  rw[acb,hx]
  by_cases hk:k<=f
  .rw[leB_t.2 hk,if_pos rfl,ih,show(k-f).toNat=0 by omega,show(k-(f+1)).toNat=0 by omega];rfl
  rw[leB_f.2 oaa,if_neg (by simp),ih,show(k-f).toNat=(k-(f+1)).toNat+1 by omega];rfl
theorem He (h:WOK w) {k:Int} (hk:ltB w.bE k=false):lj w k=⟨w.bE,w.aC.drop (k-(w.bE-w.aC.length)).toNat⟩:=by
 rw[lj,hk,Hu (f:=w.bE-w.aC.length) λi x hx=>(h.u i x hx).1];rfl
theorem Ko (h:WOK w) (k:Int):WOK (lj w k):=by
 cases hk:ltB w.bE k
 .have hl:=h.l
  have hf:=h.f
  have hn:=h.n
  rw[He h hk]
  generalize (k-(w.bE-w.aC.length)).toNat=m
  refine⟨hn,by simp;omega,by simp;omega,λi x hx=>?_⟩
  simp only at hx ⊢
  rw[List.getElem?_drop] at hx
  have hi:=(aaa.1 hx).1
  have:=h.u _ x hx
  rw[List.length_drop]
  omega
 rw[lj,hk];exact h
theorem AI (w:aY) (k:Int):∀x∈(lj w k).aC,x∈w.aC:=λx hx=>by
 rw[lj] at hx;revert hx
 cases ltB w.bE k
 .exact λhx=>(ab1.1 hx).1
 exact id
theorem SV (h:WOK w) (k:Int):0<=f6 (lj w k).aC/\f6 (lj w k).aC<=f6 w.aC:=by
 have h1:=wV λx hx=>h.d x (AI w k x hx)
 refine⟨h1.1,?_⟩
 cases hk:ltB w.bE k
 .have:=In h hk
  have h2:=wV (xs:=w.aC.filter λx=>ltB x.cW k) λx hx=>h.d x (ab1.1 hx).1
  omega
 rw[lj,hk];exact Int.le_refl _
theorem MV {n:Int} (h:0<=n/\n<=q.cV-q.em):tH q n={q with em:=q.em+n}:=by rw[tH,bQ.2 h];rfl
theorem HW (h:SG s a) (k:Int):SG (lJ s k) a/\(lJ s k).b9={s.b9 with em:=s.b9.em+(f6 s.ax.aC-f6 (lj s.ax k).aC)}:=by
 have hs:=SV h.sp.win k
 have hp:=h.sp.pd
 have hq:=h.sp.q
 have e:(lJ s k).b9={s.b9 with em:=s.b9.em+(f6 s.ax.aC-f6 (lj s.ax k).aC)}:=MV ⟨by omega,by omega⟩
 have hu:=hq.u
 have hg:=hq.g
 have hq':QOK (lJ s k).b9:=by rw[e];exact⟨hq.i,by simp only;omega,by simp only;omega,hq.m⟩
 refine⟨⟨{h.sp with ok:=⟨h.sp.ok.1,h.sp.ok.2.1,(Ko h.sp.win k).ok⟩,win:=Ko h.sp.win k,q:=hq',qu:=⟨by simp[lJ],by simp[lJ]⟩,nx:=?_,un:=λx hx=>h.sp.un x (AI _ _ x hx),pd:=?_},h.b1,λx hx=>h.b2 x (AI _ _ x hx),⟨h.mo.acc,hq',?_⟩⟩,e⟩
 .have:(lJ s k).ax.bE=s.ax.bE:=by simp only[lJ,lj];cases ltB s.ax.bE k<;>rfl
  rw[this];exact h.sp.nx
 .rw[e];simp only[lJ];omega
 rw[e];exact h.mo.res
theorem Yf (h:SG s a) (m:aF):SG (GX s m).aU a:=by
 have hr:=JC h.sp.rcd
 simp only[GX]
 cases he:eqB s.bF.cW 999999
 .have he:=M8 he
  have hk:=Qk (k:=s.bF.eX) (r:=Eh s.bF.ID (s.bF.cW+1)) (q:=s.bF.cW+1) oaa oaa
  refine⟨{h.sp with rcd:=?_,k2:=λ_=>?_,ps:=⟨by simp only[cond_false];omega,by simp only[cond_false];omega⟩},h.b1,h.b2,h.mo⟩
  .have hc:=h.sp.rcd
   simp only[tE,hV] at hc
   simp only[cond_false,tE,hV]
   exact⟨hc.1,hc.2.1,bQ.2 oaa⟩
  exact bQ.2 hk
 exact h
theorem Ye (h:SG s a) {c:Int} (hc:0<=c/\c<=5) (hp:0<s.bI) (he:s.aV<999999):SG (xq s c) a:=by
 have hk:=h.sp.k2 hp
 have hkr:=bQ.1 hk
 have hep:=h.sp.ep
 exact⟨{h.sp with page:=Wx,st:=⟨by simp[xq],by simp[xq]⟩,k1:=λ_=>hk,k2:=λe=>by simp[xq] at e,ps:=⟨by simp[xq],by simp[xq]⟩,gn:=h.sp.ps,ep:=⟨by simp only[xq];omega,by simp only[xq];omega⟩,rk:=⟨by simp only[xq];omega,by simp only[xq];omega⟩,ce:=hc,qu:=⟨by simp[xq],by simp[xq]⟩},h.b1,h.b2,h.mo⟩
theorem VH (h:SG s a) {m:aF} (hm:lH m=true):SG (zW s m).aU a:=by
 obtain⟨_,hc,_⟩:=y5 hm
 rw[zW]
 cases hb:leB s.bI 0||(!eqB m.ag s.bI||(!eqB m.bV s.aK.w8||leB 999999 s.aV))
 .simp only[aam] at hb
  exact Ye h hc (yd hb.1) (yd hb.2.2.2)
 exact h
theorem VG (h:SG s a) {m:aF} (hm:lH m=true):SG (zV s m).aU a:=by
 obtain⟨_,hc,_,he,_⟩:=y5 hm
 rw[zV]
 cases !sW s m||(ltB m.aV s.aV||(eqB m.aV s.aV&&!eqB m.bh s.bh))
 .exact⟨{h.sp with page:=Wx,ep:=he,ce:=hc,qu:=⟨by simp[wD],by simp[wD]⟩,rt:=⟨by simp[wD],by simp[wD]⟩},h.b1,h.b2,h.mo⟩
 exact h
theorem Yd (h:SG s a) (m:aF):SG (GW s m).aU a:=by
 rw[GW]
 cases !sW s m||ltB s.ax.bE m.bV
 .exact(HW h m.bV).1
 exact h
theorem sUp_SG (h:SG s a) (m:aF):SG (sUp s m).aU a:=by
 rw[sUp]
 cases hm:lH m
 .exact h
 cases eqB m.a8 1
 .cases eqB m.a8 3
  .cases eqB m.a8 5
   .cases eqB m.a8 8
    .exact h
    exact Yd h m
   exact VG h hm
  exact VH h hm
 exact Yf h m
theorem VA (h:SG s a):SG (lL s) a:=
 ⟨{h.sp with page:=Wx,k2:=λe=>by simp[lL] at e,ps:=⟨by simp[lL],by simp[lL]⟩,qu:=⟨by simp[lL],by simp[lL]⟩,rt:=⟨by simp[lL],by simp[lL]⟩},h.b1,h.b2,h.mo⟩
theorem Yk (h:SG s a) {b:List Int} (hb:okB b):SG (tD s b).1 a:=by
 rw[tD]
 cases h1:leB 24 (s.aH.length:Int)||ltB 60 (b.length:Int)
 .simp only[aam] at h1
  have h2:=yd h1.1
  have h3:=qz h1.2
  have hnx:=h.sp.nx
  refine⟨{h.sp with ok:=⟨h.sp.ok.1,⟨by simp;omega,λp hp=>?_⟩,h.sp.ok.2.2⟩,sl:=by simp;omega,sd:=λp hp=>?_,nx:=by simp;omega,un:=λx hx=>?_},λp hp=>?_,h.b2,h.mo⟩
  .rcases aae.1 hp with hp|hp
   .exact h.sp.ok.2.1.2 p hp
   simp at hp;subst hp;exact⟨by simp only;omega,λ_ _=>trivial⟩
  .rcases aae.1 hp with hp|hp
   .exact h.sp.sd p hp
   simp at hp;subst hp;simp only;omega
  .have hu:=h.sp.un x hx
   have hs:=Oh h.sp.win hx
   simp only[CG,cond_false] at hu ⊢
   rw[aaq oaa]
   exact hu
  rcases aae.1 hp with hp|hp
  .exact h.b1 p hp
  simp at hp;subst hp;exact hb
 exact h
theorem V9 (ha:0<=p.fZ/\p.fZ<=2) (hp:POK p) (m:aS):ki (xk p m).1=true:=by
 have h1:=hp.a
 have h2:=hp.w
 rw[xk]
 simp only[ki,hV,bQ]
 cases hb:ltB 0 p.fo
 .simp only[cond_false]
  refine⟨ha,?_,by omega⟩
  cases hc:ltB p.fm 4
  .simp
  have:=mu hc
  simp only[cond_true];omega
 have:=mu hb
 simp only[cond_true];omega
theorem Fk (h:ki p=true):POK p:=by
 simp only[ki,hV,bQ] at h;exact⟨h.2.1,h.2.2⟩
theorem Qt (h:pO m=true) (c:Int):0<=mr m c/\mr m c<=2:=by
 rw[mr]
 cases hc:eN m c
 .simp
 obtain⟨d,_,_,h2⟩:=AT hc
 simp only[pO,hV,ez] at h
 have:=h.2 _ d h2
 simp only[BR,hV,bQ] at this
 rw[h2];exact this.1
theorem LZ (h:SG s a) (hm:pO m=true):SG (nL s a m).aU (nL s a m).eu:=by
 rw[nL]
 cases eqB s.bp 1
 .exact h
 simp only[au]
 have hq:=yo h.sp
 cases ltB 4 (iV s)
 .exact L3 2 _ _ _ (h.upd hq (yq h.sp))
 have h1:=h.upd hq h.sp.rt
 have hp:=Fk h.sp.page
 exact⟨{h1.sp with page:=V9 (p:={s.ga with fZ:=mr m s.bh}) (Qt hm _) ⟨hp.a,hp.w⟩ m},h1.b1,h1.b2,h1.mo⟩
structure FP (nd nc:Nat) (f:bM):Prop where
 d:0<=f.bm/\f.bm<nd
 c:0<=f.bh/\f.bh<nc
 b:okB f.co.bz.a9
 ok:kL f
structure MP (nc:Nat) (i:Nat) (d:aG) (s:ah) (a:aj):Prop where
 dp:DP d
 dc:d.bh<nc
 sg:SG s a
 sc:s.bh<nc
 si:s.b9.aJ=i
 ids:EV d s=true
structure NP (B:Int) (n:ab):Prop where
 map:pO n.ev=true
 mok:gj n.ev
 core:jQ n.eC=true
 up:n.eC.fP≠0
 ld:n.aw.length<=4
 ls:n.aA.length=n.aw.length
 la:n.bG.length=n.aw.length
 m:∀(i:Nat) d s a,n.aw[i]?=some d->n.aA[i]?=some s->n.bG[i]?=some a->MP n.ev.bb.length i d s a
 fl:n.aT.length<=200
 fs:∀f∈n.aT,FP n.aw.length n.ev.bb.length f
 dn:inR n.dw 0 (WR ((lX .i64 1 (n.ev.bb.length:Int))-1))=true
 nw:0<=n.rr/\n.rr<=100000
 lo:0<=n.jT/\n.jT<=B
theorem mZ (h:pO m=true):1<=m.bb.length/\m.bb.length<=6:=by
 simp only[pO,hV,bQ] at h;omega
theorem NP.at_ (h:NP B n) {i:Nat} (hi:i<n.aw.length):∃d s a,n.aw[i]?=some d/\n.aA[i]?=some s/\n.bG[i]?=some a/\MP n.ev.bb.length i d s a:=by
 have h1:=h.ls
 have h2:=h.la
 obtain⟨d,hd⟩:∃d,n.aw[i]?=some d:=⟨_,v0 hi⟩
 obtain⟨s,hs⟩:∃s,n.aA[i]?=some s:=⟨_,v0 (show i<n.aA.length by omega)⟩
 obtain⟨a,ha⟩:∃a,n.bG[i]?=some a:=⟨_,v0 (show i<n.bG.length by omega)⟩
 exact⟨d,s,a,hd,hs,ha,h.m i d s a hd hs ha⟩
theorem NP.mono {B':Int} (h:NP B n) (hb:B<=B'):NP B' n:={h with lo:=⟨h.lo.1,by have:=h.lo.2;omega⟩}
def fX (n:ab) (f:bM):ab:=bif leB 200 (n.aT.length:Int) then {n with jT:=WR (n.jT+1)} else {n with aT:=n.aT++[f]}
theorem Bn (hf:kL f):gS n f=some (fX n f):=by
 simp only[gS,KT hf,abM,fX]
 cases hb:leB 200 (n.aT.length:Int)
 .have:=yd hb
  rw[cz oaa (by simp;omega)];rfl
 rfl
theorem Bm (hf:kL f):rj n f=some (fX n f):=by
 simp only[rj,Hv hf,abM,fX]
 cases hb:leB 200 (n.aT.length:Int)
 .have:=yd hb
  rw[cz oaa (by simp;omega)];rfl
 rfl
theorem Ao (h:NP B n) (hf:FP n.aw.length n.ev.bb.length f) (hB:B<4611686018427387904):NP (B+1) (fX n f):=by
 have hl:=h.lo
 rw[fX]
 cases hb:leB 200 (n.aT.length:Int)
 .have hb:=yd hb
  refine {h.mono (show B<=B+1 by omega) with fl:=by simp;omega,fs:=λg hg=>?_}
  rcases aae.1 hg with hg|hg
  .exact h.fs g hg
  simp at hg;subst hg;exact hf
 exact {h.mono (show B<=B+1 by omega) with lo:=by simp only[cond_true];rw[bP oaa];omega}
theorem rK (n:ab) (f:bM):(fX n f).aw=n.aw/\(fX n f).aA=n.aA/\(fX n f).bG=n.bG/\(fX n f).ev=n.ev/\(fX n f).dw=n.dw/\(fX n f).eC=n.eC/\(fX n f).rr=n.rr:=by
 rw[fX];cases leB 200 (n.aT.length:Int)<;>exact⟨rfl,rfl,rfl,rfl,rfl,rfl,rfl⟩
def sends (n:ab) (l:List bM):ab:=l.foldl fX n
theorem lP:∀(l:List bM) (n:ab),(sends n l).aw=n.aw/\(sends n l).aA=n.aA/\(sends n l).bG=n.bG/\(sends n l).ev=n.ev/\(sends n l).dw=n.dw/\(sends n l).eC=n.eC/\(sends n l).rr=n.rr
 |[],n=>⟨rfl,rfl,rfl,rfl,rfl,rfl,rfl⟩
 |f::l,n=>by
  have h1:=rK n f
  have h2:=lP l (fX n f)
  have e:sends n (f::l)=sends (fX n f) l:=rfl
  rw[e,h2.1,h2.2.1,h2.2.2.1,h2.2.2.2.1,h2.2.2.2.2.1,h2.2.2.2.2.2.1,h2.2.2.2.2.2.2];exact h1
theorem yy:∀(l:List bM) {B:Int} {n:ab},NP B n->(∀f∈l,FP n.aw.length n.ev.bb.length f)->B+l.length<4611686018427387904->NP (B+l.length) (sends n l)
 |[],B,n,h,_,_=>by simpa [sends] using h
 |f::l,B,n,h,hf,hB=>by
  simp only[aak] at hB ⊢
  have h1:=Ao h (hf f (by simp)) oaa
  have hk:=rK n f
  have:=yy l h1 (λg hg=>by rw[hk.1,hk.2.2.2.1];exact hf g (by simp[hg])) oaa
  rw[show B+((l.length+1:Nat):Int)=B+1+(l.length:Int) by omega]
  exact this
theorem vh (g:ab->bM->Option ab) {α:Type} (mk:α->bM) (hg:∀n x,g n (mk x)=some (fX n (mk x))):∀(l:List α) (n:ab),lk (λ(n:ab) x=>abJ (g n (mk x)) λr=>some (cr.next (ρ:=ab) r)) some l n=some (sends n (l.map mk))
 |[],n=>rfl
 |x::l,n=>by rw[lk,hg];exact vh g mk hg l _
def jj (i:Int) (up:Bool) (m:aF):bM:=⟨i,up,false,m.bh,m,eB⟩
def s7 (i c:Int) (x:av):bM:=⟨i,false,true,c,d9,x⟩
theorem Ke:oH eB:=⟨by decide,λ_ _=>trivial⟩
theorem BC (i:Int) (up:Bool) (m:aF):kL (jj i up m):=Ke
theorem NT (n:ab) (i:Int) (up:Bool) {l:List aF} (hl:l.length<=1048576):lR n i up l=some (sends n (l.map (jj i up))):=by
 have:=eJ (step:=lS i up l) l (λk n=>((k:Int),n)) (λn x=>abJ (gS n (jj i up x)) λr=>some (.next r)) some oaa
  (λk x n hx hk=>by
   simp only[lS,cA hk,bu,hx,WRs (k:=k),jj,au]
   cases gS n ⟨i,up,false,x.bh,x,eB⟩<;>rfl) (λn=>by simp[lS]) n
 rw[vh gS (jj i up) (λn x=>Bn (BC i up x))] at this
 rw[lR,show iter (lS i up l) FU (0,n)=_ from this];rfl
theorem TF (n:ab) (i:Int) {l:List aF} (hl:l.length<=1048576):kJ n i l=some (sends n (l.map (jj i false))):=by
 have:=eJ (step:=jI i l) l (λk n=>((k:Int),n)) (λn x=>abJ (rj n (jj i false x)) λr=>some (.next r)) some oaa
  (λk x n hx hk=>by
   simp only[jI,cA hk,bu,hx,WRs (k:=k),au]
   rw[show({fM with bm:=i,bh:=x.bh,bg:=x}:bM)=jj i false x from rfl]
   cases rj n (jj i false x)<;>rfl) (λn=>by simp[jI]) n
 rw[vh rj (jj i false) (λn x=>Bm (BC i false x))] at this
 rw[kJ,show iter (jI i l) FU (0,n)=_ from this];rfl
def gM (n:ab) (i:Nat) (r:aX):ab:=sends {n with aw:=n.aw.set i r.bm} (r.dy.map (jj i true))
theorem yn {i:Nat} (hi:i<n.aw.length) {r:aX} (hr:r.dy.length<=1048576):jk n (i:Int) r=some (gM n i r):=by
 simp only[jk,bu,v0 hi,abM,abN,NT _ _ _ hr,gM]
theorem ym {i:Nat} (hi:i<n.aw.length) {r:aX} (hr:r.dy.length<=1048576):gA n (i:Int) r=some (gM n i r):=by
 have:=eJ (step:=kv (i:Int) r) r.dy (λk n=>((k:Int),n)) (λn x=>abJ (rj n (jj i true x)) λr=>some (.next r)) some oaa
  (λk x n hx hk=>by
   simp only[kv,cA hk,bu,hx,WRs (k:=k),jj,au]
   cases rj n ⟨i,true,false,x.bh,x,eB⟩<;>rfl) (λn=>by simp[kv]) {n with aw:=n.aw.set i r.bm}
 rw[vh rj (jj (i:Int) true) (λn x=>Bm (BC _ true x))] at this
 simp only[gA,bu,v0 hi,abM,abN,gM]
 rw[show iter (kv (i:Int) r) FU (0,{n with aw:=n.aw.set i r.bm})=_ from this];rfl
theorem JV {nd nc:Nat} {i:Nat} (hi:i<nd) {up:Bool} {m:aF} (hm:0<=m.bh/\m.bh<nc):FP nd nc (jj i up m):=
 ⟨by simp only[jj];omega,hm,λx hx=>by simp[jj,eB,mj] at hx,BC _ _ _⟩
theorem ry {xs:List α} {i j:Nat} {x y:α} (h:(xs.set i x)[j]?=some y):(i=j/\x=y)\/(i≠j/\xs[j]?=some y):=by
 rw[abu] at h
 by_cases e:i=j
 .rw[if_pos e] at h
  split at h
  .cases h;exact .inl ⟨e,rfl⟩
  cases h
 rw[if_neg e] at h;exact .inr ⟨e,h⟩
theorem NP.setM (h:NP B n) {i:Nat} {d:aG} (hm:MP n.ev.bb.length i d s a):
 NP B {n with aw:=n.aw.set i d,aA:=n.aA.set i s,bG:=n.bG.set i a}:=by
 have h1:=h.ls
 have h2:=h.la
 refine {h with ld:=by simpa using h.ld,ls:=by simpa using h1,la:=by simpa using h2,m:=λj d' s' a' hd hs ha=>?_,fs:=λf hf=>by rw[List.length_set];exact h.fs f hf}
 rcases ry hd with⟨e1,e2⟩|⟨e1,e2⟩<;>rcases ry hs with⟨e3,e4⟩|⟨e3,e4⟩<;>rcases ry ha with⟨e5,e6⟩|⟨e5,e6⟩<;>first|omega|skip
 .subst e1;subst e2;subst e4;subst e6;exact hm
 exact h.m j d' s' a' e2 e4 e6
theorem gR {xs:List α} {i:Nat} {x:α} (h:xs[i]?=some x):xs.set i x=xs:=by
 apply abS
 intro j
 rw[abu]
 by_cases e:i=j
 .subst e;rw[if_pos rfl,if_pos (aaa.1 h).1,h]
 rw[if_neg e]
theorem NP.setD (h:NP B n) {i:Nat} {d:aG} (hs:n.aA[i]?=some s) (ha:n.bG[i]?=some a) (hm:MP n.ev.bb.length i d s a):NP B {n with aw:=n.aw.set i d}:=by
 have:=h.setM hm
 rwa [gR hs,gR ha] at this
theorem NP.setS (h:NP B n) {i:Nat} {d:aG} (hd:n.aw[i]?=some d) (ha:n.bG[i]?=some a) (hm:MP n.ev.bb.length i d s a):NP B {n with aA:=n.aA.set i s}:=by
 have:=h.setM hm
 rwa [gR hd,gR ha] at this
structure DK (c:Int) (d:aG) (r:aX):Prop where
 id:r.bm.dr.ID=d.dr.ID
 key:r.bm.dr.eX=d.dr.eX
 cell:r.bm.bh=c
 sg:∀m∈r.dy,m.bh=c
 len:r.dy.length<=1
theorem DK.none (d:aG):DK d.bh d ⟨d,[]⟩:=⟨rfl,rfl,rfl,by simp,by simp⟩
theorem W4 (d:aG):DK d.bh d (xn d):=⟨rfl,rfl,rfl,by simp[xn,xB,wL],by simp[xn]⟩
theorem KI {d d':aG} (h:d'.dr=d.dr):DK d'.bh d (xn d'):=⟨by rw[<-h];rfl,by rw[<-h];rfl,rfl,by simp[xn,xB,wL],by simp[xn]⟩
theorem xC (d:aG):DK d.bh d (rf d):=by
 rw[rf]
 cases ltB 0 d.fo<;>cases eqB d.bp 1<;>cases eqB d.bp 2&&!d.cq<;>exact⟨rfl,rfl,rfl,by simp[yQ,xB,wL],by simp⟩
theorem MY (d:aG):DK d.bh d (dOn d):=by
 rw[dOn];cases eqB d.bp 0<;>exact⟨rfl,rfl,rfl,by simp[yQ],by simp⟩
theorem IG (d:aG) (m:aF):DK d.bh d (Ab d m):=by
 rw[Ab]
 cases !lH m||(!eqB m.bh d.bh||eqB d.bp 0)
 .simp only[cond_false]
  cases eqB m.a8 2&&eqB d.bp 1
  .simp only[cond_false]
   cases eqB m.a8 4&&(eqB d.bp 1&&(ra d.aZ&&(eqB m.ag d.ag&&tx d.aZ m)))
   .simp only[cond_false]
    cases eqB m.a8 6&&(eqB d.bp 2&&(eqB m.ag d.ag&&(eqB m.aV d.aV&&tx d.aZ m)))
    .simp only[cond_false]
     cases eqB m.a8 7&&(eqB d.bp 3&&ltB d.aV 999999)
     .simp only[cond_false]
      cases eqB m.a8 7&&eqB d.bp 2
      .exact .none d
      exact W4 d
     exact KI (d:=d) (d':={d with bp:=2,aV:=d.aV+1}) rfl
    exact⟨rfl,rfl,rfl,by simp,by simp⟩
   exact⟨rfl,rfl,rfl,by simp,by simp⟩
  simp only[cond_true,Gu]
  cases eqB (jS d.dr.eX d.dr.di m.cd) 0<;>exact⟨rfl,rfl,rfl,by simp,by simp⟩
 exact .none d
theorem IF (d:aG) (x:av):DK d.bh d (Aa d x):=by
 simp only[Aa]
 cases eqB d.bp 2&&(ro d.aZ d.ag d.aV x).2
 .exact .none d
 exact⟨rfl,rfl,rfl,by simp[dAck,wL],by simp⟩
theorem KJ (d:aG) (c:Int):DK d.bh d (sK d c)\/(0<=c/\c<=5)/\DK c d (sK d c):=by
 rw[sK]
 cases h:eqB c d.bh||!inR c 0 5
 .simp only[aam,abU] at h
  right;refine⟨bQ.1 h.2,?_⟩
  simp only[cond_false]
  cases eqB d.bp 2&&ltB d.aV 999999
  .exact⟨rfl,rfl,rfl,by simp,by simp⟩
  exact KI (d:=d) (d':={d with bh:=c,aV:=d.aV+1}) rfl
 exact .inl (.none d)
structure SK (c:Int) (s:ah) (r:bN):Prop where
 id:r.aU.bF.ID=s.bF.ID
 key:r.aU.bF.eX=s.bF.eX
 si:r.aU.b9.aJ=s.b9.aJ
 cell:r.aU.bh=s.bh\/r.aU.bh=c
 sg:∀m∈r.dy,m.bh=c
 len:r.dy.length<=1
 sub:r.aU.aH=s.aH
theorem SK.none (c:Int) (s:ah):SK c s ⟨s,[]⟩:=⟨rfl,rfl,rfl,.inl rfl,by simp,by simp,rfl⟩
theorem NM (s:ah) (m:aF):SK m.bh s (sUp s m):=by
 rw[sUp]
 cases lH m
 .exact .none _ s
 simp only[au]
 cases eqB m.a8 1
 .simp only[cond_false]
  cases eqB m.a8 3
  .simp only[cond_false]
   cases eqB m.a8 5
   .simp only[cond_false]
    cases eqB m.a8 8
    .exact .none _ s
    simp only[cond_true,GW]
    cases !sW s m||ltB s.ax.bE m.bV
    .refine⟨rfl,rfl,?_,.inl rfl,by simp,by simp,rfl⟩
     simp only[cond_false,lJ,tH]
     grind
    exact .none _ s
   simp only[cond_true,zV]
   cases !sW s m||(ltB m.aV s.aV||(eqB m.aV s.aV&&!eqB m.bh s.bh))
   .exact⟨rfl,rfl,rfl,.inr rfl,by simp[y9,wL,wD],by simp,rfl⟩
   exact .none _ s
  simp only[cond_true,zW]
  cases leB s.bI 0||(!eqB m.ag s.bI||(!eqB m.bV s.aK.w8||leB 999999 s.aV))
  .exact⟨rfl,rfl,rfl,.inr rfl,by simp[y9,wL,xq],by simp,rfl⟩
  exact .none _ s
 simp only[cond_true,GX]
 cases eqB s.bF.cW 999999
 .exact⟨rfl,rfl,rfl,.inl rfl,by simp,by simp,rfl⟩
 exact .none _ s
theorem MP.dev {nc i:Nat} {d:aG} (h:MP nc i d s a) {c:Int} {r:aX} (hk:DK c d r) (hd:DP r.bm) (hc:c<nc):MP nc i r.bm s a:=by
 refine⟨hd,by rw[hk.cell];exact hc,h.sg,h.sc,h.si,?_⟩
 have:=h.ids
 simp only[EV,hk.id,hk.key] at this ⊢;exact this
theorem MP.ses {nc i:Nat} {d:aG} (h:MP nc i d s a) {c:Int} {r:bN} (hk:SK c s r) (hs:SG r.aU a) (hc:c<nc):MP nc i d r.aU a:=by
 refine⟨h.dp,h.dc,hs,?_,by rw[hk.si];exact h.si,?_⟩
 .rcases hk.cell with e|e<;>rw[e]
  .exact h.sc
  exact hc
 have:=h.ids
 simp only[EV,hk.id,hk.key] at this ⊢;exact this
theorem nE (h:NP B n) {i:Nat} {d:aG} (hd:n.aw[i]?=some d) {c:Int} {r:aX} (hk:DK c d r) (hr:DP r.bm) (hc:c<n.ev.bb.length) (hB:B+1<4611686018427387904):NP (B+1) (gM n i r):=by
 have hi:=(aaa.1 hd).1
 obtain⟨d',s,a,h1,h2,h3,hm⟩:=h.at_ hi
 rw[hd] at h1;cases h1
 have hn:=h.setD h2 h3 (hm.dev hk hr hc)
 have hl:=hk.len
 have:=yy (r.dy.map (jj i true)) hn (λf hf=>by
  obtain⟨m,hm',rfl⟩:=aba.1 hf
  rw[show({n with aw:=n.aw.set i r.bm}:ab).aw.length=n.aw.length by simp]
  refine JV hi ?_
  rw[hk.sg m hm',<-hk.cell];exact⟨hr.ce.1,by rw[hk.cell];exact hc⟩) (by simp;omega)
 exact this.mono (by simp;omega)
def Cn (n:ab) (i:Nat) (r:bN):ab:=sends {n with aA:=n.aA.set i r.aU} (r.dy.map (jj i false))
theorem Ro (h:NP B n) {i:Nat} (hs:n.aA[i]?=some s) {c:Int} {r:bN} (hk:SK c s r) (hr:∀a,SG s a->SG r.aU a) (hc:0<=c/\c<n.ev.bb.length) (hB:B+1<4611686018427387904):NP (B+1) (Cn n i r):=by
 have hi:=(aaa.1 hs).1
 have hls:=h.ls
 obtain⟨d,s',a,h1,h2,h3,hm⟩:=h.at_ (show i<n.aw.length by omega)
 rw[hs] at h2;cases h2
 have hn:=h.setS h1 h3 (hm.ses hk (hr a hm.sg) hc.2)
 have hl:=hk.len
 have:=yy (r.dy.map (jj i false)) hn (λf hf=>by
  obtain⟨m,hm',rfl⟩:=aba.1 hf
  refine JV (show i<n.aw.length by omega) ?_
  rw[hk.sg m hm'];exact hc) (by simp;omega)
 exact this.mono (by simp;omega)
def kO (n:ab) (k:Nat):ab:={n with aT:=n.aT.take k++n.aT.drop (k+1)}
theorem Dy (h:NP B n) (k:Nat):NP B (kO n k):=by
 have:=h.fl
 refine {h with fl:=by simp[kO];omega,fs:=λf hf=>?_}
 have:f∈n.aT:=by
  simp only[kO,aae] at hf
  rcases hf with hf|hf
  .grind
  grind
 exact h.fs f this
theorem Qd (hl:n.aT.length<=200) (hf:n.aT[k]?=some f):yG n (k:Int)=some (f,kO n k):=by
 have hk:=(aaa.1 hf).1
 have a1:eF n.aT 0 (k:Int)=true:=by simp[eF];omega
 have a2:eF n.aT ((k+1:Nat):Int) (n.aT.length:Int)=true:=by simp[eF];omega
 have a3:da 176 (n.aT.take k).length=true:=cz oaa (by simp;omega)
 have a4:da 176 (n.aT.take k++n.aT.drop (k+1)).length=true:=cz oaa (by simp;omega)
 simp only[yG,bu,hf,a1,WRs (k:=k),a2,abb,abN,a3,a4,kO,au]
theorem Qc (hl:n.aT.length<=200) (hf:n.aT[k]?=some f):qy n (k:Int)=some (f,kO n k):=by
 have hk:=(aaa.1 hf).1
 have a0:pA 176 0 (n.aT.length:Int)=true:=by simp only[pA,decide_eq_true_eq];omega
 have a1:eF n.aT 0 (k:Int)=true:=by simp[eF];omega
 have a2:eF n.aT ((k+1:Nat):Int) (n.aT.length:Int)=true:=by simp[eF];omega
 have a3:da 176 (n.aT.take k).length=true:=cz oaa (by simp;omega)
 have a4:da 176 (n.aT.take k++n.aT.drop (k+1)).length=true:=cz oaa (by simp;omega)
 have a5:(aac (0:Int).toNat fM)=[]:=rfl
 simp only[qy,bu,hf,a0,a1,WRs (k:=k),a2,a5,abb,abN,a3,a4,kO,au]
def Do (n:ab) (c:Int):Bool:=eN n.ev c&&eqB (z6 .i64 (Eb .i64 n.dw c) 1) 0
theorem Us (hm:1<=n.ev.bb.length/\n.ev.bb.length<=6) (c:Int):vy n c=some (Do n c):=by
 have hmin:kw (n.ev.bb.length:Int) 6=(n.ev.bb.length:Int):=by unfold kw;split<;>omega
 simp only[vy,Lr,hmin,fK,abM,bP (n:=(n.ev.bb.length:Int)-1) oaa,Do]
 rw[show inR c 0 ((n.ev.bb.length:Int)-1)=eN n.ev c from rfl]
 cases hc:eN n.ev c
 .rfl
 have:=bQ.1 (show inR c 0 ((n.ev.bb.length:Int)-1)=true from hc)
 rw[leB_t.2 this.1];rfl
theorem Ur (hm:1<=n.ev.bb.length/\n.ev.bb.length<=6) (c:Int):vi n c=some (Do n c):=by
 simp only[vi,vX (show n.ev.bb.length<=1048576 by omega),abM,Do]
 cases hc:eN n.ev c
 .rfl
 have:=bQ.1 (show inR c 0 ((n.ev.bb.length:Int)-1)=true from hc)
 rw[leB_t.2 this.1,ltB_t.2 (show c<6 by omega)];rfl
def No (n:ab):ab:={n with jT:=WR (n.jT+1)}
theorem Jf (h:NP B n) (hB:B<4611686018427387904):NP (B+1) (No n):=by
 have hl:=h.lo
 exact {h.mono (show B<=B+1 by omega) with lo:=by simp only[No];rw[bP oaa];omega}
def lG (n:ab) (k:Nat):ab:=match n.aT[k]? with
 |none=>n
 |some f=>
  let n1:=kO n k
  let i:=f.bm.toNat
  bif !Do n1 f.bh then No n1 else
  bif f.eG then(bif f.dZ||!eqB f.bg.bh f.bh then n1 else match n1.aA[i]? with
   |none=>n1
   |some s=>Cn n1 i (sUp s f.bg))
  else match n1.aw[i]? with
   |none=>n1
   |some d=>bif !eqB d.bh f.bh then No n1 else gM n1 i (bif f.dZ then Aa d f.co else Ab d f.bg)
theorem MZ (h:NP B n) (k:Nat) (hB:B+1<4611686018427387904):NP (B+1) (lG n k):=by
 rw[lG]
 cases hf:n.aT[k]? with
 |none=>exact h.mono oaa
 |some f=>
  have hp:=h.fs f (aab hf)
  have h1:=Dy h k
  simp only
  cases Do (kO n k) f.bh
  .exact Jf h1 oaa
  simp only[au]
  cases f.eG
  .simp only[cond_false]
   cases hd:(kO n k).aw[f.bm.toNat]? with
   |none=>exact h1.mono oaa
   |some d=>
    have hdi:=(aaa.1 hd).1
    obtain⟨d',s,a,e1,e2,e3,hm⟩:=h1.at_ hdi
    rw[hd] at e1;cases e1
    simp only
    cases eqB d.bh f.bh
    .exact Jf h1 oaa
    simp only[au]
    cases f.dZ
    .exact nE h1 hd (IG d f.bg) (Xa hm.dp _) hm.dc hB
    exact nE h1 hd (IF d f.co) (W8 hm.dp _) hm.dc hB
  simp only[cond_true]
  cases he:f.dZ||!eqB f.bg.bh f.bh
  .simp only[cond_false]
   simp only[aam,abU] at he
   have he:=qi he.2
   cases hs:(kO n k).aA[f.bm.toNat]? with
   |none=>exact h1.mono oaa
   |some s=>exact Ro h1 hs (NM s f.bg) (λa ha=>sUp_SG ha _) (by rw[he];exact hp.c) hB
  exact h1.mono oaa
theorem IH (i:Int) (h:0<=i):i=(i.toNat:Int):=by omega
theorem QG (h:NP B n) (hk:k<n.aT.length):uz n (k:Int)=some (lG n k):=by
 obtain⟨f,hf⟩:∃f,n.aT[k]?=some f:=⟨_,v0 hk⟩
 have hp:=h.fs f (aab hf)
 have h1:=Dy h k
 have hls:=h1.ls
 have hdd:=hp.d
 obtain⟨d,s,a,e1,e2,e3,hm⟩:=h1.at_ (show f.bm.toNat<(kO n k).aw.length by simp only[kO];omega)
 have hdev:=IH f.bm hdd.1
 have hix:ix (kO n k).aA f.bm=some s:=by rw[hdev,bu];exact e2
 have hixd:ix (kO n k).aw f.bm=some d:=by rw[hdev,bu];exact e1
 have hdl:=(aaa.1 e1).1
 have hp1:jk (kO n k) f.bm (Aa d f.co)=some (gM (kO n k) f.bm.toNat (Aa d f.co)):=by
  rw[hdev];exact yn oaa (by have:=(IF d f.co).len;omega)
 have hp2:jk (kO n k) f.bm (Ab d f.bg)=some (gM (kO n k) f.bm.toNat (Ab d f.bg)):=by
  rw[hdev];exact yn oaa (by have:=(IG d f.bg).len;omega)
 have hp3:∀n',lR n' f.bm false (sUp s f.bg).dy=some (sends n' ((sUp s f.bg).dy.map (jj (f.bm.toNat:Int) false))):=λn'=>by
  rw[<-hdev];exact NT _ _ _ (by have:=(NM s f.bg).len;omega)
 simp only[uz,Qd h.fl hf,Us (mZ h1.map),hix,hixd,up_s hm.sg.sp,rad_s hm.dp.ok (show Py f.co from hp.b),sig_s hm.dp.ok hm.dp.card hm.dp.ep,hp1,hp2,hp3,abM,lG,hf,e1,e2,Cn,No]
 grind
theorem QF (h:NP B n) (hk:k<n.aT.length):Bd n (k:Int)=some (lG n k):=by
 obtain⟨f,hf⟩:∃f,n.aT[k]?=some f:=⟨_,v0 hk⟩
 have hp:=h.fs f (aab hf)
 have h1:=Dy h k
 have hls:=h1.ls
 have hdd:=hp.d
 obtain⟨d,s,a,e1,e2,e3,hm⟩:=h1.at_ (show f.bm.toNat<(kO n k).aw.length by simp only[kO];omega)
 have hdev:=IH f.bm hdd.1
 have hix:ix (kO n k).aA f.bm=some s:=by rw[hdev,bu];exact e2
 have hixd:ix (kO n k).aw f.bm=some d:=by rw[hdev,bu];exact e1
 have hdl:=(aaa.1 e1).1
 have hp1:gA (kO n k) f.bm (Aa d f.co)=some (gM (kO n k) f.bm.toNat (Aa d f.co)):=by
  rw[hdev];exact ym oaa (by have:=(IF d f.co).len;omega)
 have hp2:gA (kO n k) f.bm (Ab d f.bg)=some (gM (kO n k) f.bm.toNat (Ab d f.bg)):=by
  rw[hdev];exact ym oaa (by have:=(IG d f.bg).len;omega)
 have hp3:∀n',kJ n' f.bm (sUp s f.bg).dy=some (sends n' ((sUp s f.bg).dy.map (jj (f.bm.toNat:Int) false))):=λn'=>by
  rw[<-hdev];exact TF _ _ (by have:=(NM s f.bg).len;omega)
 simp only[Bd,Qc h.fl hf,Ur (mZ h1.map),hix,hixd,up_i hm.sg.sp,rad_i hm.dp.ok (show Py f.co from hp.b),sig_i hm.dp.ok hm.dp.card hm.dp.ep,hp1,hp2,hp3,abM,lG,hf,e1,e2,Cn,No]
 grind
theorem pC (n:ab) (i:Nat) (r:aX):(gM n i r).aw.length=n.aw.length/\(gM n i r).ev=n.ev/\(gM n i r).aA=n.aA/\(gM n i r).bG=n.bG/\(gM n i r).rr=n.rr:=by
 have:=lP (r.dy.map (jj i true)) {n with aw:=n.aw.set i r.bm}
 rw[gM,this.1,this.2.1,this.2.2.1,this.2.2.2.1,this.2.2.2.2.2.2];simp
def rp:Nat->Nat->ab->ab
 |0,_,n=>n
 |c+1,i,n=>match n.aw[i]? with
  |none=>n
  |some d=>rp c (i+1) (gM n i (rf d))
theorem CH {L:Int×ab->Option (cr (Int×ab) ab)} (N:Nat) (hN:N<=4)
 (hL:∀(i:Nat) (n:ab),n.aw.length=N->(i<N->∀d,n.aw[i]?=some d->DP d->L ((i:Int),n)=some (.next (((i+1:Nat):Int),gM n i (rf d))))/\(N<=i->L ((i:Int),n)=some (.done n))):
 ∀(c i:Nat) {B:Int} (n:ab) (fu:Nat),NP B n->i+c=N->n.aw.length=N->c<fu->B+c<4611686018427387904->iter L fu ((i:Int),n)=some (rp c i n)/\NP (B+c) (rp c i n)/\(rp c i n).aw.length=N/\(rp c i n).ev=n.ev
 |0,i,B,n,fu,h,h1,h2,h3,hB=>by
  cases fu with
  |zero=>omega
  |succ fu=>
   rw[iter,(hL i n h2).2 oaa]
   exact⟨rfl,by simpa [rp] using h,h2,rfl⟩
 |c+1,i,B,n,fu,h,h1,h2,h3,hB=>by
  cases fu with
  |zero=>omega
  |succ fu=>
   obtain⟨d,s,a,e1,e2,e3,hm⟩:=h.at_ (show i<n.aw.length by omega)
   have hp:=nE h e1 (xC d) (En hm.dp) hm.dc oaa
   have hk:=pC n i (rf d)
   rw[iter,(hL i n h2).1 oaa d e1 hm.dp,rp,e1]
   simp only
   have ih:=CH N hN hL c (i+1) (gM n i (rf d)) fu hp oaa oaa oaa oaa
   grind
def w7 (x:av):Prop:=okB x.bz.a9/\x.bz.a9.length<=60
theorem Ax (k g e:Int) (h:x.a9.length<=60):w7 (iH k g e x):=⟨IK _ _,by simp[iH,FT];exact h⟩
theorem Kp (h:WOK s.ax):∀x∈xv s,w7 x:=by
 rw[xv];cases eqB s.bp 1
 .simp
 intro x hx
 obtain⟨y,hy,rfl⟩:=aba.1 hx
 exact Ax _ _ _ (h.d y (aas hy))
theorem QK (s:ah) (a:aj) (n:Int):(dh s a n).1.b9.aJ=s.b9.aJ:=by rw[dh];cases leB (mn s n) 0<;>rfl
theorem FV:∀(k:Nat) (s:ah) (a:aj) (r:List av),SG s a->(∀x∈r,w7 x)->
 (gp k s a r).1.bF=s.bF/\(gp k s a r).1.bh=s.bh/\(gp k s a r).1.b9.aJ=s.b9.aJ/\(gp k s a r).1.aH=s.aH/\∀x∈(gp k s a r).2.2,w7 x
 |0,s,a,r,h,hr=>⟨rfl,rfl,rfl,rfl,hr⟩
 |k+1,s,a,r,h,hr=>by
  rw[gp]
  cases e:rm s with
  |none=>simp_all
  |some x=>
   obtain⟨hm,hx,_,hn,hl,hb⟩:=nn h.sp e
   have he:=ve h (n:=(x.a9.length:Int)) oaa
   obtain⟨q,hk⟩:=nz s a (x.a9.length:Int)
   have hid:=QK s a (x.a9.length:Int)
   simp only
   cases hq:ltB 0 (mn (dh s a (x.a9.length:Int)).1 (x.a9.length:Int))
   .simp only[cond_false]
    have ih:=FV k {(dh s a (x.a9.length:Int)).1 with ax:=pI (dh s a (x.a9.length:Int)).1.ax x.a9} (dh s a (x.a9.length:Int)).2
     (r++[iH (dh s a (x.a9.length:Int)).1.aZ (dh s a (x.a9.length:Int)).1.ag (dh s a (x.a9.length:Int)).1.aV ⟨(dh s a (x.a9.length:Int)).1.ax.bE,x.a9⟩])
     (BB he (by rw[hk];exact e) hq) (λy hy=>by
      rcases aae.1 hy with hy|hy
      .exact hr y hy
      simp at hy;subst hy;exact Ax _ _ _ hb)
    simp_all
   simp_all
theorem U8 {a t:Int}:∀c∈CX m a t,0<=c/\c<m.bb.length:=by
 intro c hc
 have h1:∀c∈tG m a,0<=c/\c<m.bb.length:=λc hc=>by
  obtain⟨y,hy,rfl⟩:=aba.1 hc
  grind
 have h2:∀c∈SW m,0<=c/\c<m.bb.length:=λc hc=>by
  obtain⟨k,hk,rfl⟩:=aba.1 hc
  simp_all
 rw[CX] at hc;grind
structure TK (nc:Nat) (s:ah) (a:aj) (t:bO):Prop where
 rcd:t.aU.bF=s.bF
 cell:t.aU.bh=s.bh
 si:t.aU.b9.aJ=s.b9.aJ
 sub:t.aU.aH=s.aH
 pg:∀m∈t.ju,0<=m.bh/\m.bh<nc
 pl:t.ju.length<=1000
 rd:∀x∈t.co,w7 x
 rl:t.co.length<=4
theorem BA (h:SG s a) (hm:m.bb.length<=1000):TK m.bb.length s a (nL s a m):=by
 rw[nL]
 cases eqB s.bp 1
 .exact⟨rfl,rfl,rfl,rfl,by simp,by simp,by simp,by simp⟩
 simp only[au]
 have hg:=ED h
 have hq:=yo h.sp
 cases ltB 4 (iV s)
 .simp only[cond_false,LY]
  have hk:=FV 2 _ _ [] (h.upd hq (yq h.sp)) (by simp)
  have hl:=zg 2 {s with dT:=iV s,dP:=(mq s).2,b9:=(fH s a).2} (fH s a).1 []
  have hr:=Cs s
  refine⟨hk.1,hk.2.1,hk.2.2.1.trans hg.2.2.1,hk.2.2.2.1,by simp,by simp,λx hx=>?_,by grind⟩
  rcases aae.1 hx with hx|hx
  .rw[mq] at hx;revert hx
   cases De s
   .simp
   cases ltB 0 s.dP
   .exact Kp h.sp.win x
   simp
  simp_all
 simp only[cond_true,FE]
 refine⟨rfl,rfl,hg.2.2.1,rfl,λx hx=>?_,by have:=CI (p:={s.ga with fZ:=mr m s.bh}) hm;simp_all,by simp,by simp⟩
 obtain⟨c,hc,rfl⟩:=aba.1 hx
 simp only[LA]
 rw[xk] at hc;revert hc
 cases ltB 0 s.ga.fo
 .exact U8 c
 simp
def xf (n:ab) (i:Nat) (t:bO):ab:=
 sends (sends {n with aA:=n.aA.set i t.aU,bG:=n.bG.set i t.eu} (t.ju.map (jj i false))) (t.co.map (s7 i t.aU.bh))
theorem X6 {nd nc i:Nat} (hi:i<nd) {c:Int} (hc:0<=c/\c<nc) {x:av} (hx:w7 x):FP nd nc (s7 i c x):=
 ⟨by simp only[s7];omega,hc,hx.1,⟨by have:=hx.2;simp only[s7];omega,λ_ _=>trivial⟩⟩
theorem HO (n:ab) (i:Nat) (t:bO):(xf n i t).aw=n.aw/\(xf n i t).ev=n.ev/\(xf n i t).aA.length=n.aA.length/\(xf n i t).rr=n.rr:=by
 have h1:=lP (t.ju.map (jj i false)) {n with aA:=n.aA.set i t.aU,bG:=n.bG.set i t.eu}
 have h2:=lP (t.co.map (s7 i t.aU.bh)) (sends {n with aA:=n.aA.set i t.aU,bG:=n.bG.set i t.eu} (t.ju.map (jj i false)))
 rw[xf,h2.1,h2.2.1,h2.2.2.2.1,h2.2.2.2.2.2.2,h1.1,h1.2.1,h1.2.2.2.1,h1.2.2.2.2.2.2];simp
theorem LF (h:NP B n) {i:Nat} (hs:n.aA[i]?=some s) (ha:n.bG[i]?=some a) {t:bO} (hk:TK n.ev.bb.length s a t) (hg:SG t.aU t.eu) (hB:B+2000<4611686018427387904):NP (B+2000) (xf n i t):=by
 have hi:=(aaa.1 hs).1
 have hls:=h.ls
 obtain⟨d,s',a',h1,h2,h3,hm⟩:=h.at_ (show i<n.aw.length by omega)
 rw[hs] at h2;cases h2
 rw[ha] at h3;cases h3
 have hmp:MP n.ev.bb.length i d t.aU t.eu:=by
  refine⟨hm.dp,hm.dc,hg,by rw[hk.cell];exact hm.sc,by rw[hk.si];exact hm.si,?_⟩
  have:=hm.ids
  simp only[EV,hk.rcd] at this ⊢;exact this
 have hn:=h.setM hmp
 rw[gR h1] at hn
 have hpl:=hk.pl
 have hrl:=hk.rl
 have k1:=lP (t.ju.map (jj i false)) {n with aA:=n.aA.set i t.aU,bG:=n.bG.set i t.eu}
 have p1:=yy (t.ju.map (jj i false)) hn (λf hf=>by
  obtain⟨m,hm',rfl⟩:=aba.1 hf
  exact JV (show i<n.aw.length by omega) (hk.pg m hm')) (by simp;omega)
 have p2:=yy (t.co.map (s7 i t.aU.bh)) p1 (λf hf=>by
  obtain⟨x,hx,rfl⟩:=aba.1 hf
  rw[k1.1,k1.2.2.2.1]
  exact X6 (show i<n.aw.length by omega) (by rw[hk.cell];exact⟨hm.sg.sp.ce.1,hm.sc⟩) (hk.rd x hx)) (by simp;omega)
 exact p2.mono (by simp;omega)
def xl:Nat->Nat->ab->ab
 |0,_,n=>n
 |c+1,i,n=>match n.aA[i]?,n.bG[i]? with
  |some s,some a=>xl c (i+1) (xf n i (nL s a n.ev))
  |_,_=>n
theorem CJ {L:Int×ab->Option (cr (Int×ab) ab)} (N:Nat) (hN:N<=4)
 (hL:∀(i:Nat) (n:ab),n.aA.length=N->(i<N->∀s a,n.aA[i]?=some s->n.bG[i]?=some a->SG s a->pO n.ev=true->L ((i:Int),n)=some (.next (((i+1:Nat):Int),xf n i (nL s a n.ev))))/\(N<=i->L ((i:Int),n)=some (.done n))):
 ∀(c i:Nat) {B:Int} (n:ab) (fu:Nat),NP B n->i+c=N->n.aA.length=N->c<fu->B+2000*c<4611686018427387904->iter L fu ((i:Int),n)=some (xl c i n)/\NP (B+2000*c) (xl c i n)/\(xl c i n).aw=n.aw/\(xl c i n).ev=n.ev
 |0,i,B,n,fu,h,h1,h2,h3,hB=>by
  cases fu with
  |zero=>omega
  |succ fu=>
   rw[iter,(hL i n h2).2 oaa]
   exact⟨rfl,by simpa [xl] using h,rfl,rfl⟩
 |c+1,i,B,n,fu,h,h1,h2,h3,hB=>by
  cases fu with
  |zero=>omega
  |succ fu=>
   have hls:=h.ls
   obtain⟨d,s,a,e1,e2,e3,hm⟩:=h.at_ (show i<n.aw.length by omega)
   have hml:=mZ h.map
   have hp:=LF h e2 e3 (BA hm.sg oaa) (LZ hm.sg h.map) oaa
   have hk:=HO n i (nL s a n.ev)
   rw[iter,(hL i n h2).1 oaa s a e2 e3 hm.sg h.map,xl,e2,e3]
   simp only
   have ih:=CJ N hN hL c (i+1) (xf n i (nL s a n.ev)) fu hp oaa oaa oaa oaa
   grind
def Fe (n:ab):Bool×ab:=
 bif leB 100000 n.rr then(false,n) else
  let n1:=rp n.aw.length 0 {n with rr:=n.rr+1}
  (true,xl n1.aA.length 0 n1)
theorem R7 {B:Int} {n:ab} (h:NP B n) (hB:B+10000<4611686018427387904):BP n=some (Fe n)/\O9 n=some (Fe n)/\NP (B+10000) (Fe n).2:=by
 have hnw:=h.nw
 have hld:=h.ld
 rw[Fe,BP,O9]
 cases hb:leB 100000 n.rr
 .have hb:=yd hb
  simp only[cond_false]
  have h1:NP B {n with rr:=n.rr+1}:={h with nw:=by grind}
  rw[bP (n:=n.rr+1) oaa]
  have rs:=CH (L:=uA) n.aw.length hld (λi n' hn'=>⟨λhi d hd hp=>by
   simp only[uA,hn',cA hi,bu,hd,tick_s hp.ok hp.wt.2,yn (show i<n'.aw.length by omega) (show(rf d).dy.length<=1048576 by have:=(xC d).len;omega),WRs (k:=i),au],λhi=>by
   simp only[uA,hn',ltB_f.2 (show(n.aw.length:Int)<=(i:Int) by omega),cond_false]⟩) n.aw.length 0 _ FU h1 oaa rfl (by have:=gZ;omega) oaa
  have ri:=CH (L:=Bg n) n.aw.length hld (λi n' hn'=>⟨λhi d hd hp=>by
   simp only[Bg,cA hi,bu,hd,tick_i hp.ok hp.wt.2,ym (show i<n'.aw.length by omega) (show(rf d).dy.length<=1048576 by have:=(xC d).len;omega),WRs (k:=i),au],λhi=>by
   simp only[Bg,ltB_f.2 (show(n.aw.length:Int)<=(i:Int) by omega),cond_false]⟩) n.aw.length 0 _ FU h1 oaa rfl (by have:=gZ;omega) oaa
  rw[show((0:Nat):Int)=0 from rfl] at rs ri
  have h2:=(rs).2.1
  have hls:=h2.ls
  have hl2:=h2.ld
  generalize rp n.aw.length 0 {n with rr:=n.rr+1}=n1 at*
  have radS:∀(n':ab) (i:Nat) (t:bO),(∀x∈t.co,w7 x)->t.co.length<=4->iter (nM (i:Int) t) FU (0,n')=some (sends n' (t.co.map (s7 i t.aU.bh))):=λn' i t ht hl=>by
   have:=eJ (step:=nM (i:Int) t) t.co (λk n=>((k:Int),n)) (λn x=>abJ (gS n (s7 i t.aU.bh x)) λr=>some (.next r)) some oaa
    (λk x n hx hk=>by
     simp only[nM,cA hk,bu,hx,WRs (k:=k),s7,au]
     simp_all) (λn=>by simp[nM]) n'
   refine Eq.trans (show iter (nM (i:Int) t) FU (0,n')=_ from this) ?_
   clear this
   have key:∀(l:List av) (n':ab),(∀x∈l,w7 x)->lk (λ(n:ab) x=>abJ (gS n (s7 i t.aU.bh x)) λr=>some (cr.next (ρ:=ab) r)) some l n'=some (sends n' (l.map (s7 i t.aU.bh))):=by
    intro l
    induction l with
    |nil=>intro n' _;rfl
    |cons x l ih=>intro n' hx;rw[lk,Bn (f:=s7 i t.aU.bh x) ⟨by have:=(hx x (by simp)).2;simp only[s7];omega,λ_ _=>trivial⟩];exact ih _ λy hy=>hx y (by simp[hy])
   simp_all
  have radI:∀(n':ab) (i:Nat) (t:bO),(∀x∈t.co,w7 x)->t.co.length<=4->iter (vk (i:Int) t) FU (0,n')=some (sends n' (t.co.map (s7 i t.aU.bh))):=λn' i t ht hl=>by
   have:=eJ (step:=vk (i:Int) t) t.co (λk n=>((k:Int),n)) (λn x=>abJ (rj n (s7 i t.aU.bh x)) λr=>some (.next r)) some oaa
    (λk x n hx hk=>by
     simp only[vk,cA hk,bu,hx,WRs (k:=k),s7,au]
     simp_all) (λn=>by simp[vk]) n'
   refine Eq.trans (show iter (vk (i:Int) t) FU (0,n')=_ from this) ?_
   clear this
   have key:∀(l:List av) (n':ab),(∀x∈l,w7 x)->lk (λ(n:ab) x=>abJ (rj n (s7 i t.aU.bh x)) λr=>some (cr.next (ρ:=ab) r)) some l n'=some (sends n' (l.map (s7 i t.aU.bh))):=by
    intro l
    induction l with
    |nil=>intro n' _;rfl
    |cons x l ih=>intro n' hx;rw[lk,Bm (f:=s7 i t.aU.bh x) ⟨by have:=(hx x (by simp)).2;simp only[s7];omega,λ_ _=>trivial⟩];exact ih _ λy hy=>hx y (by simp[hy])
   simp_all
  have ss:=CJ (L:=uB) n1.aA.length oaa (λi n' hn'=>⟨λhi s a hs ha hg hm=>by
   have hml:=mZ hm
   have hk:=BA hg (m:=n'.ev) oaa
   simp only[uB,hn',cA hi,bu,hs,ha,YE hg (m:=n'.ev) oaa (Fk hg.sp.page),abN,NT _ _ _ (show(nL s a n'.ev).ju.length<=1048576 by have:=hk.pl;omega),radS _ i _ hk.rd hk.rl,xf,WRs (k:=i),au],λhi=>by
   simp only[uB,hn',ltB_f.2 (show(n1.aA.length:Int)<=(i:Int) by omega),cond_false]⟩) n1.aA.length 0 n1 FU h2 oaa rfl (by have:=gZ;omega) oaa
  have si:=CJ (L:=Bh n1) n1.aA.length oaa (λi n' hn'=>⟨λhi s a hs ha hg hm=>by
   have hml:=mZ hm
   have hk:=BA hg (m:=n'.ev) oaa
   simp only[Bh,cA hi,bu,hs,ha,YD hg (m:=n'.ev) oaa (Fk hg.sp.page),abN,TF _ _ (show(nL s a n'.ev).ju.length<=1048576 by have:=hk.pl;omega),radI _ i _ hk.rd hk.rl,xf,WRs (k:=i),au],λhi=>by
   simp only[Bh,ltB_f.2 (show(n1.aA.length:Int)<=(i:Int) by omega),cond_false]⟩) n1.aA.length 0 n1 FU h2 oaa rfl (by have:=gZ;omega) oaa
  rw[show((0:Nat):Int)=0 from rfl] at ss si
  rw[rs.1]
  rw[ri.1]
  simp only[abM]
  rw[ss.1]
  rw[si.1]
  exact⟨rt,rt,(ss).2.1.mono oaa⟩
 exact⟨rt,rt,h.mono oaa⟩
def xj (p:bK) (k:Int):Bool:=jQ p&&(inR k 0 (p.fC-1)&&eqB (z6 .i64 (Eb .i64 p.fP k) 1) 1)
theorem kx {p:bK} (h:jQ p=true):1<=p.fC/\p.fC<=6:=by
 simp only[jQ,hV,bQ] at h;exact h.1
theorem P8 (p:bK) (k:Int):qD p k=some (xj p k):=by
 simp only[qD,NA,fK,abM,xj]
 cases hp:jQ p
 .rfl
 have:=kx hp
 rw[bP (n:=p.fC-1) oaa]
 cases hk:inR k 0 (p.fC-1)
 .rfl
 rw[leB_t.2 (bQ.1 hk).1];rfl
theorem P7 (p:bK) (k:Int):qp p k=some (xj p k):=by
 simp only[qp,Jz,gK,abM,xj]
 cases hp:jQ p
 .rfl
 have:=kx hp
 rw[bP (n:=p.fC-1) oaa]
 cases hk:inR k 0 (p.fC-1)
 .rfl
 rw[leB_t.2 (bQ.1 hk).1];rfl
def pk (p:bK) (k:Int) (up:Bool):bK:=
 bif !jQ p||!inR k 0 (p.fC-1) then p else⟨p.fC,bif up then bOr .i64 p.fP (lX .i64 1 k) else vU .i64 p.fP (lX .i64 1 k)⟩
theorem Yq (p:bK) (k:Int) (up:Bool):rV p k up=some (pk p k up):=by
 simp only[rV,NA,fK,abM,pk]
 cases hp:jQ p
 .rfl
 have:=kx hp
 rw[bP (n:=p.fC-1) oaa]
 cases hk:inR k 0 (p.fC-1)
 .rfl
 rw[leB_t.2 (bQ.1 hk).1];grind
theorem Yp (p:bK) (k:Int) (up:Bool):rF p k up=some (pk p k up):=by
 simp only[rF,Jz,gK,abM,pk]
 cases hp:jQ p
 .rfl
 have:=kx hp
 rw[bP (n:=p.fC-1) oaa]
 cases hk:inR k 0 (p.fC-1)
 .rfl
 rw[leB_t.2 (bQ.1 hk).1];grind
theorem UD:∀c∈f5 7,∀d∈f5 (2^c),∀i∈f5 c,
 (inR (Iy .i64 (d:Int) (lX .i64 1 (i:Int))) 0 (WR (lX .i64 1 (c:Int)-1))&&(inR (bOr .i64 (d:Int) (lX .i64 1 (i:Int))) 0 (WR (lX .i64 1 (c:Int)-1))&&inR (vU .i64 (d:Int) (lX .i64 1 (i:Int))) 0 (WR (lX .i64 1 (c:Int)-1))))=true:=by decide+kernel
theorem shl_eq:∀c∈f5 7,WR (lX .i64 1 (c:Int)-1)=((2^c:Nat):Int)-1:=by decide+kernel
theorem Pj {c:Nat} (hc:c<=6) {d k:Int} (hd:inR d 0 (WR (lX .i64 1 (c:Int)-1))=true) (hk:0<=k/\k<c):
 inR (Iy .i64 d (lX .i64 1 k)) 0 (WR (lX .i64 1 (c:Int)-1))=true/\inR (bOr .i64 d (lX .i64 1 k)) 0 (WR (lX .i64 1 (c:Int)-1))=true/\inR (vU .i64 d (lX .i64 1 k)) 0 (WR (lX .i64 1 (c:Int)-1))=true:=by
 have hd':=bQ.1 hd
 rw[shl_eq c (ab4.2 oaa)] at hd'
 have:=UD c (ab4.2 oaa) d.toNat (ab4.2 oaa) k.toNat (ab4.2 oaa)
 grind
theorem VQ {p:bK} (h:jQ p=true) (k:Int) (up:Bool):jQ (pk p k up)=true/\(pk p k up).fC=p.fC:=by
 rw[pk,h]
 cases hk:inR k 0 (p.fC-1)
 .simp_all
 have hk:=bQ.1 hk
 have hp:=kx h
 simp only[jQ,hV] at h
 have hm:=Pj (c:=p.fC.toNat) oaa (d:=p.fP) (k:=k) (by grind) oaa
 rw[show(p.fC.toNat:Int)=p.fC by omega] at hm
 simp only[ab0,jQ,hV,au]
 grind
def wt (a b:Int):Int:=abK (WR (ec 17 [a,b]*ec 17 [a,b])) 2147483647
theorem wt_s (a b:Int):i6 a b=some (wt a b):=by simp[i6,er,wt]
theorem wt_i (a b:Int):kW a b=some (wt a b):=by simp[kW,eo,wt]
theorem wt_nn (a b:Int):0<=wt a b:=by
 have h:=lE 17 [a,b]
 unfold hM at h
 have h2:0<=ec 17 [a,b]*ec 17 [a,b]:=Int.mul_nonneg h.1 h.1
 have h3:ec 17 [a,b]*ec 17 [a,b]<=2147483647*2147483647:=Int.mul_le_mul oaa oaa h.1 oaa
 rw[wt,bP oaa]
 grind
def zf (p:bK) (i v:Int) (k:Int):Int:=bif xj p k&&(ltB v 0||ltB (wt v i) (wt k i)) then k else v
def RJ (p:bK) (i:Int):Nat->Nat->Int->Int
 |0,_,v=>v
 |c+1,k,v=>RJ p i c (k+1) (zf p i v k)
def sel (p:bK) (i:Int):Int:=RJ p i p.fC.toNat 0 (-1)
theorem H2 {p:bK} (h:jQ p=true) (i:Int):∀(c k fu:Nat) (v:Int),k+c=p.fC.toNat->c<fu->iter (mg p i) fu (v,(k:Int))=some (RJ p i c k v)
 |0,k,fu,v,h1,h2=>by
  have hp:=kx h
  cases fu with
  |zero=>omega
  |succ fu=>rw[iter];simp[mg,ltB_f.2 (show p.fC<=(k:Int) by omega),RJ]
 |c+1,k,fu,v,h1,h2=>by
  have hp:=kx h
  cases fu with
  |zero=>omega
  |succ fu=>
   have hc:(bif ltB (k:Int) p.fC then some (ltB (k:Int) 6) else some false)=some true:=by rw[ltB_t.2 (show(k:Int)<p.fC by omega),ltB_t.2 (show(k:Int)<6 by omega)];rfl
   have hs:(abJ (bif xj p k then(bif ltB v 0 then some true else some (ltB (wt v i) (wt k i))) else some false) λ(v12:Bool)=>abJ (bif v12 then some (k:Int) else some v) λ(v15:Int)=>some (cr.next (ρ:=Int) (v15,WR ((k:Int)+1))))=some (.next (zf p i v k,((k+1:Nat):Int))):=by
    rw[nP oaa,zf]
    cases xj p k<;>cases ltB v 0<;>cases ltB (wt v i) (wt k i)<;>rfl
   rw[iter]
   simp only[mg,hc,P8,wt_s,hs,au]
   exact H2 h i c (k+1) fu _ oaa oaa
def Iz (i v:Int):Int:=bif ltB v 0 then-1 else wt v i
theorem H1 {p:bK} (h:jQ p=true) (i:Int):∀(c k fu:Nat) (v:Int),k+c=p.fC.toNat->c<fu->iter (jG p i) fu (v,Iz i v,(k:Int))=some (RJ p i c k v)
 |0,k,fu,v,h1,h2=>by
  have hp:=kx h
  cases fu with
  |zero=>omega
  |succ fu=>rw[iter];simp[jG,ltB_f.2 (show p.fC<=(k:Int) by omega),RJ]
 |c+1,k,fu,v,h1,h2=>by
  have hp:=kx h
  cases fu with
  |zero=>omega
  |succ fu=>
   have hs:jG p i (v,Iz i v,(k:Int))=some (.next (zf p i v k,Iz i (zf p i v k),((k+1:Nat):Int))):=by
    simp only[jG,ltB_t.2 (show(k:Int)<p.fC by omega),P7,wt_i,WRs (k:=k),zf,au]
    have hw:=wt_nn k i
    have hk:Iz i (k:Int)=wt k i:=by rw[Iz,ltB_f.2 (show(0:Int)<=k by omega)];rfl
    have hb:ltB (Iz i v) (wt k i)=(ltB v 0||ltB (wt v i) (wt k i)):=by
     rw[Iz];cases ltB v 0
     .rfl
     simp only[cond_true,aco];exact ltB_t.2 oaa
    rw[hb]
    cases xj p k<;>cases ltB v 0||ltB (wt v i) (wt k i)<;>simp[hk]
   rw[iter,hs]
   exact H1 h i c (k+1) fu _ oaa oaa
theorem Ze {p:bK} (h:jQ p=true) (i:Int):mM p i=some (sel p i):=by
 have hp:=kx h
 have:=H2 h i p.fC.toNat 0 FU (-1) oaa (by have:=gZ;omega)
 rw[show((0:Nat):Int)=0 from rfl] at this
 rw[mM,this];rfl
theorem Zd {p:bK} (h:jQ p=true) (i:Int):mD p i=some (sel p i):=by
 have hp:=kx h
 have:=H1 h i p.fC.toNat 0 FU (-1) oaa (by have:=gZ;omega)
 rw[show((0:Nat):Int)=0 from rfl,show Iz i (-1)= -1 from by simp[Iz,ltB]] at this
 simp only[mD,Jz,h,this,sel,au]
def zE (p q:bK):Nat->Nat->List ah->List ah
 |0,_,l=>l
 |c+1,i,l=>zE p q c (i+1) (bif eqB (sel p i) (sel q i) then l else match l[i]? with
  |some s=>l.set i (lL s)
  |none=>l)
def p5 (n:ab) (k:Int) (up:Bool):Bool×ab:=
 let q:=pk n.eC k up
 bif !inR k 0 (n.eC.fC-1)||(booB (xj n.eC k) up||eqB q.fP 0) then(false,n) else(true,{n with aA:=zE n.eC q n.aA.length 0 n.aA,eC:=q})
theorem sb (p q:bK):∀(c i:Nat) (l:List ah) (j:Nat),(zE p q c i l)[j]?=l[j]?\/∃s,l[j]?=some s/\(zE p q c i l)[j]?=some (lL s)
 |0,i,l,j=>.inl rfl
 |c+1,i,l,j=>by
  rw[zE]
  cases eqB (sel p i) (sel q i)
  .simp only[cond_false]
   cases hi:l[i]? with
   |none=>exact sb p q c (i+1) l j
   |some s=>
    simp only
    by_cases e:i=j
    .subst e
     have hg:(l.set i (lL s))[i]?=some (lL s):=by simp[(aaa.1 hi).1]
     rcases sb p q c (i+1) (l.set i (lL s)) i with h|⟨t,h1,h2⟩
     .simp_all
     rw[hg] at h1;cases h1;exact .inr ⟨s,hi,h2⟩
    have hg:(l.set i (lL s))[j]?=l[j]?:=by rw[abu,if_neg e]
    rcases sb p q c (i+1) (l.set i (lL s)) j with h|⟨t,h1,h2⟩
    .simp_all
    grind
  exact sb p q c (i+1) l j
theorem Ht (p q:bK):∀(c i:Nat) (l:List ah),(zE p q c i l).length=l.length
 |0,i,l=>rfl
 |c+1,i,l=>by
  rw[zE,Ht]
  grind
theorem Ey {L:Int×List ah->Option (cr (Int×List ah) (List ah))} {p q:bK} (N:Nat)
 (hL:∀(i:Nat) (l:List ah),l.length=N->(i<N->(∀s∈l,d4 s)->L ((i:Int),l)=some (.next (((i+1:Nat):Int),bif eqB (sel p i) (sel q i) then l else match l[i]? with|some s=>l.set i (lL s)|none=>l)))/\(N<=i->L ((i:Int),l)=some (.done l))):
 ∀(c i fu:Nat) (l:List ah),i+c=N->l.length=N->(∀s∈l,d4 s)->c<fu->iter L fu ((i:Int),l)=some (zE p q c i l)
 |0,i,fu,l,h1,h2,h3,h4=>by
  cases fu with
  |zero=>omega
  |succ fu=>rw[iter,(hL i l h2).2 oaa];rfl
 |c+1,i,fu,l,h1,h2,h3,h4=>by
  cases fu with
  |zero=>omega
  |succ fu=>
   rw[iter,(hL i l h2).1 oaa h3,zE]
   simp only
   refine Ey N hL c (i+1) fu _ oaa ?_ (λs hs=>?_) oaa
   .grind
   revert hs
   cases eqB (sel p i) (sel q i)
   .simp only[cond_false]
    cases hi:l[i]? with
    |none=>exact h3 s
    |some t=>
     intro hs
     rcases List.mem_or_eq_of_mem_set hs with hs|rfl
     .exact h3 s hs
     exact h3 t (aab hi)
   exact h3 s
theorem L7 (h:NP B n) (k:Int) (up:Bool):wT n k up=some (p5 n k up)/\(∀e:cX,e.cB=k->eqB e.a8 12=up->ox n e=some (p5 n k up))/\NP B (p5 n k up).2:=by
 have hp:=kx h.core
 have hls:=h.ls
 have hq:=VQ h.core k up
 have hok:∀s∈n.aA,d4 s:=λs hs=>by
  obtain⟨i,hi⟩:=aal hs
  have hlt:=(aaa.1 hi).1
  obtain⟨d,s',a,e1,e2,e3,hm⟩:=h.at_ (show i<n.aw.length by omega)
  rw[hi] at e2;cases e2;exact hm.sg.sp.ok
 have hl4:=h.ld
 have r1:=Ey (L:=qd n (pk n.eC k up)) (p:=n.eC) (q:=pk n.eC k up) n.aA.length (λi l hl=>⟨λhi hl3=>by
  obtain⟨s,hs⟩:∃s,l[i]?=some s:=⟨_,v0 oaa⟩
  simp only[qd,hl,cA hi,Ze h.core,Ze hq.1,bu,hs,ZO (hl3 s (aab hs)),abN,WRs (k:=i),au]
  grind,λhi=>by
  simp only[qd,hl,ltB_f.2 (show(n.aA.length:Int)<=(i:Int) by omega),cond_false]⟩) n.aA.length 0 FU n.aA oaa rfl hok (by have:=gZ;omega)
 have r2:=Ey (L:=kX n (pk n.eC k up)) (p:=n.eC) (q:=pk n.eC k up) n.aA.length (λi l hl=>⟨λhi hl3=>by
  obtain⟨s,hs⟩:∃s,l[i]?=some s:=⟨_,v0 oaa⟩
  simp only[kX,cA hi,Zd h.core,Zd hq.1,bu,hs,ZN (hl3 s (aab hs)),abN,WRs (k:=i),au]
  grind,λhi=>by
  simp only[kX,ltB_f.2 (show(n.aA.length:Int)<=(i:Int) by omega),cond_false]⟩) n.aA.length 0 FU n.aA oaa rfl hok (by have:=gZ;omega)
 rw[show((0:Nat):Int)=0 from rfl] at r1 r2
 refine⟨?_,λe he hu=>?_,?_⟩
 .simp only[wT,Yq,fK,P8,r1,abM,bP (n:=n.eC.fC-1) oaa,p5]
  grind
 .simp only[ox,he,hu,Yp,gK,P7,r2,abM,bP (n:=n.eC.fC-1) oaa,p5]
  grind
 simp only[p5]
 cases hb:!inR k 0 (n.eC.fC-1)||(booB (xj n.eC k) up||eqB (pk n.eC k up).fP 0)
 .simp only[aam] at hb
  refine {h with core:=hq.1,up:=M8 hb.2.2,ls:=by simp only[cond_false];rw[Ht];exact hls,m:=λi d s a hd hs ha=>?_}
  simp only[cond_false] at hd hs ha ⊢
  rcases sb n.eC (pk n.eC k up) n.aA.length 0 n.aA i with e|⟨t,e1,e2⟩
  .rw[e] at hs;exact h.m i d s a hd hs ha
  rw[e2] at hs;cases hs
  have hm:=h.m i d t a hd e1 ha
  exact⟨hm.dp,hm.dc,VA hm.sg,hm.sc,hm.si,hm.ids⟩
 exact h
end Go.AM
