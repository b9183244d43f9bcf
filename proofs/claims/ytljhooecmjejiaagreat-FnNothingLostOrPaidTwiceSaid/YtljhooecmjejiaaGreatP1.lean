/- A part. -/
import Derived.Test.YtljhooecmjejiaaGreatL
set_option linter.unusedVariables false
set_option linter.unusedSimpArgs false
open Option renaming bind_some→Up,bind→Un,map_some→UC
open List renaming getElem?_eq_getElem→v0,mem_of_getElem?→RS,length_cons→SQ,getElem?_mapIdx→UB,length_append→Tq,getElem_mem→Uz,takeWhile_cons→UA,length_nil→Uu,mem_zipIdx_iff_getElem?→UF,take_add_one→Ux,nil_append→T8,take_of_length_le→UD,getElem?_of_mem→SS,length_zipIdx→UG,drop_length→UI,all_eq_true→Ui,length_take→UK
open Bool renaming and_eq_true→hV,not_true→TF,eq_iff_iff→Ut,or_eq_false_iff→SX,not_eq_false'→Uy
open Int renaming tmod_eq_emod_of_nonneg→Uw,tmod→Ur,emod_lt_of_pos→UH,toNat_natCast→Us,emod_nonneg→UJ
open Nat renaming add_sub_cancel→UE,mul_le_mul→UL,zero_le→Ta
namespace Go.AM
theorem jC:9223372036854775808≤FU:=by unfold FU;omega
def jV {α σ ρ:Type} (body:σ→α→Option (cB σ ρ)) (fin:σ→Option ρ):List α→σ→Option ρ
 |[],s=>fin s
 |x::xs,s=>match body s x with
  |some (.next s')=>jV body fin xs s'
  |some (.done r)=>some r
  |none=>none
def wK {σ τ ρ:Type} (f:σ→τ):Option (cB σ ρ)→Option (cB τ ρ)
 |some (.next s)=>some (.next (f s))
 |some (.done r)=>some (.done r)
 |none=>none
@[simp] theorem stepM_next {σ τ ρ:Type} (f:σ→τ) (s:σ):wK (ρ:=ρ) f (some (.next s))=some (.next (f s)):=rfl
@[simp] theorem stepM_done {σ τ ρ:Type} (f:σ→τ) (r:ρ):wK f (some (.done r))=some (.done r):=rfl
@[simp] theorem stepM_none {σ τ ρ:Type} (f:σ→τ):wK (ρ:=ρ) f none=none:=rfl
@[simp] theorem stepM_cond {σ τ ρ:Type} (f:σ→τ) (b:Bool) (x y:Option (cB σ ρ)):wK f (bif b then x else y)=bif b then wK f x else wK f y:=by cases b<;>rfl
@[simp] theorem stepM_bind {α σ τ ρ:Type} (f:σ→τ) (o:Option α) (k:α→Option (cB σ ρ)):wK f (Un o k)=Un o (fun a=>wK f (k a)):=by cases o<;>rfl
@[simp] theorem dn_some {σ ρ:Type} (r:ρ):dn (σ:=σ) (some r)=some (.done r):=rfl
@[simp] theorem dn_none {σ ρ:Type}:dn (σ:=σ) (ρ:=ρ) none=none:=rfl
theorem fy {α σ τ ρ:Type} {step:τ→Option (cB τ ρ)} (xs:List α) (mk:Nat→σ→τ) (body:σ→α→Option (cB σ ρ)) (fin:σ→Option ρ) (hl:xs.length≤9223372036854775806)
 (hs:∀(k:Nat) (x:α) (s:σ),xs[k]?=some x→k<xs.length→step (mk k s)=wK (mk (k+1)) (body s x))
 (he:∀s,step (mk xs.length s)=dn (fin s)) (s0:σ):iter step FU (mk 0 s0)=jV body fin xs s0:=by
 have key:∀(m n:Nat) (s:σ) (k:Nat),m=xs.length-k→k≤xs.length→m<n→iter step n (mk k s)=jV body fin (xs.drop k) s:=by
  intro m
  induction m with
  |zero=>
   intro n s k hm hk hn
   cases n with
   |zero=>omega
   |succ n=>
    have:k=xs.length:=by omega
    subst this
    rw[UI,jV,iter,he]
    cases fin s<;>rfl
  |succ m ih=>
   intro n s k hm hk hn
   cases n with
   |zero=>omega
   |succ n=>
    have hlt:k<xs.length:=by omega
    rw[List.drop_eq_getElem_cons hlt,jV,iter,hs k xs[k] s (v0 hlt) hlt]
    cases hb:body s xs[k] with
    |none=>rfl
    |some o=>
     cases o with
     |done r=>rfl
     |next s'=>exact ih n s' (k+1) (by omega) (by omega) (by omega)
 have:=key (xs.length-0) FU s0 0 rfl (Ta _) (by have:=jC;omega)
 simpa using this
theorem bb {α:Type} (xs:List α) (k:Nat):ix xs (k:Int)=xs[k]?:=by simp[ix,leB]
theorem bB {n:Int} (h: -9223372036854775808≤n∧n≤9223372036854775807):WR n=n:=Ee h
theorem cp {k:Nat} (h:k<9223372036854775807):WR ((k:Int)+1)=((k+1:Nat):Int):=by rw[bB (by omega)];omega
theorem cR {a b:Nat} (h:a<b):ltB (a:Int) (b:Int)=true:=by simp[ltB,h]
theorem bz (a:Int):ltB a a=false:=by simp[ltB]
theorem be (a:Int):eqB a a=true:=by simp[eqB]
end Go.AM
namespace Go.AM
attribute [local simp] bz be bb
def okL {α:Type} (ok:α→Prop) (xs:List α):Prop:=xs.length≤1048576∧∀x∈xs,ok x
def preL {α:Type} (pre:α→Prop) (xs:List α):Prop:=xs.length≤9223372036854775807∧∀x∈xs,pre x
theorem zx {α ρ:Type} {body:Unit→α→Option (cB Unit ρ)} {fin:Unit→Option ρ}:∀(xs:List α),(∀x∈xs,body () x=some (.next ()))→jV body fin xs ()=fin ()
 |[],_=>rfl
 |x::xs,h=>by rw[jV,h x (by simp)];exact zx xs (fun y hy=>h y (by simp[hy]))
def sa {α β:Type} (by_:Nat) (p:α→Bool) (f:α→β) (acc:List β) (x:α):Option (cB (List β) (List β)):=
 bif p x then(bif cS by_ (acc++[f x]).length then some (.next (acc++[f x])) else none) else some (.next acc)
theorem tw {α β:Type} {by_:Nat} (hb:by_≤100000) (p:α→Bool) (f:α→β):∀(xs:List α) (acc:List β),acc.length+xs.length≤1048576→jV (sa by_ p f) some xs acc=some (acc++(xs.filter p).map f)
 |[],acc,h=>by simp[jV]
 |x::xs,acc,h=>by
  simp only[SQ] at h
  rw[jV]
  cases hp:p x with
  |false=>
   rw[List.filter_cons_of_neg (by simp[hp])]
   simpa [sa,hp] using tw hb p f xs acc (by omega)
  |true=>
   have ha:cS by_ (acc++[f x]).length=true:=by
    have h1:(acc++[f x]).length*by_≤1048577*100000:=UL (by simp;omega) hb
    simp only[cS,decide_eq_true_eq]
    refine⟨by omega,by simp;omega⟩
   rw[List.filter_cons_of_pos (by simp[hp])]
   simp only[sa,hp,ha,cond_true]
   rw[tw hb p f xs (acc++[f x]) (by simp;omega)]
   simp
theorem ct {by_ n:Nat} (hb:by_≤100000) (hn:n≤1048577):cS by_ n=true:=by
 have h1:n*by_≤1048577*100000:=UL hn hb
 simp only[cS,decide_eq_true_eq]
 omega
def sE (n:Int):Prop:=0≤n∧n≤255
theorem wf_u8 {n:Int} (h:(Lit.int .u8 n).wf=true):sE n:=by
 simp[Lit.wf,IntKind.min,IntKind.max,IntKind.signed,IntKind.bits] at h
 exact⟨by omega,by omega⟩
theorem w6 {α:Type} {L:Int→Option (cB Int Int)} (xs:List α) (p:α→Bool) (hl:xs.length≤9223372036854775806)
 (hs:∀(k:Nat) (x:α),xs[k]?=some x→k<xs.length→L (k:Int)=bif p x then some (.done (k:Int)) else some (.next ((k+1:Nat):Int))) (he:L ((xs.length:Nat):Int)=some (.done (-1))):
 iter L FU 0=some (mA p 0 xs):=by
 have key:∀(m n:Nat) (k:Nat),m=xs.length-k→k≤xs.length→m<n→iter L n (k:Int)=some (mA p k (xs.drop k)):=by
  intro m
  induction m with
  |zero=>
   intro n k hm hk hn
   cases n with
   |zero=>omega
   |succ n=>
    have:k=xs.length:=by omega
    subst this
    rw[iter,he,UI,mA]
  |succ m ih=>
   intro n k hm hk hn
   cases n with
   |zero=>omega
   |succ n=>
    have hlt:k<xs.length:=by omega
    rw[iter,hs k xs[k] (v0 hlt) hlt,Me hlt]
    cases p xs[k] with
    |true=>rfl
    |false=>exact ih n (k+1) (by omega) (by omega) (by omega)
 have:=key (xs.length-0) FU 0 rfl (Ta _) (by have:=jC;omega)
 simpa using this
theorem w9 {α:Type} (p:α→Bool):∀(xs:List α) (i:Nat),mA p (i:Int) xs= -1∧(∀x∈xs,p x=false)∨∃j:Nat,mA p (i:Int) xs=((i+j:Nat):Int)∧∃x,xs[j]?=some x∧p x=true∧∀y∈xs.take j,p y=false
 |[],i=>.inl ⟨rfl,by simp⟩
 |x::xs,i=>by
  rw[mA]
  cases hp:p x with
  |true=>exact .inr ⟨0,by simp,x,rfl,hp,by simp⟩
  |false=>
   rcases w9 p xs (i+1) with⟨h1,h2⟩|⟨j,h1,y,h2,h3,h4⟩
   ·exact .inl ⟨by simpa using h1,by simp[hp];exact h2⟩
   ·refine .inr ⟨j+1,?_,y,by simpa using h2,h3,by simp[hp];exact h4⟩
    have:mA p ((i:Int)+1) xs=((i+1+j:Nat):Int):=by simpa using h1
    simp only[cond_false]
    rw[this];omega
theorem Le {α:Type} {L:Int→Option (cB Int Bool)} (xs:List α) (p:α→Bool) (hl:xs.length≤9223372036854775806)
 (hs:∀(k:Nat) (x:α),xs[k]?=some x→k<xs.length→L (k:Int)=bif p x then some (.done true) else some (.next ((k+1:Nat):Int))) (he:L ((xs.length:Nat):Int)=some (.done false)):
 iter L FU 0=some (xs.any p):=by
 have:=fy (step:=L) xs (fun k (_:Unit)=>(k:Int)) (fun _ x=>bif p x then some (.done true) else some (.next ())) (fun _=>some false) hl
  (fun k x s hx hk=>by rw[hs k x hx hk];cases p x<;>rfl) (fun s=>by rw[he];rfl) ()
 refine Eq.trans (show iter L FU 0=_ from this) ?_
 have key:∀xs:List α,jV (fun(_:Unit) x=>bif p x then some (cB.done true) else some (.next ())) (fun _=>some false) xs ()=some (xs.any p):=by
  intro xs
  induction xs with
  |nil=>rfl
  |cons x xs ih=>rw[jV];cases hp:p x<;>simp[hp,ih]
 exact key xs
end Go.AM
namespace Go.AM
theorem allK {α:Type} {L:Int→Option (cB Int Bool)} (xs:List α) (p:Nat→α→Bool) (c:Option Bool) (hl:xs.length≤9223372036854775806)
 (hs:∀(k:Nat) (x:α),xs[k]?=some x→k<xs.length→L (k:Int)=bif p k x then some (.next ((k+1:Nat):Int)) else some (.done false)) (he:L ((xs.length:Nat):Int)=dn c):
 iter L FU 0=bif xs.zipIdx.all (fun y=>p y.2 y.1) then c else some false:=by
 have:=fy (step:=L) xs.zipIdx (fun k (_:Unit)=>(k:Int)) (fun _ y=>bif p y.2 y.1 then some (.next ()) else some (.done false)) (fun _=>c) (by simpa using hl)
  (fun k y s hy hk=>by
   have hk':k<xs.length:=by simpa using hk
   have:y=(xs[k],k):=by rw[v0 hk] at hy;simpa using hy.symm
   subst this
   rw[hs k xs[k] (v0 hk') hk'];cases p k xs[k]<;>rfl) (fun s=>by rw[UG,he]) ()
 refine Eq.trans (show iter L FU 0=_ from this) ?_
 have key:∀ys:List (α×Nat),jV (fun(_:Unit) y=>bif p y.2 y.1 then some (.next ()) else some (cB.done false)) (fun _=>c) ys ()=bif ys.all (fun y=>p y.2 y.1) then c else some false:=by
  intro ys
  induction ys with
  |nil=>rfl
  |cons x xs ih=>rw[jV];cases hp:p x.2 x.1<;>simp[hp,ih]
 exact key _
def inR (n a b:Int):Bool:=leB a n&&leB n b
theorem bp {n a b:Int}:inR n a b=true↔a≤n∧n≤b:=by simp[inR,leB]
theorem CI {n:Nat} (h:n≤1048576):WR ((n:Int)-1)=(n:Int)-1:=bB (by omega)
theorem ix_in {α:Type} {xs:List α} {i:Int} (h0:0≤i) (h1:i<xs.length):∃x,x∈xs∧ix xs i=some x:=by
 obtain⟨k,rfl⟩:=Int.eq_ofNat_of_zero_le h0
 have hk:k<xs.length:=by omega
 exact⟨xs[k],Uz hk,by rw[bb,v0 hk]⟩
end Go.AM
namespace Go.AM
def rgI (k:IntKind) (n:Int):Prop:=(Lit.int k n).wf=true
theorem WT.rg {k:IntKind} {n:Int} (h:WT (.i k) (.i k n)):rgI k n:=by
 cases h with|i h=>exact h
theorem H3 {α:Type} {e:List Sh} {f:α→List D}:∀{xs:List α},WTL e (xs.map f)→∀x∈xs,WTs e (f x)
 |[],_,x,hx=>by cases hx
 |y::ys,h,x,hx=>by
  cases h with
  |cons h1 h2=>
   rcases List.mem_cons.1 hx with rfl|hx
   ·exact h1
   ·exact H3 h2 x hx
theorem WT.rl {α:Type} {e:List Sh} {f:α→List D} {xs:List α} (h:WT (.l e) (.l (xs.map f))):∀x∈xs,WTs e (f x):=by
 cases h with|l hl h=>exact H3 h
end Go.AM
namespace Go.AM
def Wp {α:Type} (m:Option α) (Q:α→Prop):Prop:=match m with
 |some a=>Q a
 |none=>False
theorem Wp.ex {α:Type} {m:Option α} {Q:α→Prop} (h:Wp m Q):∃a,m=some a∧Q a:=by
 cases m with
 |none=>exact h.elim
 |some a=>exact⟨a,rfl,h⟩
theorem Wp.of {α:Type} {m:Option α} {Q:α→Prop} {a:α} (h:m=some a) (q:Q a):Wp m Q:=by subst h;exact q
theorem Wp.some {α:Type} {a:α} {Q:α→Prop} (h:Q a):Wp (some a) Q:=h
theorem Wp.bind {α β:Type} {m:Option α} {k:α→Option β} {Q:β→Prop} (h:Wp m (fun a=>Wp (k a) Q)):Wp (Un m k) Q:=by
 cases m with
 |none=>exact h.elim
 |some a=>exact h
theorem Wp.mono {α:Type} {m:Option α} {P Q:α→Prop} (h:Wp m P) (k:∀a,P a→Q a):Wp m Q:=by
 cases m with
 |none=>exact h.elim
 |some a=>exact k a h
theorem Wp.call {α β:Type} {m:Option α} {k:α→Option β} {P:α→Prop} {Q:β→Prop} (h:Wp m P) (hk:∀a,P a→Wp (k a) Q):Wp (Un m k) Q:=Wp.bind (h.mono hk)
theorem Wp.eq {α β:Type} {m:Option α} {k:α→Option β} {a:α} {Q:β→Prop} (h:m= .some a) (hk:Wp (k a) Q):Wp (Un m k) Q:=by subst h;exact hk
theorem Wp.cond {α:Type} {b:Bool} {x y:Option α} {Q:α→Prop} (h1:b=true→Wp x Q) (h0:b=false→Wp y Q):Wp (bif b then x else y) Q:=by
 cases b
 ·exact h0 rfl
 ·exact h1 rfl
theorem Wp.ok {α:Type} {b:Bool} {x:Option α} {Q:α→Prop} (hb:b=true) (h:Wp x Q):Wp (bif b then x else none) Q:=by subst hb;exact h
theorem Wp.iter {σ ρ:Type} {step:σ→Option (cB σ ρ)} {Q:ρ→Prop} (I:σ→Prop) (μ:σ→Nat) (h:∀x,I x→Wp (step x) (fun s=>match s with| .next x'=>I x'∧μ x'<μ x| .done r=>Q r)):
 ∀(n:Nat) (x:σ),I x→μ x<n→Wp (AM.iter step n x) Q
 |0,_,_,h=>by omega
 |n+1,x,hI,hn=>by
  obtain⟨s,e,hs⟩:=(h x hI).ex
  rw[AM.iter,e]
  cases s with
  |next x'=>exact Wp.iter I μ h n x' hs.1 (by have:=hs.2;omega)
  |done r=>exact hs
theorem Wp.iterF {σ ρ:Type} {step:σ→Option (cB σ ρ)} {Q:ρ→Prop} (I:σ→Prop) (μ:σ→Nat) {x:σ} (hI:I x) (hn:μ x≤1000000000000) (h:∀x,I x→Wp (step x) (fun s=>match s with| .next x'=>I x'∧μ x'<μ x| .done r=>Q r)):Wp (AM.iter step FU x) Q:=
 Wp.iter I μ h FU x hI (by have:=jC;omega)
theorem Wp.dn {σ ρ:Type} {m:Option ρ} {Q:cB σ ρ→Prop} (h:Wp m (fun r=>Q (.done r))):Wp (AM.dn m) Q:=by
 cases m with
 |none=>exact h.elim
 |some r=>exact h
theorem Wp.ix {α β:Type} {xs:List α} {i:Int} {k:α→Option β} {Q:β→Prop} (h0:0≤i) (h1:i<xs.length) (hk:∀x,x∈xs→xs[i.toNat]?= .some x→Wp (k x) Q):Wp (Un (AM.ix xs i) k) Q:=by
 have hl:i.toNat<xs.length:=by omega
 have hx:xs[i.toNat]?= .some xs[i.toNat]:=v0 hl
 refine Wp.eq (a:=xs[i.toNat]) ?_ (hk _ (Uz hl) hx)
 unfold AM.ix
 rw[show leB 0 i=true from by simp[leB,h0]]
 exact hx
theorem km {a b:Int} (h:ltB a b=true):a<b:=ltB_t.1 h
theorem oF {a b:Int} (h:ltB a b=false):b≤a:=ltB_f.1 h
theorem t0 {a b:Int} (h:leB a b=true):a≤b:=leB_t.1 h
theorem vG {a b:Int} (h:leB a b=false):b<a:=leB_f.1 h
theorem mR {a b:Int} (h:eqB a b=true):a=b:=eqB_t.1 h
theorem EN {a b:Int} (h:eqB a b=false):a≠b:=eqB_f.1 h
theorem fB {b n:Nat} (h:n*b≤140737488355328) (h':n≤9223372036854775807):cS b n=true:=by simp[cS,h,h']
end Go.AM
namespace Go.AM
attribute [local simp] bz be bb
def O7 (a:fc):Prop:=okL (fun _=>True) a.cT
def fK (a:aK):Prop:=okL O7 a.aX
def f9 (a:ae):Prop:=okL (fun _=>True) a.aN
def qF (a:bw):Prop:=okL (fun _=>True) a.aN
def eN (a:aM):Prop:=okL f9 a.aD∧okL qF a.aG
def f5 (a:ay):Prop:=eN a.bi
def eg (a:bA):Prop:=okL (fun _=>True) a.bF
def lJ (a:a8):Prop:=okL f9 a.aw
def eO (a:ag):Prop:=eg a.gN∧okL qF a.ao∧lJ a.an
def jH (a:aj):Prop:=okL (fun _=>True) a.aA
def vM (a:bG):Prop:=okL (fun _=>True) a.aN
def nU (a:av):Prop:=vM a.aZ
def jQ (a:bJ):Prop:=nU a.b7
def iB (a:ab):Prop:=fK a.dW∧okL f5 a.ai∧okL eO a.am∧okL jH a.aY∧okL jQ a.aQ
end Go.AM
namespace Go.AM
open Go.Proofs
attribute [local simp] bz be bb
def gB {α:Type} (p:Nat→α→Bool) (xs:List α):Bool:=xs.zipIdx.all (fun y=>p y.2 y.1)
theorem eo {α:Type} {p:Nat→α→Bool} {xs:List α}:gB p xs=true↔∀(k:Nat) (x:α),xs[k]?=some x→p k x=true:=by
 unfold gB
 rw[Ui]
 constructor
 ·intro h k x hx
  exact h (x,k) (by rw[UF];simpa using hx)
 ·rintro h ⟨x,k⟩ hm
  rw[UF] at hm
  exact h k x (by simpa using hm)
theorem rO {α:Type} {p:α→Bool} {xs:List α}:gB (fun _ x=>p x) xs=xs.all p:=by
 rw[Ut,eo,Ui]
 constructor
 ·intro h x hx
  obtain⟨k,hk,rfl⟩:=List.getElem_of_mem hx
  exact h k _ (v0 hk)
 ·intro h k x hx;exact h x (RS hx)
theorem ic {α:Type} {L:Int→Option (cB Int Bool)} (xs:List α) (p:Nat→α→Bool) (c:Option Bool) (hl:xs.length≤9223372036854775806)
 (hs:∀(k:Nat) (x:α),xs[k]?=some x→k<xs.length→L (k:Int)=bif p k x then some (.next ((k+1:Nat):Int)) else some (.done false)) (he:L ((xs.length:Nat):Int)=dn c):
 iter L FU 0=bif gB p xs then c else some false:=allK xs p c hl hs he
theorem yG {α:Type} {xs:List α} {k:Nat} (hk:k<xs.length) (h0:0<k) (hl:xs.length≤9223372036854775806):∃y,xs[k-1]?=some y∧ix xs (WR ((k:Int)-1))=some y:=by
 have h1:k-1<xs.length:=by omega
 refine⟨xs[k-1],v0 h1,?_⟩
 rw[bB (by omega),show((k:Int)-1)=((k-1:Nat):Int) from by omega,bb,v0 h1]
def kr {α:Type} (key:α→Int) (xs:List α) (k:Nat) (x:α):Bool:=match k with
 |0=>true
 |j+1=>match xs[j]? with
  |some y=>!leB (key x) (key y)
  |none=>false
theorem Mi (a b c:Int):nP a b c=some (inR a b c):=by
 unfold nP inR
 cases leB b a<;>rfl
theorem et (a b c:Int):cz a b c=some (inR a b c):=by
 unfold cz inR
 cases leB b a<;>rfl
def oA (k:Int):Bool:=inR k 1 2147483646
theorem Fg (k:Int):fD k=some (oA k):=by simp only[fD,et,Up,oA]
def HQ (x:dy):Bool:=inR x.dL 0 3&&inR x.bM 0 99
theorem Qa (x:dy):eX x=some (HQ x):=by
 simp only[eX,et,Up,HQ];cases inR x.dL 0 3<;>rfl
def wM (x:mL):Bool:=HQ x.ID&&(oA x.eP&&inR x.dw 0 999999)
theorem NT (x:mL):kA x=some (wM x):=by
 simp only[kA,Qa,Fg,et,Up,wM];cases HQ x.ID<;>cases oA x.eP<;>rfl
def qZ (x:aC):Bool:=HQ x.ID&&(oA x.eP&&inR x.cO 0 999999)
theorem M2 (x:aC):dO x=some (qZ x):=by
 simp only[dO,Qa,Fg,et,Up,qZ];cases HQ x.ID<;>cases oA x.eP<;>rfl
def jz (x:cP):Bool:=inR x.fT 0 2&&(inR x.eK 0 4&&inR x.fU 0 3)
theorem MT (x:cP):kx x=some (jz x):=by
 simp only[kx,et,Up,jz];cases inR x.fT 0 2<;>cases inR x.eK 0 4<;>rfl
def kZ (x:bN):Bool:=inR x.fH 1 6&&inR x.fj 0 (WR ((jZ .i64 1 x.fH)-1))
theorem Hk (x:bN):iR x=some (kZ x):=by
 simp only[iR,et,Up,kZ]
 cases h:inR x.fH 1 6 with
 |false=>rfl
 |true=>rw[show leB 0 x.fH=true from by rw[bp] at h;simp[leB];omega];rfl
def jb (x:cY):Bool:=leB 0 x.au&&(leB 0 x.dX&&(leB x.dX x.cE&&leB x.cE 100000))
theorem vR (x:cY):fE x=some (jb x):=by
 have:jb x=(leB 0 x.au&&(inR x.cE 0 100000&&inR x.dX 0 x.cE)):=by
  rw[Ut];simp[jb,inR,leB];omega
 rw[this]
 simp only[fE,et,Up];cases leB 0 x.au<;>cases inR x.cE 0 100000<;>rfl
def tZ (n:Nat):Bool:=!ltB 60 (n:Int)
def yx (xs:List bw):Bool:=xs.all fun x=>tZ x.aN.length
def zX (r:aM) (k:Nat) (x:ae):Bool:=inR x.cO (WR (r.bj+1)) (WR (WR (r.bj+8)-1))&&(kr ae.cO r.aD k x&&tZ x.aN.length)
def px (r:aM):Bool:=eqB r.bj (WR (((r.aG.length:Nat):Int)+1))&&(leB ((r.aG.length:Nat):Int) 24&&(yx r.aG&&(leB ((r.aD.length:Nat):Int) 8&&gB (zX r) r.aD)))
theorem IK (a b:Int):ltB a b=!leB b a:=by rw[Ut];simp[ltB,leB]
theorem M5 {r:aM} (h1:r.aG.length≤1048576) (h2:r.aD.length≤1048576):gH r=some (px r):=by
 have hF:iter (fA r) FU 0=bif gB (fun _ x=>tZ x.aN.length) r.aG then some (eqB r.bj (WR (((r.aG.length:Nat):Int)+1))&&(leB ((r.aG.length:Nat):Int) 24&&leB ((r.aD.length:Nat):Int) 8)) else some false:=by
  refine ic r.aG (fun _ x=>tZ x.aN.length) _ (by omega) (fun k x hx hk=>?_) ?_
  ·simp only[fA,cR hk,bb,hx,cp (show k<9223372036854775807 by omega),Up,cond_true,tZ]
   cases ltB 60 ((x.aN.length:Nat):Int)<;>rfl
  ·simp only[fA,bz,cond_false]
   cases eqB r.bj (WR (((r.aG.length:Nat):Int)+1))<;>cases leB ((r.aG.length:Nat):Int) 24<;>rfl
 have hL:iter (gu r) FU 0=bif gB (zX r) r.aD then iter (fA r) FU 0 else some false:=by
  refine ic r.aD (zX r) _ (by omega) (fun k x hx hk=>?_) (by simp[gu])
  simp only[gu,cR hk,bb,hx,cp (show k<9223372036854775807 by omega),et,Up,cond_true,zX,tZ]
  cases k with
  |zero=>
   simp only[kr,show ltB 0 ((0:Nat):Int)=false from by simp[ltB]]
   cases ltB 60 ((x.aN.length:Nat):Int)<;>cases inR x.cO (WR (r.bj+1)) (WR (WR (r.bj+8)-1))<;>rfl
  |succ k=>
   obtain⟨y,hy,hi⟩:=yG hk (by omega) (by omega)
   simp only[UE] at hy
   simp only[kr,hy,hi,show ltB 0 ((k+1:Nat):Int)=true from by simp[ltB],Up]
   cases ltB 60 ((x.aN.length:Nat):Int)<;>cases inR x.cO (WR (r.bj+1)) (WR (WR (r.bj+8)-1))<;>cases leB x.cO y.cO<;>rfl
 rw[rO] at hF
 simp only[gH,hL,hF,px,yx]
 cases eqB r.bj (WR (((r.aG.length:Nat):Int)+1))<;>cases leB ((r.aG.length:Nat):Int) 24<;>cases(r.aG.all fun x=>tZ x.aN.length)<;>cases leB ((r.aD.length:Nat):Int) 8<;>cases gB (zX r) r.aD<;>rfl
def kY (d:ay):Bool:=wM d.dq&&(inR d.bg 0 3&&(inR d.aU 0 5&&(inR d.aa 0 999999&&(inR d.aR 0 999999&&(inR d.aJ 0 2147483646&&((!inR d.bg 2 3||oA d.aJ)&&(inR d.fU 0 3&&px d.bi)))))))
theorem LH {d:ay} (h1:d.bi.aG.length≤1048576) (h2:d.bi.aD.length≤1048576):ku d=some (kY d):=by
 simp only[ku,NT,et,Fg,M5 h1 h2,Up,kY]
 cases inR d.bg 2 3<;>cases oA d.aJ<;>cases wM d.dq<;>cases inR d.bg 0 3<;>cases inR d.aU 0 5<;>cases inR d.aa 0 999999<;>try rfl
 all_goals (cases inR d.aR 0 999999<;>cases inR d.aJ 0 2147483646<;>cases inR d.fU 0 3<;>rfl)
end Go.AM
namespace Go.AM
open Go.Proofs
attribute [local simp] bz be bb
theorem BQ {α:Type} {step:Int×Int→Option (cB (Int×Int) Int)} (xs:List α) (f:Int→α→Int) (hl:xs.length≤9223372036854775806)
 (hs:∀(k:Nat) (x:α) (a:Int),xs[k]?=some x→k<xs.length→step (a,(k:Int))=some (.next (f a x,((k+1:Nat):Int)))) (he:∀a,step (a,((xs.length:Nat):Int))=some (.done a)) (a0:Int):
 iter step FU (a0,0)=some (xs.foldl f a0):=by
 have:=fy (step:=step) xs (fun k (v:Int)=>(v,(k:Int))) (fun v x=>some (.next (f v x))) some hl
  (fun k x s hx hk=>by rw[hs k x s hx hk];rfl) (fun s=>by rw[he];rfl) a0
 refine Eq.trans (show iter step FU (a0,0)=_ from this) ?_
 clear this he hs
 induction xs generalizing a0 with
 |nil=>rfl
 |cons x xs ih=>rw[jV,List.foldl_cons];exact ih (by simp at hl;omega) _
def uN (xs:List ae):Int:=xs.foldl (fun a x=>WR (a+((x.aN.length:Nat):Int))) 0
theorem O3 {xs:List ae} (h:xs.length≤1048576):lB xs=some (uN xs):=by
 unfold lB
 rw[BQ xs (fun a x=>WR (a+((x.aN.length:Nat):Int))) (by omega) (fun k x a hx hk=>by
  simp only[qS,cR hk,bb,hx,cp (show k<9223372036854775807 by omega),Up,cond_true]) (fun a=>by simp[qS])]
 rfl
def Kv (q:cY):Int:=bif jb q then WR (q.cE-q.dX) else 0
theorem P8 (q:cY):g9 q=some (Kv q):=by simp only[g9,vR,Up,Kv];cases jb q<;>rfl
def zZ (p:bA):Bool:=inR p.iM 1 1000&&(inR p.iL 1 4&&inR p.ei 1 100000)
def py (p:bA):Bool:=zZ p&&gB (fun k x=>inR x 0 3&&kr id p.bF k x) p.bF
theorem Nu {p:bA} (h:eg p):eY p=some (py p):=by
 have hl:=h.1
 have hL:iter (fg p) FU 0=bif gB (fun k x=>inR x 0 3&&kr id p.bF k x) p.bF then some (zZ p) else some false:=by
  refine ic p.bF _ _ (by omega) (fun k x hx hk=>?_) ?_
  ·simp only[fg,cR hk,bb,hx,cp (show k<9223372036854775807 by omega),et,Up,cond_true]
   cases k with
   |zero=>
    simp only[kr,show ltB 0 ((0:Nat):Int)=false from by simp[ltB]]
    cases inR x 0 3<;>rfl
   |succ k=>
    obtain⟨y,hy,hi⟩:=yG hk (by omega) (by omega)
    simp only[UE] at hy
    simp only[kr,hy,hi,hx,bb,show ltB 0 ((k+1:Nat):Int)=true from by simp[ltB],Up,id]
    cases inR x 0 3<;>cases leB x y<;>rfl
  ·simp only[fg,bz,et,Up,cond_false,zZ]
   cases inR p.iM 1 1000<;>cases inR p.iL 1 4<;>rfl
 simp only[eY,hL,py]
 cases zZ p<;>cases gB (fun k x=>inR x 0 3&&kr id p.bF k x) p.bF<;>rfl
def unB (w:a8) (k:Nat) (x:ae):Bool:=eqB x.cO (WR (WR (w.bj-((w.aw.length:Nat):Int))+(k:Int)))&&tZ x.aN.length
def iY (w:a8):Bool:=inR w.bj 1 100000&&(leB ((w.aw.length:Nat):Int) 8&&(leB 1 (WR (w.bj-((w.aw.length:Nat):Int)))&&gB (unB w) w.aw))
theorem F7 {w:a8} (h:lJ w):iD w=some (iY w):=by
 have hl:=h.1
 have hL:iter (iv w) FU 0=bif gB (unB w) w.aw then some (inR w.bj 1 100000&&(leB ((w.aw.length:Nat):Int) 8&&leB 1 (WR (w.bj-((w.aw.length:Nat):Int))))) else some false:=by
  refine ic w.aw (unB w) _ (by omega) (fun k x hx hk=>?_) ?_
  ·simp only[iv,cR hk,bb,hx,cp (show k<9223372036854775807 by omega),Up,cond_true,unB,tZ]
   cases eqB x.cO (WR (WR (w.bj-((w.aw.length:Nat):Int))+(k:Int)))<;>cases ltB 60 ((x.aN.length:Nat):Int)<;>rfl
  ·simp only[iv,bz,et,Up,cond_false]
   cases inR w.bj 1 100000<;>cases leB ((w.aw.length:Nat):Int) 8<;>rfl
 simp only[iD,hL,iY]
 cases inR w.bj 1 100000<;>cases leB ((w.aw.length:Nat):Int) 8<;>cases leB 1 (WR (w.bj-((w.aw.length:Nat):Int)))<;>cases gB (unB w) w.aw<;>rfl
def Cj (a b:List Int):Bool:=strB (rH a) (rH b)
theorem eqb_i (a b:List Int):sm a b=some (Cj a b):=rfl
theorem eqb_s (a b:List Int):lY a b=some (Cj a b):=rfl
def AP (s:ag) (x:ae):Bool:=match s.ao[(x.cO-1).toNat]? with
 |some y=>Cj x.aN y.aN
 |none=>false
def lQ (s:ag):Bool:=leB ((s.ao.length:Nat):Int) 24&&(yx s.ao&&(iY s.an&&leB s.an.bj (WR (((s.ao.length:Nat):Int)+1))))
def sF (s:ag):Bool:=leB (uN s.an.aw) (Kv s.bO)
def BV (s:ag):Bool:=(!eqB s.bg 1||oA s.aJ)&&(!ltB 0 s.bC||oA s.aD.eP)
def iJ (s:ag):Bool:=qZ s.bv&&(py s.gN&&(jz s.ik&&(iY s.an&&(jb s.bO&&(inR s.bg 0 1&&(BV s&&(inR s.bC 0 999999&&(inR s.aa 0 999999&&(inR s.aR 0 999999&&(inR s.aJ 0 2147483646&&
 (inR s.aU 0 5&&(inR s.d9 0 5&&(inR s.dS 0 3&&(leB ((s.ao.length:Nat):Int) 24&&(yx s.ao&&(leB s.an.bj (WR (((s.ao.length:Nat):Int)+1))&&(s.an.aw.all (AP s)&&sF s)))))))))))))))))
theorem un_ix {s:ag} (hs:lQ s=true) {k:Nat} {x:ae} (hx:s.an.aw[k]?=some x):∃y,ix s.ao (WR (x.cO-1))=some y∧s.ao[(x.cO-1).toNat]?=some y:=by
 simp only[lQ,iY,hV,eo,bp] at hs
 obtain⟨h1,h2,⟨⟨h3,h3'⟩,h4,h5,h6⟩,h7⟩:=hs
 have hk:=(List.getElem?_eq_some_iff.1 hx).1
 have h8:=h6 k x hx
 simp only[unB,hV] at h8
 have h4':(s.an.aw.length:Int)≤8:=by simpa [leB] using h4
 have h1':(s.ao.length:Int)≤24:=by simpa [leB] using h1
 rw[bB (by omega)] at h5
 rw[bB (by omega)] at h7
 have h9:=h8.1
 rw[bB (n:=s.an.bj-_) (by omega),bB (by omega)] at h9
 have h9':x.cO=s.an.bj-s.an.aw.length+k:=by simpa [eqB] using h9
 have h5':1≤s.an.bj-(s.an.aw.length:Int):=by simpa [leB] using h5
 have h7':s.an.bj≤(s.ao.length:Int)+1:=by simpa [leB] using h7
 have hlt:(x.cO-1).toNat<s.ao.length:=by omega
 refine⟨s.ao[(x.cO-1).toNat],?_,v0 hlt⟩
 have hm:x.cO-1=(((x.cO-1).toNat:Nat):Int):=by omega
 rw[bB (by omega)]
 generalize (x.cO-1).toNat=m at hm hlt ⊢
 rw[hm,bb,v0 hlt]
theorem Rv {s:ag} (h:eO s) (hs:lQ s=true):iter (ij s) FU 0=some (s.an.aw.all (AP s)&&sF s):=by
 have hl:=h.2.2.1
 have:=ic (L:=ij s) s.an.aw (fun _ x=>AP s x) (some (sF s)) (by omega) (fun k x hx hk=>by
  obtain⟨y,h1,h2⟩:=un_ix hs hx
  simp only[ij,cR hk,bb,hx,h1,eqb_s,cp (show k<9223372036854775807 by omega),Up,cond_true,AP,h2]
  cases Cj x.aN y.aN<;>rfl) (by simp[ij,O3 hl,P8,sF])
 rw[this,rO]
 cases s.an.aw.all (AP s)<;>rfl
theorem Nt {s:ag} (h:eO s):qU s=some (lQ s&&(s.an.aw.all (AP s)&&sF s)):=by
 have hl:=h.2.1.1
 have hL:=ic (L:=lO s) s.ao (fun _ x=>tZ x.aN.length) (bif leB ((s.ao.length:Nat):Int) 24&&(iY s.an&&leB s.an.bj (WR (((s.ao.length:Nat):Int)+1))) then iter (ij s) FU 0 else some false) (by omega) (fun k x hx hk=>by
  simp only[lO,cR hk,bb,hx,cp (show k<9223372036854775807 by omega),Up,cond_true,tZ]
  cases ltB 60 ((x.aN.length:Nat):Int)<;>rfl) (by
  simp only[lO,bz,cond_false,F7 h.2.2,Up,IK]
  cases leB ((s.ao.length:Nat):Int) 24<;>cases iY s.an<;>cases leB s.an.bj (WR (((s.ao.length:Nat):Int)+1))<;>rfl)
 rw[rO] at hL
 unfold qU
 rw[hL]
 cases hs:lQ s with
 |true=>
  rw[Rv h hs]
  simp only[lQ,yx,hV] at hs
  simp[hs.1,hs.2.1,hs.2.2.1,hs.2.2.2]
 |false=>
  have:(leB ((s.ao.length:Nat):Int) 24&&(iY s.an&&leB s.an.bj (WR (((s.ao.length:Nat):Int)+1))))=false∨(s.ao.all fun x=>tZ x.aN.length)=false:=by
   simp only[lQ,yx] at hs
   revert hs
   cases leB ((s.ao.length:Nat):Int) 24<;>cases iY s.an<;>cases leB s.an.bj (WR (((s.ao.length:Nat):Int)+1))<;>cases(s.ao.all fun x=>tZ x.aN.length)<;>simp
  rcases this with e|e<;>rw[e]
  ·cases(s.ao.all fun x=>tZ x.aN.length)<;>rfl
  ·rfl
theorem st01 (n:Int):inR n 0 1=(eqB n 0||eqB n 1):=by rw[Ut];simp[inR,leB,eqB];omega
theorem xz {s:ag} (h:eO s):g8 s=some (iJ s):=by
 have:iJ s=(inR s.bg 0 1&&(BV s&&(qZ s.bv&&(py s.gN&&(jz s.ik&&(jb s.bO&&((lQ s&&(s.an.aw.all (AP s)&&sF s))&&(inR s.bC 0 999999&&(inR s.aa 0 999999&&(inR s.aR 0 999999&&(inR s.aJ 0 2147483646&&(inR s.aU 0 5&&(inR s.d9 0 5&&inR s.dS 0 3))))))))))))):=by
  simp only[iJ,lQ];ac_rfl
 rw[this]
 simp only[g8,M2,Nu h.1,MT,vR,Fg,et,Nt h,Up,BV,st01]
 cases eqB s.bg 0<;>cases eqB s.bg 1<;>cases oA s.aJ<;>cases ltB 0 s.bC<;>cases oA s.aD.eP<;>try rfl
 all_goals
  cases qZ s.bv<;>cases py s.gN<;>cases jz s.ik<;>cases jb s.bO<;>cases(lQ s&&(s.an.aw.all (AP s)&&sF s))<;>try rfl
 all_goals
  cases inR s.bC 0 999999<;>cases inR s.aa 0 999999<;>cases inR s.aR 0 999999<;>cases inR s.aJ 0 2147483646<;>try rfl
 all_goals
  cases inR s.aU 0 5<;>cases inR s.d9 0 5<;>rfl
end Go.AM
namespace Go.AM
open Go.Proofs
attribute [local simp] bz be bb
def NI (a:aj):Int:=a.aA.foldl (fun s x=>WR (s+x.ea)) 0
theorem Rz {a:aj} (h:jH a):kN a=some (NI a):=by
 have:=h.1
 unfold kN
 rw[BQ a.aA (fun s x=>WR (s+x.ea)) (by omega) (fun k x s hx hk=>by
  simp only[kO,cR hk,bb,hx,cp (show k<9223372036854775807 by omega),Up,cond_true]) (fun s=>by simp[kO])]
 rfl
def FO (a:aj) (k:Nat) (x:ax):Bool:=!ltB x.au 0&&(inR x.ea 1 100000&&kr ax.au a.aA k x)
def PC (a:aj):Bool:=eqB (WR (WR (a.bP+a.d4)+NI a)) a.eL
def iI (a:aj):Bool:=inR a.eL 0 100000&&(inR a.bP 0 a.eL&&(inR a.d4 0 a.eL&&(leB ((a.aA.length:Nat):Int) 8&&(gB (FO a) a.aA&&PC a))))
theorem tj {a:aj} (h:jH a):fo a=some (iI a):=by
 have hl:=h.1
 have hL:iter (gQ a) FU 0=bif gB (FO a) a.aA then some (inR a.eL 0 100000&&(inR a.bP 0 a.eL&&(inR a.d4 0 a.eL&&(leB ((a.aA.length:Nat):Int) 8&&PC a)))) else some false:=by
  refine ic a.aA (FO a) _ (by omega) (fun k x hx hk=>?_) ?_
  ·simp only[gQ,cR hk,bb,hx,cp (show k<9223372036854775807 by omega),et,Up,cond_true,FO]
   cases k with
   |zero=>
    simp only[kr,show ltB 0 ((0:Nat):Int)=false from by simp[ltB]]
    cases ltB x.au 0<;>cases inR x.ea 1 100000<;>rfl
   |succ k=>
    obtain⟨y,hy,hi⟩:=yG hk (by omega) (by omega)
    simp only[UE] at hy
    simp only[kr,hy,hi,hx,bb,show ltB 0 ((k+1:Nat):Int)=true from by simp[ltB],Up]
    cases ltB x.au 0<;>cases inR x.ea 1 100000<;>cases leB x.au y.au<;>rfl
  ·simp only[gQ,bz,et,Rz h,Up,cond_false,PC]
   cases inR a.eL 0 100000<;>cases inR a.bP 0 a.eL<;>cases inR a.d4 0 a.eL<;>cases leB ((a.aA.length:Nat):Int) 8<;>rfl
 simp only[fo,hL,iI]
 cases inR a.eL 0 100000<;>cases inR a.bP 0 a.eL<;>cases inR a.d4 0 a.eL<;>cases leB ((a.aA.length:Nat):Int) 8<;>cases gB (FO a) a.aA<;>rfl
def gG (a:aj) (i:Int):Int:=match a.aA.find? (fun x=>eqB x.au i) with
 |some x=>x.ea
 |none=>0
theorem OJ {α:Type} (p:α→Bool) (xs:List α):(mA p 0 xs= -1∧xs.find? p=none)∨∃x,ltB (mA p 0 xs) 0=false∧ix xs (mA p 0 xs)=some x∧xs.find? p=some x:=by
 rcases w9 p xs 0 with⟨h1,h2⟩|⟨j,h1,x,h2,h3,h4⟩
 ·exact .inl ⟨h1,by rw[List.find?_eq_none];intro x hx;simp[h2 x hx]⟩
 ·right
  have h1':mA p 0 xs=((j:Nat):Int):=by simpa using h1
  refine⟨x,by rw[h1'];simp[ltB],by rw[h1',bb,h2],?_⟩
  have hj:=(List.getElem?_eq_some_iff.1 h2)
  rw[List.find?_eq_some_iff_getElem]
  have hjl:=hj.1
  refine⟨h3,j,hjl,hj.2,fun i hi=>?_⟩
  have hil:i<xs.length:=Nat.lt_trans hi hjl
  have:xs[i]∈xs.take j:=List.mem_take_iff_getElem.2 ⟨i,by omega,rfl⟩
  simp[h4 _ this]
theorem FQ {a:aj} (h:jH a) (i:Int):kK a i=some (gG a i):=by
 have:=h.1
 have hf:=w6 (L:=o5 a i) a.aA (fun x=>eqB x.au i) (by omega) (fun k x hx hk=>by
  simp only[o5,cR hk,bb,hx,cp (show k<9223372036854775807 by omega),Up,cond_true]
  cases eqB x.au i<;>rfl) (by simp[o5,dn])
 unfold kK mg gG
 rw[hf]
 rcases OJ (fun x:ax=>eqB x.au i) a.aA with⟨e1,e2⟩|⟨x,e1,e2,e3⟩
 ·rw[e1,e2];simp[ltB]
 ·simp only[Up,e1,e2,e3,cond_false]
def vd (a:aj) (q:cY):Bool:=iI a&&(jb q&&eqB (gG a q.au) q.cE)
theorem Dd {a:aj} (h:jH a) (q:cY):eu a q=some (vd a q):=by
 simp only[eu,tj h,vR,FQ h,Up,vd];cases iI a<;>cases jb q<;>rfl
theorem lc {α ρ:Type} {L:Int→Option (cB Int ρ)} (xs:List α) (p:Nat→α→Bool) (f:ρ) (c:Option ρ) (hl:xs.length≤9223372036854775806)
 (hs:∀(k:Nat) (x:α),xs[k]?=some x→k<xs.length→L (k:Int)=bif p k x then some (.next ((k+1:Nat):Int)) else some (.done f)) (he:L ((xs.length:Nat):Int)=dn c):
 iter L FU 0=bif gB p xs then c else some f:=by
 have:=fy (step:=L) xs.zipIdx (fun k (_:Unit)=>(k:Int)) (fun _ y=>bif p y.2 y.1 then some (.next ()) else some (.done f)) (fun _=>c) (by simpa using hl)
  (fun k y s hy hk=>by
   have hk':k<xs.length:=by simpa using hk
   have:y=(xs[k],k):=by rw[v0 hk] at hy;simpa using hy.symm
   subst this
   rw[hs k xs[k] (v0 hk') hk'];cases p k xs[k]<;>rfl) (fun s=>by rw[UG,he]) ()
 refine Eq.trans (show iter L FU 0=_ from this) ?_
 have key:∀ys:List (α×Nat),jV (fun(_:Unit) y=>bif p y.2 y.1 then some (.next ()) else some (cB.done f)) (fun _=>c) ys ()=bif ys.all (fun y=>p y.2 y.1) then c else some f:=by
  intro ys
  induction ys with
  |nil=>rfl
  |cons x xs ih=>rw[jV];cases hp:p x.2 x.1<;>simp[hp,ih]
 exact key _
theorem Mc {l:List Int} (h:l.length≤1048576) (v:Int):wq l v=some (l.any fun x=>eqB x v):=
 Le l (fun x=>eqB x v) (by omega) (fun k x hx hk=>by
  simp only[uZ,cR hk,bb,hx,cp (show k<9223372036854775807 by omega),Up,cond_true]
  cases eqB x v<;>rfl) (by simp[uZ,dn])
def ew (m:aK) (i:Int):Bool:=inR i 0 (((m.aX.length:Nat):Int)-1)
def H8 (m:aK) (x:Int) (i:Nat):Bool:=match m.aX[x.toNat]? with
 |some d=>d.cT.any fun y=>eqB y (i:Int)
 |none=>false
def nbB (m:aK) (i:Nat) (ns:List Int) (k:Nat) (x:Int):Bool:=ew m x&&(!eqB x (i:Int)&&(kr id ns k x&&H8 m x i))
def AX (m:aK) (i:Nat) (c:fc):Bool:=inR c.fT 0 2&&gB (nbB m i c.cT) c.cT
def nr (m:aK):Bool:=inR ((m.aX.length:Nat):Int) 1 6&&gB (AX m) m.aX
theorem CQ {m:aK} {x:Int} (h:ew m x=true):∃d,d∈m.aX∧ix m.aX x=some d∧m.aX[x.toNat]?=some d:=by
 simp only[ew,bp] at h
 have hlt:x.toNat<m.aX.length:=by omega
 refine⟨m.aX[x.toNat],Uz hlt,?_,v0 hlt⟩
 have hm:x=((x.toNat:Nat):Int):=by omega
 generalize x.toNat=m at hm hlt ⊢
 rw[hm,bb,v0 hlt]
theorem PZ {m:aK} (h:fK m):ma m=some (nr m):=by
 have hl:=h.1
 have h2:∀(i:Nat) (c:fc),c∈m.aX→i<m.aX.length→iter (kw m (i:Int) c) FU 0=bif gB (nbB m i c.cT) c.cT then some (.next ((i+1:Nat):Int)) else some (.done false):=by
  intro i c hc hi
  have hn:=(h.2 c hc).1
  refine lc c.cT (nbB m i c.cT) (cB.done false) _ (by omega) (fun k x hx hk=>?_) (by simp[kw,cp (show i<9223372036854775807 by omega)])
  simp only[kw,cR hk,bb,hx,cp (show k<9223372036854775807 by omega),et,CI hl,Up,cond_true,nbB]
  cases hcb:ew m x with
  |false=>rw[show inR x 0 (((m.aX.length:Nat):Int)-1)=false from hcb];rfl
  |true=>
   rw[show inR x 0 (((m.aX.length:Nat):Int)-1)=true from hcb]
   obtain⟨d,d1,d2,d3⟩:=CQ hcb
   cases k with
   |zero=>
    simp only[kr,show ltB 0 ((0:Nat):Int)=false from by simp[ltB],d2,Mc (h.2 d d1).1,H8,d3,Up,cond_true,cond_false,TF]
    cases eqB x (i:Int)<;>cases(d.cT.any fun y=>eqB y (i:Int))<;>rfl
   |succ k=>
    obtain⟨y,hy,hi⟩:=yG hk (by omega) (by omega)
    simp only[UE] at hy
    simp only[kr,hy,hi,show ltB 0 ((k+1:Nat):Int)=true from by simp[ltB],d2,Mc (h.2 d d1).1,H8,d3,Up,cond_true,cond_false,TF,id]
    cases eqB x (i:Int)<;>cases leB x y<;>cases(d.cT.any fun y=>eqB y (i:Int))<;>rfl
 have hL:iter (kv m) FU 0=bif gB (AX m) m.aX then some (inR ((m.aX.length:Nat):Int) 1 6) else some false:=by
  refine lc m.aX (AX m) false _ (by omega) (fun k x hx hk=>?_) (by simp[kv,et])
  have hm:=RS hx
  simp only[kv,cR hk,bb,hx,et,h2 k x hm hk,Up,cond_true,AX]
  cases inR x.fT 0 2<;>cases gB (nbB m k x.cT) x.cT<;>rfl
 simp only[ma,hL,nr]
 cases inR ((m.aX.length:Nat):Int) 1 6<;>cases gB (AX m) m.aX<;>rfl
end Go.AM
namespace Go.AM
open Go.Proofs
attribute [local simp] bz be bb
def Ba (d:ay) (s:ag):Bool:=(eqB d.dq.ID.dL s.bv.ID.dL&&(eqB d.dq.ID.bM s.bv.ID.bM&&true))&&eqB d.dq.eP s.bv.eP
def xe (n:ab) (i:Nat) (d:ay):Bool:=match n.am[i]?,n.aY[i]? with
 |some s,some a=>kY d&&(iJ s&&(iI a&&(Ba d s&&(ew n.dW d.aU&&(ew n.dW s.aU&&(eqB s.bO.au (i:Int)&&vd a s.bO))))))
 |_,_=>false
def flB (n:ab) (f:bJ):Bool:=inR f.a9 0 (((n.ai.length:Nat):Int)-1)&&ew n.dW f.aU
def A7 (n:ab):Bool:=inR n.dh 0 (WR ((jZ .i64 1 ((n.dW.aX.length:Nat):Int))-1))&&(inR n.oD 0 100000&&leB 0 n.jX)
def mn (n:ab):Bool:=nr n.dW&&(kZ n.dR&&(!eqB n.dR.fj 0&&(leB ((n.ai.length:Nat):Int) 4&&(eqB ((n.am.length:Nat):Int) ((n.ai.length:Nat):Int)&&(eqB ((n.aY.length:Nat):Int) ((n.ai.length:Nat):Int)&&
 (gB (xe n) n.ai&&(leB ((n.aQ.length:Nat):Int) 200&&(n.aQ.all (flB n)&&A7 n))))))))
theorem Ib {m:aK} {x:Int} {b:Int} (h:inR x 0 b=true):ew m x=ltB x ((m.aX.length:Nat):Int):=by
 rw[bp] at h
 rw[Ut];simp[ew,inR,leB,ltB];omega
theorem flt_s {n:ab} (h:iB n):iter (fN n) FU 0=some (n.aQ.all (flB n)&&A7 n):=by
 have hl:=h.2.2.2.2.1
 have:=ic (L:=fN n) n.aQ (fun _ f=>flB n f) (some (A7 n)) (by omega) (fun k x hx hk=>by
  simp only[fN,cR hk,bb,hx,cp (show k<9223372036854775807 by omega),et,CI h.2.1.1,CI h.1.1,Up,cond_true,flB,ew]
  cases inR x.a9 0 (((n.ai.length:Nat):Int)-1)<;>cases inR x.aU 0 (((n.dW.aX.length:Nat):Int)-1)<;>rfl) (by
  simp only[fN,bz,cond_false,et,Up,A7,show leB 0 ((n.dW.aX.length:Nat):Int)=true from by simp[leB],cond_true]
  cases inR n.dh 0 (WR ((jZ .i64 1 ((n.dW.aX.length:Nat):Int))-1))<;>cases inR n.oD 0 100000<;>rfl)
 rw[this,rO]
 cases n.aQ.all (flB n)<;>rfl
section
variable {n:ab} (h:iB n) (e1:n.am.length=n.ai.length) (e2:n.aY.length=n.ai.length)
include h e1 e2
omit h in
theorem at_i {k:Nat} (hk:k<n.ai.length):∃s a,s∈n.am∧a∈n.aY∧n.am[k]?=some s∧n.aY[k]?=some a:=
 ⟨n.am[k]'(by omega),n.aY[k]'(by omega),Uz _,Uz _,v0 _,v0 _⟩
theorem mem_s {k:Nat} {d:ay} (hd:n.ai[k]?=some d):qV n (k:Int)=some (xe n k d):=by
 have hk:=(List.getElem?_eq_some_iff.1 hd).1
 obtain⟨s,a,s1,a1,s2,a2⟩:=at_i e1 e2 hk
 have od:=h.2.1.2 d (RS hd)
 have os:=h.2.2.1.2 s s1
 have oa:=h.2.2.2.1.2 a a1
 simp only[qV,bb,hd,s2,a2,LH od.2.1 od.1.1,xz os,tj oa,Dd oa,Up,xe,Ba]
 cases hv:kY d
 ·rfl
 cases hs:iJ s
 ·rfl
 have c1:ew n.dW d.aU=ltB d.aU ((n.dW.aX.length:Nat):Int):=by
  simp only[kY,hV] at hv;exact Ib hv.2.2.1
 have c2:ew n.dW s.aU=ltB s.aU ((n.dW.aX.length:Nat):Int):=by
  simp only[iJ,hV] at hs;exact Ib hs.2.2.2.2.2.2.2.2.2.2.2.1
 rw[c1,c2]
 cases iI a<;>cases(eqB d.dq.ID.dL s.bv.ID.dL&&(eqB d.dq.ID.bM s.bv.ID.bM&&true))<;>cases eqB d.dq.eP s.bv.eP<;>try rfl
 cases ltB d.aU ((n.dW.aX.length:Nat):Int)<;>cases ltB s.aU ((n.dW.aX.length:Nat):Int)<;>cases eqB s.bO.au (k:Int)<;>rfl
theorem QT:iter (fM n) FU 0=some (gB (xe n) n.ai&&(n.aQ.all (flB n)&&A7 n)):=by
 have hl:=h.2.1.1
 have:=ic (L:=fM n) n.ai (xe n) (some (n.aQ.all (flB n)&&A7 n)) (by omega) (fun k x hx hk=>by
  simp only[fM,cR hk,mem_s h e1 e2 hx,cp (show k<9223372036854775807 by omega),Up,cond_true]
  cases xe n k x<;>rfl) (by simp only[fM,bz,cond_false,flt_s h])
 rw[this]
 cases gB (xe n) n.ai<;>rfl
end
theorem yF {a b:Nat} (h:eqB (a:Int) (b:Int)=true):a=b:=by
 have:(a:Int)=b:=by simpa [eqB] using h
 omega
theorem Kk {n:ab} (h:iB n):jw n=some (mn n):=by
 simp only[jw,PZ h.1,Hk,Up,mn,IK 4,IK 200]
 cases nr n.dW<;>cases kZ n.dR<;>cases eqB n.dR.fj 0<;>cases leB ((n.ai.length:Nat):Int) 4<;>try rfl
 cases e1:eqB ((n.am.length:Nat):Int) ((n.ai.length:Nat):Int)<;>cases e2:eqB ((n.aY.length:Nat):Int) ((n.ai.length:Nat):Int)<;>try rfl
 rw[QT h (yF e1) (yF e2)]
 cases gB (xe n) n.ai<;>cases leB ((n.aQ.length:Nat):Int) 200<;>rfl
end Go.AM
namespace Go.AM
attribute [local simp] bz bb
theorem li {α:Type} {by_:Nat} {L:Int×List α→Option (cB (Int×List α) (List α))} (xs:List α) (hb:by_≤100000) (hl:xs.length≤1048576)
 (hs:∀(k:Nat) (x:α),xs[k]?=some x→k<xs.length→L ((k:Int),xs.take k)=bif cS by_ (xs.take k++[x]).length then some (.next (((k+1:Nat):Int),xs.take k++[x])) else none)
 (he:L ((xs.length:Nat),xs)=some (.done xs)):iter L FU (0,[])=some xs:=by
 have:=fy (step:=L) xs (fun k (_:Unit)=>((k:Int),xs.take k)) (fun _ _=>some (.next ())) (fun _=>some xs) (by omega)
  (fun k x _ hx hk=>by
   rw[hs k x hx hk,ct hb (by simp;omega)]
   have e:xs.take (k+1)=xs.take k++[x]:=by rw[Ux,hx];rfl
   simp[e]) (fun _=>by rw[List.take_length,he];rfl) ()
 rw[zx xs (fun _ _=>rfl)] at this
 exact this
theorem okL.le {α:Type} {ok:α→Prop} {xs:List α} (h:okL ok xs):xs.length≤1048576:=h.1
theorem BB {xs:List bw} (h:okL qF xs):oh xs=some xs:=by
 rw[oh,li (by_:=24) (L:=lN xs) xs (by omega) h.1 (fun k x hx hk=>by
  simp[lN,cR hk,hx,cp (show k<9223372036854775807 by have:=h.1;omega),ct (by_:=1) (n:=x.aN.length) (by omega) (by have:=(h.2 x (RS hx)).1;omega)]) (by simp[lN])]
 rfl
theorem F8 {xs:List ae} (h:okL f9 xs):qi xs=some xs:=by
 rw[qi,li (by_:=32) (L:=nq xs) xs (by omega) h.1 (fun k x hx hk=>by
  simp[nq,cR hk,hx,cp (show k<9223372036854775807 by have:=h.1;omega),ct (by_:=1) (n:=x.aN.length) (by omega) (by have:=(h.2 x (RS hx)).1;omega)]) (by simp[nq])]
 rfl
theorem Ay {w:a8} (h:lJ w):jM w=some w:=by rw[jM,F8 h];rfl
theorem M4 {r:aM} (h:eN r):sZ r=some r:=by rw[sZ,F8 h.1,Up,BB h.2];rfl
theorem Rb {p:bA} (h:eg p):ql p=some p:=by
 rw[ql,T8,ct (by omega) (by have:=h.1;omega)];rfl
theorem mG {s:ag} (h:eO s):ge s=some s:=by rw[ge,Rb h.1,Up,BB h.2.1,Up,Ay h.2.2];rfl
theorem vw {d:ay} (h:f5 d):ia d=some d:=by rw[ia,M4 h];rfl
theorem yW {a:aj} (h:jH a):jq a=some a:=by
 rw[jq,T8,ct (by omega) (by have:=h.1;omega)];rfl
theorem Pg {x:av} (h:nU x):wx x=some x:=by
 rw[wx,T8,ct (by omega) (by have:=h.1;omega)];rfl
theorem EV {f:bJ} (h:jQ f):ou f=some f:=by rw[ou,Pg h];rfl
theorem map_c {m:aK} (h:fK m):mf m=some m:=by
 rw[mf,li (by_:=32) (L:=gP m) m.aX (by omega) h.1 (fun k x hx hk=>by
  simp[gP,cR hk,hx,cp (show k<9223372036854775807 by have:=h.1;omega),ct (by_:=8) (n:=x.cT.length) (by omega) (by have:=(h.2 x (RS hx)).1;omega)]) (by simp[gP])]
 rfl
theorem P6 {n:ab} (h:iB n):s7 n=some n:=by
 obtain⟨h1,h2,h3,h4,h5⟩:=h
 rw[s7,map_c h1,Up,
  li (by_:=144) (L:=o9 n) n.ai (by omega) h2.1 (fun k x hx hk=>by simp[o9,cR hk,hx,cp (show k<9223372036854775807 by have:=h2.1;omega),vw (h2.2 x (RS hx))]) (by simp[o9]),Up,
  li (by_:=288) (L:=pa n) n.am (by omega) h3.1 (fun k x hx hk=>by simp[pa,cR hk,hx,cp (show k<9223372036854775807 by have:=h3.1;omega),mG (h3.2 x (RS hx))]) (by simp[pa]),Up,
  li (by_:=48) (L:=pb n) n.aY (by omega) h4.1 (fun k x hx hk=>by simp[pb,cR hk,hx,cp (show k<9223372036854775807 by have:=h4.1;omega),yW (h4.2 x (RS hx))]) (by simp[pb]),Up,
  li (by_:=176) (L:=pc n) n.aQ (by omega) h5.1 (fun k x hx hk=>by simp[pc,cR hk,hx,cp (show k<9223372036854775807 by have:=h5.1;omega),EV (h5.2 x (RS hx))]) (by simp[pc])]
 rfl
end Go.AM
namespace Go.AM
open Go.Proofs
attribute [local simp] bz be bb
theorem Gd (n a b:Int):cz n a b=some (inR n a b):=by unfold cz inR;cases leB a n<;>rfl
theorem KS (x m:Int):(Ur x m)%m=x%m:=by
 have h:=Int.mul_tdiv_add_tmod x m
 have h2:x%m=(m*x.tdiv m+x.tmod m)%m:=by rw[h]
 rw[h2,Int.mul_add_emod_self_left]
theorem NG {m:Int} (x:Int) (hm:0<m): -m<Ur x m∧Ur x m<m:=⟨Int.lt_tmod_of_pos x hm,Int.tmod_lt_of_pos x hm⟩
theorem tH (x:Int) {m:Int} (h1:1≤m) (h2:m≤1000000000000):Bm x m=some (x%m):=by
 obtain⟨a,b⟩:=NG x (show 0<m by omega)
 have hr:inR m 1 1000000000000=true:=bp.2 ⟨h1,h2⟩
 have hz:(!eqB m 0)=true:=by simp[eqB];omega
 simp only[Bm,Gd,hr,hz,Up,TF,cond_false,cond_true]
 rw[bB (by omega),Uw (by omega),Int.add_emod_right,KS]
abbrev hM:Int:=2147483647
def BU (v x:Int):Int:=(v*1000003+x%hM+13)%hM
theorem zF (v x:Int):0≤BU v x∧BU v x<hM:=⟨UJ _ (by decide),UH _ (by decide)⟩
theorem Rf {v x:Int} (h0:0≤v) (h1:v<hM):Ur (WR (WR (WR (v*1000003)+x%hM)+13)) hM=BU v x:=by
 have a:=UJ x (show hM≠0 by decide)
 have b:=UH x (show 0<hM by decide)
 unfold hM at*
 rw[bB (n:=v*1000003) (by omega),bB (n:=v*1000003+x%2147483647) (by omega),bB (n:=v*1000003+x%2147483647+13) (by omega),Uw (by omega)]
 rfl
def Iw (v:Int) (xs:List Int):Int:=xs.foldl BU v
theorem EW:∀(xs:List Int) (v:Int),0≤v→v<hM→jV (fun(s x:Int)=>some (cB.next (ρ:=Int) (Ur (WR (WR (WR (s*1000003)+x%hM)+13)) hM))) some xs v=some (Iw v xs)
 |[],v,_,_=>rfl
 |x::xs,v,h0,h1=>by
  rw[jV,Rf h0 h1]
  exact EW xs _ (zF v x).1 (zF v x).2
theorem Nf {xs:List Int} (hl:xs.length≤1048576):Jj xs=some (Iw 11 xs):=by
 have:=fy (step:=sM xs) xs (fun k (s:Int)=>(s,(k:Int))) (fun s x=>some (cB.next (Ur (WR (WR (WR (s*1000003)+x%hM)+13)) hM))) some (by omega)
  (fun k x s hx hk=>by
   simp only[sM,cR hk,bb,hx,tH x (m:=2147483647) (by omega) (by omega),cp (show k<9223372036854775807 by omega),Up,cond_true];rfl) (fun s=>by simp[sM]) 11
 rw[Jj,show iter (sM xs) FU (11,0)=_ from this,EW xs 11 (by decide) (by decide)]
 rfl
def eh (k:Int) (xs:List Int):Int:=BU (Iw (BU 11 k) xs) k
theorem nQ (k:Int) (xs:List Int):0≤eh k xs∧eh k xs<hM:=zF _ _
theorem dB {xs:List Int} (hl:xs.length≤100000) (k:Int):d6 k xs=some (eh k xs):=by
 have a1:cS 8 ([k]++xs).length=true:=ct (by omega) (by simp;omega)
 have a2:cS 8 (([k]++xs)++[k]).length=true:=ct (by omega) (by simp;omega)
 rw[d6,a1,a2]
 simp only[cond_true]
 rw[Nf (by simp;omega)]
 simp[Iw,eh]
end Go.AM
namespace Go.AM
open Go.Proofs
attribute [local simp] bz be bb
def dk (k x:Int):Int:=if eh k [9,x]=0 then 1 else eh k [9,x]
theorem pI (k x:Int):lx k x=some (dk k x):=by
 have:=(nQ k [9,x]).1
 rw[lx,dB (by simp)]
 simp only[Up,dk,Ah]
 by_cases h:eh k [9,x]=0
 ·rw[h,show ltB 1 0=false from ltB_f.2 (by omega)];simp
 ·by_cases h1:eh k [9,x]=1
  ·rw[h1];simp
  ·rw[show ltB 1 (eh k [9,x])=true from ltB_t.2 (by omega)];simp[h]
def IG (k:Int) (xs:List Int):Int:=xs.foldl dk k
theorem BW:∀(xs:List Int) (v:Int),jV (fun(s x:Int)=>some (cB.next (ρ:=Int) (dk s x))) some xs v=some (IG v xs)
 |[],v=>rfl
 |x::xs,v=>by rw[jV];exact BW xs _
theorem sO {p:gW} (hl:p.Steps.length≤1048576) (k:Int):mb k p=some (IG k p.Steps):=by
 have:=fy (step:=iF p) p.Steps (fun j (s:Int)=>(s,(j:Int))) (fun s x=>some (cB.next (dk s x))) some (by omega)
  (fun j x s hx hj=>by simp[iF,cR hj,hx,cp (show j<9223372036854775807 by omega),pI]) (fun s=>by simp[iF]) k
 rw[mb,show iter (iF p) FU (k,0)=_ from this,BW]
 rfl
def Hp (k e:Int):Int:=IG k [1,3,e]
theorem qN (k e:Int):nB k e=some (Hp k e):=by
 rw[nB,pK]
 simp only[Up]
 rw[sO (by simp)];rfl
def okB (xs:List Int):Prop:=∀x∈xs,sE x
theorem La {x:Int} (h:sE x):WR x=x:=bB (by simp only[sE] at h;omega)
theorem BC:∀(xs acc:List Int),okB xs→acc.length+xs.length≤100000→jV (fun(s:List Int) (x:Int)=>bif cS 8 (s++[WR x]).length then some (cB.next (ρ:=List Int) (s++[WR x])) else none) some xs acc=some (acc++xs)
 |[],acc,_,_=>by simp[jV]
 |x::xs,acc,h,hl=>by
  simp only[SQ] at hl
  rw[jV,show cS 8 (acc++[WR x]).length=true from fB (by simp;omega) (by simp;omega),La (h x (.head _))]
  simp only[cond_true]
  rw[BC xs (acc++[x]) (fun y hy=>h y (.tail _ hy)) (by simp;omega)]
  simp
theorem Cg {xs:List Int} (hb:okB xs) (hl:xs.length≤50000):mY xs=some (((xs.length:Nat):Int)::xs):=by
 have:=fy (step:=gX xs) xs (fun j (s:List Int)=>((j:Int),s)) (fun(s:List Int) (x:Int)=>bif cS 8 (s++[WR x]).length then some (cB.next (ρ:=List Int) (s++[WR x])) else none) some (by omega)
  (fun j x s hx hj=>by
   simp only[gX,cR hj,bb,hx,cp (show j<9223372036854775807 by omega),Up,cond_true]
   cases cS 8 (s++[WR x]).length<;>rfl) (fun s=>by simp[gX]) [((xs.length:Nat):Int)]
 rw[mY,show iter (gX xs) FU (0,[((xs.length:Nat):Int)])=_ from this,BC xs _ hb (by simp;omega)]
 rfl
def D6 (m:bG):Bool:=inR m.c9 0 1&&(inR m.fx 1 100000&&(leB ((m.aN.length:Nat):Int) 60&&inR m.im 0 2147483646))
theorem n8 (m:bG):g7 m=some (D6 m):=by
 simp only[g7,Gd,Up,D6]
 cases inR m.c9 0 1<;>cases inR m.fx 1 100000<;>cases leB ((m.aN.length:Nat):Int) 60<;>rfl
def mac (k:Int) (m:bG):Int:=eh k ([m.c9,m.fx]++(((m.aN.length:Nat):Int)::m.aN))
theorem uz {m:bG} (hb:okB m.aN) (hl:m.aN.length≤50000) (k:Int):og k m=some (eqB m.im (mac k m)):=by
 rw[og,xF,Cg hb hl]
 simp only[Up]
 rw[show cS 8 ([m.c9,m.fx]++(((m.aN.length:Nat):Int)::m.aN)).length=true from fB (by simp;omega) (by simp;omega),dB (by simp;omega)]
 rfl
theorem Gx {m:bG} (h:D6 m=true):m.aN.length≤60:=by
 simp only[D6,hV] at h
 have:=t0 h.2.2.1
 omega
def tf (k:Int) (p:av):Bool:=D6 p.aZ&&(eqB p.aZ.c9 1&&eqB p.aZ.im (mac (Hp k p.aR) p.aZ))
theorem rD {p:av} (hb:okB p.aZ.aN) (k:Int):kP k p=some (tf k p):=by
 rw[kP,n8]
 simp only[Up,tf,qN]
 cases hv:D6 p.aZ
 ·rfl
 ·rw[uz hb (Nat.le_trans (Gx hv) (by omega))]
  cases eqB p.aZ.c9 1<;>rfl
def d1 (k:Int) (i:Nat) (x:Int):Int:=(x-eh k [(i:Int)]%256)%256
def wX (k:Int) (xs:List Int):List Int:=xs.mapIdx (fun i x=>d1 k i x)
theorem EL (k:Int) (xs:List Int):(wX k xs).length=xs.length:=by simp[wX]
theorem Oz (k:Int) (xs:List Int):okB (wX k xs):=by
 intro x hx
 obtain⟨i,hi⟩:=SS hx
 simp only[wX,UB] at hi
 cases h:xs[i]? with
 |none=>rw[h] at hi;cases hi
 |some y=>
  rw[h] at hi;simp at hi;subst hi
  simp only[sE,d1]
  omega
theorem N8 (n:Int):IntKind.u8.wrap n=n%256:=by rw[IntKind.wrap_u8]
theorem FY {xs:List Int} (hb:okB xs) (hl:xs.length≤50000) (k:Int):vY k xs=some (wX k xs):=by
 have goal:Wp (iter (sK k xs) FU (0,[])) (fun r=>r=wX k xs):=by
  refine Wp.iterF (fun s=>∃i:Nat,i≤xs.length∧s.1=(i:Int)∧s.2=(wX k xs).take i) (fun s=>((xs.length:Int)-s.1).toNat) ⟨0,by omega,rfl,rfl⟩ (by simp;omega) ?_
  rintro⟨v2,v3⟩ ⟨i,hi,rfl,rfl⟩
  simp only[sK]
  refine Wp.cond (fun hlt=>?_) (fun hlt=>?_)
  ·have hlt:=km hlt
   have hil:i<xs.length:=by omega
   refine Wp.ix (by omega) (by omega) fun x hx hxi=>?_
   simp only[Us] at hxi
   have hx8:=hb x hx
   have hr:=nQ k [(i:Int)]
   have e1:Ur (eh k [(i:Int)]) 256=eh k [(i:Int)]%256:=Uw hr.1
   have hb8:0≤eh k [(i:Int)]%256∧eh k [(i:Int)]%256<256:=by omega
   simp only[sE] at hx8
   refine Wp.eq (dB (by simp) _) (Wp.eq (tH _ (by omega) (by omega)) ?_)
   have hlen:((wX k xs).take i).length=i:=by rw[UK,EL];omega
   rw[e1,La (hb x hx),bB (by omega),N8]
   have e4:(x-eh k [(i:Int)]%256)%256%256=d1 k i x:=by rw[d1];omega
   rw[e4]
   refine Wp.ok (fB (by simp only[Tq,hlen,SQ,Uu];omega) (by simp only[Tq,hlen,SQ,Uu];omega)) (Wp.some ?_)
   have e3:WR ((i:Int)+1)=((i+1:Nat):Int):=by rw[bB (by omega)];rfl
   rw[e3]
   have hxd:(wX k xs)[i]?=some (d1 k i x):=by simp only[wX,UB,hxi,UC]
   refine⟨⟨i+1,by omega,rfl,by rw[Ux,hxd];rfl⟩,?_⟩
   simp only;omega
  ·have hlt:=oF hlt
   refine Wp.some ?_
   rw[UD (by rw[EL];omega)]
 obtain⟨r,h1,h2⟩:=goal.ex
 rw[vY,h1,h2];rfl
end Go.AM
namespace Go.AM
attribute [local simp] bz be bb
def e1 (k:Int) (i:Nat) (x:Int):Int:=(x+eh k [(i:Int)]%256)%256
def rW (k:Int) (xs:List Int):List Int:=xs.mapIdx (fun i x=>e1 k i x)
@[simp] theorem encL_len (k:Int) (xs:List Int):(rW k xs).length=xs.length:=by simp[rW]
theorem Im (k:Int) (xs:List Int):okB (rW k xs):=by
 intro x hx
 obtain⟨i,hi⟩:=SS hx
 simp only[rW,UB] at hi
 cases h:xs[i]? with
 |none=>rw[h] at hi;cases hi
 |some y=>rw[h] at hi;simp at hi;subst hi;simp only[sE,e1];omega
theorem OA {xs:List Int} (h:okB xs) (k:Int):wX k (rW k xs)=xs:=by
 apply List.ext_getElem?
 intro i
 simp only[wX,rW,UB,Option.map_map]
 cases hx:xs[i]? with
 |none=>rfl
 |some x=>
  have:=h x (RS hx)
  simp only[sE] at this
  simp only[UC,Function.comp,d1,e1,Option.some.injEq]
  omega
theorem FZ {xs:List Int} (hb:okB xs) (hl:xs.length≤50000) (k:Int):vZ k xs=some (rW k xs):=by
 have goal:Wp (iter (sL k xs) FU (0,[])) (fun r=>r=rW k xs):=by
  refine Wp.iterF (fun s=>∃i:Nat,i≤xs.length∧s.1=(i:Int)∧s.2=(rW k xs).take i) (fun s=>((xs.length:Int)-s.1).toNat) ⟨0,by omega,rfl,rfl⟩ (by simp;omega) ?_
  rintro⟨v2,v3⟩ ⟨i,hi,rfl,rfl⟩
  simp only[sL]
  refine Wp.cond (fun hlt=>?_) (fun hlt=>?_)
  ·have hlt:=km hlt
   have hil:i<xs.length:=by omega
   refine Wp.ix (by omega) (by omega) fun x hx hxi=>?_
   simp only[Us] at hxi
   have hx8:=hb x hx
   have hr:=nQ k [(i:Int)]
   have t1:Ur (eh k [(i:Int)]) 256=eh k [(i:Int)]%256:=Uw hr.1
   have hb8:0≤eh k [(i:Int)]%256∧eh k [(i:Int)]%256<256:=by omega
   simp only[sE] at hx8
   refine Wp.eq (dB (by simp) _) ?_
   have hlen:((rW k xs).take i).length=i:=by rw[UK,encL_len];omega
   rw[t1,La (hb x hx),bB (by omega),Uw (by omega),N8]
   have t4:(x+eh k [(i:Int)]%256)%256%256=e1 k i x:=by rw[e1];omega
   rw[t4]
   refine Wp.ok (fB (by simp only[Tq,hlen,SQ,Uu];omega) (by simp only[Tq,hlen,SQ,Uu];omega)) (Wp.some ?_)
   have t3:WR ((i:Int)+1)=((i+1:Nat):Int):=by rw[bB (by omega)];rfl
   rw[t3]
   have hxd:(rW k xs)[i]?=some (e1 k i x):=by simp only[rW,UB,hxi,UC]
   refine⟨⟨i+1,by omega,rfl,by rw[Ux,hxd];rfl⟩,?_⟩
   simp only;omega
  ·have hlt:=oF hlt
   refine Wp.some ?_
   rw[UD (by rw[encL_len];omega)]
 obtain⟨r,h1,h2⟩:=goal.ex
 rw[vZ,h1,h2];rfl
theorem Ms {m:bG} (hb:okB m.aN) (hl:m.aN.length≤50000) (k:Int):xF k m=some (mac k m):=by
 rw[xF,Cg hb hl]
 simp only[Up]
 rw[show cS 8 ([m.c9,m.fx]++(((m.aN.length:Nat):Int)::m.aN)).length=true from fB (by simp;omega) (by simp;omega),dB (by simp;omega)]
 rfl
def Av (k c:Int) (b:List Int):bG:=⟨1,c,rW (dk k (2*c+1)) b,mac k ⟨1,c,rW (dk k (2*c+1)) b,0⟩⟩
def gJ (root g e:Int) (x:ae):av:=⟨g,e,Av (Hp root e) x.cO x.aN⟩
theorem Hz {x:ae} (h0:0≤x.cO) (h1:x.cO≤1000000) (hb:okB x.aN) (hl:x.aN.length≤50000) (root g e:Int):n9 root g e x=some (gJ root g e x):=by
 simp only[n9,qN,Al,Up,bB (n:=2*x.cO) (by omega),bB (n:=2*x.cO+1) (by omega),pI,FZ hb hl,Ms (m:=⟨1,x.cO,rW _ x.aN,0⟩) (Im _ _) (by simpa using hl)]
 rfl
theorem hM_le (k:Int) (xs:List Int):inR (eh k xs) 0 2147483646=true:=by have:=nQ k xs;rw[bp];unfold hM at this;omega
theorem Pr {c:Int} {b:List Int} (h0:1≤c) (h1:c≤100000) (hl:b.length≤60) (k:Int):D6 (Av k c b)=true:=by
 simp only[D6,Av,encL_len,mac];rw[hM_le];simp[inR,leB];omega
theorem Rm {x:ae} (h0:1≤x.cO) (h1:x.cO≤100000) (hl:x.aN.length≤60) (root g e:Int):tf root (gJ root g e x)=true:=by
 simp only[tf,gJ,Pr h0 h1 hl];simp[Av,mac,eqB]
def pZ (root g e:Int) (x:av):ae×Bool:=
 if x.aa=g∧x.aR=e∧tf root x=true then(⟨x.aZ.fx,wX (dk (Hp root e) (2*x.aZ.fx+1)) x.aZ.aN⟩,true) else(gM,false)
theorem Ko {p:av} (hb:okB p.aZ.aN) (k g e:Int):True∧qL k g e p=some (pZ k g e p):=by
 simp only[qL,rD hb,qN,Up,pZ]
 cases hg:eqB p.aa g
 ·rw[if_neg (fun h=>EN hg h.1)];exact⟨by first|rfl|trivial,by first|rfl|trivial⟩
 cases he:eqB p.aR e
 ·rw[if_neg (fun h=>EN he h.2.1)];exact⟨by first|rfl|trivial,by first|rfl|trivial⟩
 cases hv:tf k p
 ·rw[if_neg (fun h=>by cases h.2.2)];exact⟨by first|rfl|trivial,by first|rfl|trivial⟩
 have he:=mR he
 rw[if_pos ⟨mR hg,he,rfl⟩]
 simp only[tf,hV] at hv
 obtain⟨h1,h2,h3⟩:=hv
 have hlen:=Gx h1
 have hd:=mR h2
 have hm:=mR h3
 have hcnt:1≤p.aZ.fx∧p.aZ.fx≤100000:=by
  simp only[D6,hV] at h1
  exact bp.1 h1.2.1
 rw[he] at hm
 have ek:eqB p.aZ.im (mac (Hp k e) p.aZ)=true:=by rw[hm];simp
 simp only[TF,cond_false,uW,n8,uz hb (show p.aZ.aN.length≤50000 by omega),pI,FY hb (show p.aZ.aN.length≤50000 by omega),h1,h2,ek,show leB p.aZ.fx 0=false from leB_f.2 (by omega),Up,hd,bB (n:=2*p.aZ.fx) (by omega),bB (n:=2*p.aZ.fx+1) (by omega)]
 refine⟨?_,?_⟩<;>first|trivial|rfl|(rw[be];rfl)
theorem Kp {x:ae} (h0:1≤x.cO) (h1:x.cO≤100000) (hb:okB x.aN) (hl:x.aN.length≤60) (root g e:Int):pZ root g e (gJ root g e x)=(x,true):=by
 rw[pZ,if_pos ⟨rfl,rfl,Rm h0 h1 hl _ _ _⟩]
 simp[gJ,Av,OA hb]
def No (root:Int) (m:az):Int:=eh (IG root [1,2]) [23,m.aP,m.aU,m.aa,m.aR,m.bM]
def sX (root:Int) (m:az):az:={m with im:=No root m}
def tg (root:Int) (m:az):Bool:=eqB m.im (No root m)
theorem Np (root:Int) (m:az):oc root m=some (No root m):=by simp[oc,kL,sO,dB,No]
theorem xA (root:Int) (m:az):gO root m=some (sX root m):=by simp[gO,Np,sX]
theorem D7 (root:Int) (m:az):fF root m=some (tg root m):=by simp[fF,Np,tg]
@[simp] theorem vSig_sign (root:Int) (m:az):tg root (sX root m)=true:=by simp[tg,sX,No,eqB]
def kq (m:az):Bool:=inR m.aP 1 8&&(inR m.aU 0 5&&(inR m.aa 0 999999&&(inR m.aR 0 999999&&inR m.bM 0 1000000000000)))
theorem I3 (m:az):iE m=some (kq m):=by
 simp only[iE,et,Up,kq]
 cases inR m.aP 1 8<;>cases inR m.aU 0 5<;>cases inR m.aa 0 999999<;>cases inR m.aR 0 999999<;>rfl
def msk (k r:Int):Int:=eh k [1,r]%1000000
theorem G5 (k r:Int):0≤msk k r∧msk k r<1000000:=by unfold msk;omega
theorem P0 (k r:Int):jl k r=some (msk k r):=by simp[jl,dB,tH,msk]
def unm (k r a:Int):Int:=(a%1000000-msk k r)%1000000
theorem NN (k r a:Int):0≤unm k r a∧unm k r a≤999999:=by unfold unm;omega
theorem Qf (k r a:Int):hO k r a=some (unm k r a):=by
 have:=G5 k r
 simp only[hO,tH _ (show(1:Int)≤1000000 by omega) (by omega),P0,Up,unm];rw[bB (by omega)]
def G4 (x:Int):Int:=if x=0 then 1 else x
def vec (k r q:Int):cH:=bif inR q 0 999999 then⟨r,(q+msk k r)%1000000,eh k [2,r,q],eh k [3,r],G4 (eh k [4,r,q])⟩ else cg
theorem OV (k:Int) (xs:List Int):1≤G4 (eh k xs)∧G4 (eh k xs)≤2147483646:=by have:=nQ k xs;unfold hM G4 at*;split<;>omega
theorem JA (k r q:Int):fP k r q=some (vec k r q):=by
 simp only[fP,et,Up,vec]
 cases hq:inR q 0 999999
 ·rfl
 ·rw[bp] at hq
  have h1:=G5 k r
  have h2:=nQ k [4,r,q]
  simp only[P0,tH _ (show(1:Int)≤1000000 by omega) (by omega),dB (show [2,r,q].length≤100000 by simp),dB (show [3,r].length≤100000 by simp),dB (show [4,r,q].length≤100000 by simp),Up,Ah,TF,cond_false,cond_true]
  rw[bB (by omega)]
  by_cases h:eh k [4,r,q]=0
  ·rw[show ltB 1 (eh k [4,r,q])=false from ltB_f.2 (by omega)];simp[G4,h]
  ·by_cases h':eh k [4,r,q]=1
   ·rw[h'];simp[ltB,G4]
   ·rw[show ltB 1 (eh k [4,r,q])=true from ltB_t.2 (by omega)];simp[G4,h]
theorem Jv {k r q:Int} (h0:0≤q) (h1:q≤999999):unm k r ((q+msk k r)%1000000)=q:=by have:=G5 k r;unfold unm;omega
def i6 (k last:Int) (v:cH):Int:=
 if v.im≠eh k [2,v.eJ,unm k v.eJ v.gx] then 1 else if unm k v.eJ v.gx≤last then 2 else if last<unm k v.eJ v.gx-1000 then 3 else 0
theorem Jy (k last:Int) (v:cH):jo k last v=some (i6 k last v):=by
 have hu:=NN k v.eJ v.gx
 simp only[jo,Qf,dB (show [2,v.eJ,unm k v.eJ v.gx].length≤100000 by simp),Up,i6]
 rw[bB (by omega)]
 by_cases h1:v.im=eh k [2,v.eJ,unm k v.eJ v.gx]
 ·rw[show eqB v.im (eh k [2,v.eJ,unm k v.eJ v.gx])=true from eqB_t.2 h1]
  simp only[ne_eq,h1,not_true_eq_false,if_false,TF,cond_false]
  by_cases h2:unm k v.eJ v.gx≤last
  ·rw[show leB (unm k v.eJ v.gx) last=true from leB_t.2 h2,if_pos h2];rfl
  ·rw[show leB (unm k v.eJ v.gx) last=false from leB_f.2 (by omega),if_neg h2]
   by_cases h3:last<unm k v.eJ v.gx-1000
   ·rw[show ltB last (unm k v.eJ v.gx-1000)=true from ltB_t.2 h3,if_pos h3];rfl
   ·rw[show ltB last (unm k v.eJ v.gx-1000)=false from ltB_f.2 (by omega),if_neg h3];rfl
 ·rw[show eqB v.im (eh k [2,v.eJ,unm k v.eJ v.gx])=false from eqB_f.2 h1]
  simp[h1]
theorem KV {k r q:Int} (h0:0≤q) (h1:q≤999999) (last:Int):i6 k last (vec k r q)=if q≤last then 2 else if last<q-1000 then 3 else 0:=by
 have hq:inR q 0 999999=true:=bp.2 ⟨h0,h1⟩
 simp only[vec,hq,cond_true,i6,Jv h0 h1,ne_eq,not_true_eq_false,if_false]
def Ey (id:dy) (q:Int):Int:=eh 29 [id.dL,id.bM,q]
theorem Ls (id:dy) (q:Int):iC id q=some (Ey id q):=by simp[iC,dB,Ey]
end Go.AM
namespace Go.AM
attribute [local simp] bz be bb
theorem Gn {α:Type} (p:α→Bool):∀(xs:List α) (i:Nat),i<(xs.takeWhile p).length→∃x,xs[i]?=some x∧p x=true
 |[],i,h=>by simp at h
 |x::xs,i,h=>by
  rw[UA] at h
  cases hp:p x<;>rw[hp] at h
  ·simp at h
  ·cases i with
   |zero=>exact⟨x,rfl,hp⟩
   |succ i=>exact Gn p xs i (by simpa using h)
theorem Gl {α:Type} (p:α→Bool):∀(xs:List α) (x:α),xs[(xs.takeWhile p).length]?=some x→p x=false
 |[],x,h=>by simp at h
 |y::xs,x,h=>by
  rw[UA] at h
  cases hp:p y<;>rw[hp] at h
  ·simp at h;subst h;exact hp
  ·exact Gl p xs x (by simpa using h)
theorem Gm {α:Type} (p:α→Bool) (xs:List α):(xs.takeWhile p).length≤xs.length:=(List.takeWhile_prefix p).length_le
theorem AW {α:Type} (p:α→Bool):∀xs:List α,xs.take (xs.takeWhile p).length=xs.takeWhile p
 |[]=>rfl
 |x::xs=>by
  rw[UA]
  cases p x
  ·rfl
  ·simp[AW p xs]
theorem AU {α:Type} (p:α→Bool):∀xs:List α,xs.drop (xs.takeWhile p).length=xs.dropWhile p
 |[]=>rfl
 |x::xs=>by
  rw[UA,List.dropWhile_cons]
  cases p x
  ·rfl
  ·simp[AU p xs]
theorem AZ {α:Type} {L:Int→Option (cB Int Int)} (xs:List α) (p:α→Bool) (hl:xs.length≤1048576)
 (h1:∀(k:Nat) (x:α),xs[k]?=some x→L k=bif p x then some (.next (WR ((k:Int)+1))) else some (.done k)) (h0:L xs.length=some (.done xs.length)):iter L FU 0=some (((xs.takeWhile p).length:Nat):Int):=by
 have hle:=Gm p xs
 have:Wp (iter L FU 0) (fun r=>r=(((xs.takeWhile p).length:Nat):Int)):=by
  refine Wp.iterF (fun s=>∃i:Nat,s=(i:Int)∧i≤(xs.takeWhile p).length) (fun s=>((xs.length:Int)-s).toNat) ⟨0,rfl,by omega⟩ (by omega) ?_
  rintro _ ⟨i,rfl,hi⟩
  by_cases e:i<(xs.takeWhile p).length
  ·obtain⟨x,hx,hp⟩:=Gn p xs i e
   rw[h1 i x hx,hp]
   exact⟨⟨i+1,by rw[bB (by omega)];rfl,by omega⟩,by simp only[bB (show-9223372036854775808≤(i:Int)+1∧(i:Int)+1≤9223372036854775807 by omega)];omega⟩
  ·have e:i=(xs.takeWhile p).length:=by omega
   by_cases hn:i<xs.length
   ·obtain⟨x,hx⟩:∃x,xs[i]?=some x:=⟨_,v0 hn⟩
    rw[h1 i x hx,Gl p xs x (by rw[←e];exact hx)]
    subst e;rfl
   ·have:i=xs.length:=by omega
    subst this
    rw[h0]
    show((xs.length:Nat):Int)=_
    omega
 obtain⟨r,hr,rfl⟩:=this.ex
 exact hr
def before (q:Int) (x:ae):Bool:=ltB x.cO q
def mT (x:ae) (xs:List ae):List ae:=xs.takeWhile (before x.cO)++[x]++xs.dropWhile (before x.cO)
def nK:List ae→Int→List bw→aM
 |[],n,dl=>⟨n,[],dl⟩
 |x::xs,n,dl=>if x.cO=n∧dl.length<24 then nK xs (n+1) (dl++[⟨x.aN⟩]) else⟨n,x::xs,dl⟩
def yn (r:aM) (x:ae):Bool:=!px r||(ltB 60 ((x.aN.length:Nat):Int)||(!inR x.cO r.bj (r.bj+7)||(r.aD.any (fun y=>eqB y.cO x.cO)||leB 24 ((r.aG.length:Nat):Int))))
def mj (r:aM) (x:ae):aM:=
 bif yn r x then r else
  let o:=nK (mT x r.aD) r.bj r.aG
  bif leB 24 ((o.aG.length:Nat):Int) then {o with aD:=[]} else o
theorem BI:∀(xs:List ae) (n:Int) (dl:List bw),dl.length≤24→(nK xs n dl).aG.length≤24
 |[],n,dl,h=>h
 |x::xs,n,dl,h=>by
  rw[nK];split
  ·exact BI xs _ _ (by simp;omega)
  ·exact h
theorem BJ {L:aM→Option (cB aM aM)}
 (hL:∀v:aM,v.aD.length≤1000→v.aG.length≤24→0≤v.bj→v.bj≤2000000→L v=match v.aD with
  |[]=>some (.done v)
  |x::xs=>if x.cO=v.bj∧v.aG.length<24 then some (.next ⟨v.bj+1,xs,v.aG++[⟨x.aN⟩]⟩) else some (.done v)):
 ∀(xs:List ae) (n:Int) (dl:List bw) (fu:Nat),xs.length≤1000→dl.length≤24→0≤n→n+xs.length≤2000000→xs.length<fu→iter L fu ⟨n,xs,dl⟩=some (nK xs n dl)
 |[],n,dl,fu,h1,h2,h3,h4,h5=>by
  cases fu with
  |zero=>omega
  |succ fu=>rw[iter,hL _ h1 h2 h3 (by simpa using h4)];rfl
 |x::xs,n,dl,fu,h1,h2,h3,h4,h5=>by
  simp only[SQ] at h1 h4 h5
  cases fu with
  |zero=>omega
  |succ fu=>
   rw[iter,hL ⟨n,x::xs,dl⟩ (by simpa using h1) h2 h3 (by simp only;omega),nK]
   simp only
   by_cases e:x.cO=n∧dl.length<24
   ·rw[if_pos e,if_pos e]
    exact BJ hL xs (n+1) _ fu (by omega) (by simp;omega) (by omega) (by omega) (by omega)
   ·rw[if_neg e,if_neg e]
theorem LY {xs:List ae} (h:xs.length≤1048576) (q:Int):∃r,AB xs q=some r∧leB 0 r=xs.any (fun y=>eqB y.cO q):=by
 refine⟨_,w6 (L:=o7 xs q) xs (fun y=>eqB y.cO q) (by omega) (fun k x hx hk=>?_) ?_,?_⟩
 ·simp[o7,cR hk,hx];cases eqB x.cO q<;>simp[cp (show k<9223372036854775807 by omega)]
 ·simp[o7]
 ·rcases w9 (fun y:ae=>eqB y.cO q) xs 0 with⟨e,ha⟩|⟨j,e,x,hx,hp,_⟩
  ·rw[show((0:Nat):Int)=0 from rfl] at e
   rw[e,show xs.any (fun y=>eqB y.cO q)=false from by rw[List.any_eq_false];intro y hy;simp[ha y hy]];simp[leB]
  ·rw[show((0:Nat):Int)=0 from rfl] at e
   rw[e,show xs.any (fun y=>eqB y.cO q)=true from List.any_eq_true.2 ⟨x,RS hx,hp⟩,leB_t];omega
theorem tV {r:aM} (h:px r=true):r.bj=(r.aG.length:Int)+1∧r.aG.length≤24∧r.aD.length≤8:=by
 simp only[px,hV] at h
 obtain⟨h1,h2,h3,h4,h5⟩:=h
 have h2:=t0 h2
 have h4:=t0 h4
 have h1:=mR h1
 rw[bB (by omega)] at h1
 omega
theorem pV (x:ae) (xs:List ae):(mT x xs).length=xs.length+1:=by
 have:(xs.takeWhile (before x.cO)).length+(xs.dropWhile (before x.cO)).length=xs.length:=by rw[←Tq,List.takeWhile_append_dropWhile]
 simp[mT];omega
theorem L2_i:∀v:aM,v.aD.length≤1000→v.aG.length≤24→0≤v.bj→v.bj≤2000000→ki v=match v.aD with
 |[]=>some (.done v)
 |x::xs=>if x.cO=v.bj∧v.aG.length<24 then some (.next ⟨v.bj+1,xs,v.aG++[⟨x.aN⟩]⟩) else some (.done v):=by
 rintro⟨n,p,dl⟩ h1 h2 h3 h4
 cases p with
 |nil=>simp[ki]
 |cons x xs=>
  simp only[SQ] at h1 h2
  have i0:ix (x::xs) 0=some x:=by simp[ix,leB]
  have hlt:ltB 0 (((x::xs).length:Nat):Int)=true:=ltB_t.2 (by simp only[SQ];omega)
  simp only[ki,i0,hlt,cond_true,Up]
  by_cases e:x.cO=n
  ·by_cases e2:dl.length<24
   ·rw[if_pos ⟨e,e2⟩,eqB_t.2 e,show ltB ((dl.length:Nat):Int) 24=true from ltB_t.2 (by omega)]
    have a1:cS 24 (dl++[(⟨x.aN⟩:bw)]).length=true:=ct (by omega) (by simp;omega)
    have a2:fw (x::xs) 1 (((x::xs).length:Nat):Int)=true:=by simp[fw];omega
    simp only[cond_true,Up,a1,a2,bB (n:=n+1) (by simp only at h3 h4;omega)]
    rfl
   ·rw[if_neg (fun h=>e2 h.2),eqB_t.2 e,show ltB ((dl.length:Nat):Int) 24=false from ltB_f.2 (by omega)];rfl
  ·rw[if_neg (fun h=>e h.1),eqB_f.2 e];rfl
theorem L2_s:∀v:aM,v.aD.length≤1000→v.aG.length≤24→0≤v.bj→v.bj≤2000000→oW v=match v.aD with
 |[]=>some (.done v)
 |x::xs=>if x.cO=v.bj∧v.aG.length<24 then some (.next ⟨v.bj+1,xs,v.aG++[⟨x.aN⟩]⟩) else some (.done v):=L2_i
theorem BE {α:Type} (b:Bool) (x y:α):(bif b then some x else some y)=some (bif b then x else y):=by cases b<;>rfl
theorem OR (a b c d e:Bool):(bif !a then some true else bif b then some true else bif !c then some true else bif d then some true else some e)=some (!a||(b||(!c||(d||e)))):=by cases a<;>cases b<;>cases c<;>cases d<;>rfl
theorem Rw {r:aM} (h:eN r) {x:ae}:kF r x=some (mj r x):=by
 obtain⟨q,hq,hq2⟩:=LY h.1.1 x.cO
 have hw:px r=true→inR x.cO r.bj (WR (WR (r.bj+8)-1))=inR x.cO r.bj (r.bj+7):=fun hv=>by
  have:=tV hv
  rw[bB (n:=r.bj+8) (by omega),bB (by omega),show r.bj+8-1=r.bj+7 by omega]
 have hl:(bif !px r then some true else(bif ltB 60 ((x.aN.length:Nat):Int) then some true else(bif !(inR x.cO r.bj (WR (WR (r.bj+8)-1))) then some true else(bif leB 0 q then some true else some (leB 24 ((r.aG.length:Nat):Int))))))=some (yn r x):=by
  rw[hq2,OR]
  cases hv:px r
  ·simp[yn,hv]
  ·rw[hw hv];simp[yn,hv]
 simp only[kF,M4 h,M5 h.2.1 h.1.1,et,hq,Up,hl]
 rw[mj]
 cases hlt:yn r x
 ·simp only[yn,SX,Uy] at hlt
  obtain⟨l1,l2,l3,l4,l5⟩:=hlt
  have hv:=tV l1
  have l2:=oF l2
  have l5:=vG l5
  have hw2:=Gm (before x.cO) r.aD
  have hrun:=AZ (L:=iw x r) r.aD (before x.cO) (by omega) (fun k y hy=>by
   have hk:=(List.getElem?_eq_some_iff.1 hy).1
   simp[iw,cR hk,hy,before]) (by simp[iw])
  have hxs:([]:List ae)++r.aD.take ((((r.aD.takeWhile (before x.cO)).length:Nat):Int)).toNat++[(⟨x.cO,[]++x.aN⟩:ae)]++r.aD.drop ((((r.aD.takeWhile (before x.cO)).length:Nat):Int)).toNat=mT x r.aD:=by
   simp[AW,AU,mT]
  have a1:fw r.aD 0 (((r.aD.takeWhile (before x.cO)).length:Nat):Int)=true:=by simp[fw];omega
  have a2:fw r.aD (((r.aD.takeWhile (before x.cO)).length:Nat):Int) ((r.aD.length:Nat):Int)=true:=by simp[fw];omega
  have a3:cS 1 (([]:List Int)++x.aN).length=true:=ct (by omega) (by simp;omega)
  have a4:cS 32 (([]:List ae)++r.aD.take ((((r.aD.takeWhile (before x.cO)).length:Nat):Int)).toNat).length=true:=ct (by omega) (by simp;omega)
  have a5:cS 32 (([]:List ae)++r.aD.take ((((r.aD.takeWhile (before x.cO)).length:Nat):Int)).toNat++[(⟨x.cO,[]++x.aN⟩:ae)]).length=true:=ct (by omega) (by simp;omega)
  simp only[cond_false,hrun,Up,a1,a2,a3,a4,a5,cond_true]
  rw[hxs,ct (by omega) (show(mT x r.aD).length≤1048577 by rw[pV];omega),BJ L2_s (mT x r.aD) r.bj r.aG FU (by rw[pV];omega) (by omega) (by omega) (by rw[pV];omega) (by have:=jC;rw[pV];omega)]
  have hd:=BI (mT x r.aD) r.bj r.aG (by omega)
  simp only[cond_true,Up,BE]
  rw[show eqB (((nK (mT x r.aD) r.bj r.aG).aG.length:Nat):Int) 24=leB 24 (((nK (mT x r.aD) r.bj r.aG).aG.length:Nat):Int) from by rw[Ut];simp[eqB,leB];omega]
  cases leB 24 (((nK (mT x r.aD) r.bj r.aG).aG.length:Nat):Int)<;>rfl
 ·rfl
end Go.AM
namespace Go.AM
attribute [local simp] bz be bb
def vp (d:ay):az:=sX d.aJ ⟨5,d.aU,d.aa,d.aR,0,cg,0⟩
def tq (d:ay):az:={dH with aP:=1,aU:=d.aU}
def pS (d:ay):aS:=
 bif ltB 0 d.fU then⟨{d with fU:=d.fU-1},[]⟩ else bif eqB d.bg 1 then⟨{d with fU:=3},[tq d]⟩ else bif eqB d.bg 2&&!d.de then⟨{d with fU:=3},[vp d]⟩ else⟨d,[]⟩
def dOn (d:ay):aS:=bif eqB d.bg 0 then⟨{d with bg:=1,fU:=3},[tq d]⟩ else⟨d,[]⟩
def uH (d:ay):aS:=⟨{d with de:=false,fU:=3},[vp d]⟩
def rm (d:ay) (c:Int):aS:=
 bif eqB c d.aU||!inR c 0 5 then⟨d,[]⟩ else bif eqB d.bg 2&&ltB d.aR 999999 then uH {d with aU:=c,aR:=d.aR+1} else⟨{d with aU:=c},[]⟩
def EF (d:ay) (m:az):aS:=
 bif eqB (i6 d.dq.eP d.dq.dw m.bQ) 0 then
  ⟨{d with dq:={d.dq with dw:=unm d.dq.eP m.bQ.eJ m.bQ.gx},aa:=m.aa,aJ:=(vec d.dq.eP m.bQ.eJ (unm d.dq.eP m.bQ.eJ m.bQ.gx)).eP},
   [⟨3,d.aU,m.aa,0,eh d.dq.eP [3,m.bQ.eJ],cg,0⟩]⟩
 else⟨d,[]⟩
def zm (d:ay) (m:az):aS:=
 bif !kq m||(!eqB m.aU d.aU||eqB d.bg 0) then⟨d,[]⟩ else
 bif eqB m.aP 2&&eqB d.bg 1 then EF d m else
 bif eqB m.aP 4&&(eqB d.bg 1&&(oA d.aJ&&(eqB m.aa d.aa&&tg d.aJ m))) then⟨{d with bg:=2,aR:=m.aR,de:=true},[]⟩ else
 bif eqB m.aP 6&&(eqB d.bg 2&&(eqB m.aa d.aa&&(eqB m.aR d.aR&&tg d.aJ m))) then⟨{d with de:=true},[]⟩ else
 bif eqB m.aP 7&&(eqB d.bg 3&&ltB d.aR 999999) then uH {d with bg:=2,aR:=d.aR+1} else
 bif eqB m.aP 7&&eqB d.bg 2 then uH d else⟨d,[]⟩
def dAck (d:ay) (r:aM):az:=sX d.aJ ⟨8,d.aU,d.aa,d.aR,r.bj,cg,0⟩
def zl (d:ay) (x:av):aS:=
 let o:=pZ d.aJ d.aa d.aR x
 bif eqB d.bg 2&&o.2 then⟨{d with bi:=mj d.bi o.1},[dAck d (mj d.bi o.1)]⟩ else⟨d,[]⟩
def rT (d:ay):ay:=bif eqB d.bg 2 then {d with bg:=3} else d
theorem Dp {d:ay} (h:f5 d):ol d=some ⟨d,[]⟩:=by simp[ol,vw h]
theorem Hi (d:ay):qj d=some (vp d):=by simp[qj,xA,vp]
theorem Ry {d:ay} (h:f5 d) (hw:d.fU≤3):oZ d=some (pS d):=by
 simp only[oZ,vw h,Up,oi,jr,Hi,pS]
 cases hb:ltB 0 d.fU
 ·cases eqB d.bg 1<;>cases eqB d.bg 2<;>cases hp:d.de<;>rfl
 ·have:=km hb
  rw[bB (by omega)];rfl
theorem on_s {d:ay} (h:f5 d):sP d=some (dOn d):=by
 simp only[sP,Dp h,vw h,Up,oi,jr,dOn]
 cases eqB d.bg 0<;>rfl
theorem MH {d:ay} (he:0≤d.aR∧d.aR≤999999):s3 d=some (uH {d with aR:=d.aR+1}):=by
 simp only[s3,Hi,Up,jr]
 rw[bB (by omega)];rfl
theorem QU {d:ay} (h:f5 d) (he:0≤d.aR∧d.aR≤999999) (c:Int):oS d c=some (rm d c):=by
 simp only[oS,Dp h,vw h,Up,et,MH (d:={d with aU:=c}) he,rm]
 cases eqB c d.aU<;>cases inR c 0 5<;>cases eqB d.bg 2<;>cases ltB d.aR 999999<;>rfl
theorem tok_s (k r last:Int):∃t,ni k r last=some t:=by
 simp only[ni,et,Up,dB (show [5,r,last].length≤100000 by simp),tH _ (show(1:Int)≤1000 by omega) (by omega)]
 cases inR last 0 999999<;>exact⟨_,rfl⟩
theorem ask_s {d:ay} (h:f5 d) (hc:wM d.dq=true) (m:az):tL d m=some (EF d m):=by
 obtain⟨t,ht⟩:=tok_s d.dq.eP m.bQ.eJ d.dq.dw
 simp only[tL,ja,NT,hc,Jy,Qf,JA,dB (show [3,m.bQ.eJ].length≤100000 by simp),ht,vw h,Up,TF,cond_false,EF]
 cases h0:eqB (i6 d.dq.eP d.dq.dw m.bQ) 0
 ·cases h2:eqB (i6 d.dq.eP d.dq.dw m.bQ) 2<;>cases h3:eqB (i6 d.dq.eP d.dq.dw m.bQ) 3<;>simp[h0]
 ·simp[gL]
theorem sig_s {d:ay} (h:f5 d) (hc:wM d.dq=true) (he:0≤d.aR∧d.aR≤999999) (m:az):kG d m=some (zm d m):=by
 simp only[kG,I3,Dp h,vw h,ask_s h hc,Fg,D7,MH (d:={d with bg:=2}) he,Hi,jr,Up,zm]
 cases kq m<;>cases eqB m.aU d.aU<;>cases eqB d.bg 0<;>try rfl
 simp only[TF,Bool.or_self,cond_false,Up]
 cases eqB m.aP 2<;>cases eqB d.bg 1<;>try rfl
 all_goals cases eqB m.aP 4<;>cases oA d.aJ<;>cases eqB m.aa d.aa<;>cases tg d.aJ m<;>cases eqB m.aP 6<;>cases eqB d.bg 2<;>cases eqB m.aR d.aR<;>cases eqB m.aP 7<;>cases eqB d.bg 3<;>cases ltB d.aR 999999<;>rfl
def P7 (x:av):Prop:=okB x.aZ.aN
theorem rad_s {d:ay} (h:f5 d) {x:av} (hx:P7 x):lL d x=some (zl d x):=by
 simp only[lL,(Ko hx _ _ _).2,Dp h,vw h,Rw h,xA,Up,zl]
 cases eqB d.bg 2<;>cases(pZ d.aJ d.aa d.aR x).2<;>rfl
theorem NB {r:aM} (h:eN r) (x:ae):eN (mj r x):=by
 rw[mj]
 cases hlt:yn r x
 ·simp only[yn,SX,Uy] at hlt
  obtain⟨l1,l2,l3,l4,l5⟩:=hlt
  have hv:=tV l1
  have l2:=oF l2
  have hi:okL f9 (mT x r.aD):=by
   refine⟨by rw[pV];omega,fun y hy=>?_⟩
   simp only[mT,List.mem_append,List.mem_singleton] at hy
   rcases hy with(hy|hy)|hy
   ·exact h.1.2 y (List.takeWhile_subset _ hy)
   ·subst hy;exact⟨by omega,fun _ _=>trivial⟩
   ·exact h.1.2 y (List.dropWhile_subset _ hy)
  have hd:∀(xs:List ae) (n:Int) (dl:List bw),okL f9 xs→(∀p∈dl,qF p)→dl.length≤24→eN (nK xs n dl):=by
   intro xs
   induction xs with
   |nil=>exact fun n dl h1 h2 h3=>⟨h1,by show dl.length≤1048576;omega,h2⟩
   |cons y ys ih=>
    intro n dl h1 h2 h3
    rw[nK];split
    ·exact ih _ _ ⟨by have:=h1.1;simp at this;omega,fun z hz=>h1.2 z (by simp[hz])⟩ (fun p hp=>by
      rcases List.mem_append.1 hp with hp|hp
      ·exact h2 p hp
      ·simp at hp;subst hp;exact h1.2 y (by simp)) (by simp;omega)
    ·exact⟨h1,by show dl.length≤1048576;omega,h2⟩
  have:=hd _ r.bj r.aG hi h.2.2 (by omega)
  simp only[cond_false]
  cases leB 24 (((nK (mT x r.aD) r.bj r.aG).aG.length:Nat):Int)
  ·exact this
  ·exact⟨⟨by simp,by simp⟩,this.2⟩
 ·exact h
theorem QH {d:ay} (h:f5 d):qJ d=some (rT d):=by
 simp only[qJ,vw h,Up,rT];cases eqB d.bg 2<;>rfl
end Go.AM
