/- A part. -/
import Derived.Test.YtljhooecmjejiaaGreatL
set_option linter.unusedVariables false
set_option linter.unusedSimpArgs false
open Option renaming bind_some→Vm,bind→Vj,map_some→Vv
open List renaming getElem?_eq_getElem→v0,mem_of_getElem?→Tn,length_cons→TY,getElem?_mapIdx→Vs,getElem?_eq_some_iff→Tm,length_append→Ut,getElem_mem→Vt,takeWhile_cons→Vu,length_nil→Vp,mem_zipIdx_iff_getElem?→VA,take_add_one→Vr,nil_append→UZ,take_of_length_le→Vx,getElem?_eq_none→Vy,getElem?_of_mem→T0,length_zipIdx→VB,getElem?_set→U7,ext_getElem?→Vw,drop_length→VD,all_eq_true→TX,length_take→Uz
open Int renaming tmod_eq_emod_of_nonneg→Vq,tmod→Vl,toNat_natCast→Vn,add_emod_right→VF,emod_lt_of_pos→VC,emod_eq_of_lt→VG,emod_nonneg→VE
open Bool renaming and_eq_true→hV,not_true→UY,eq_iff_iff→Vo
open Nat renaming add_sub_cancel→Vz,mul_le_mul→VH,le_trans→U0,zero_le→Ud
namespace Go.AM
theorem kt:9223372036854775808≤FU:=by unfold FU;omega
def iW {α σ ρ:Type} (body:σ→α→Option (cp σ ρ)) (fin:σ→Option ρ):List α→σ→Option ρ
 |[],s=>fin s
 |x::xs,s=>match body s x with
  |some (.next s')=>iW body fin xs s'
  |some (.done r)=>some r
  |none=>none
def xE {σ τ ρ:Type} (f:σ→τ):Option (cp σ ρ)→Option (cp τ ρ)
 |some (.next s)=>some (.next (f s))
 |some (.done r)=>some (.done r)
 |none=>none
@[simp] theorem stepM_next {σ τ ρ:Type} (f:σ→τ) (s:σ):xE (ρ:=ρ) f (some (.next s))=some (.next (f s)):=rfl
@[simp] theorem stepM_done {σ τ ρ:Type} (f:σ→τ) (r:ρ):xE f (some (.done r))=some (.done r):=rfl
@[simp] theorem stepM_none {σ τ ρ:Type} (f:σ→τ):xE (ρ:=ρ) f none=none:=rfl
@[simp] theorem stepM_cond {σ τ ρ:Type} (f:σ→τ) (b:Bool) (x y:Option (cp σ ρ)):xE f (bif b then x else y)=bif b then xE f x else xE f y:=by cases b<;>rfl
@[simp] theorem stepM_bind {α σ τ ρ:Type} (f:σ→τ) (o:Option α) (k:α→Option (cp σ ρ)):xE f (Vj o k)=Vj o (fun a=>xE f (k a)):=by cases o<;>rfl
@[simp] theorem dn_some {σ ρ:Type} (r:ρ):dn (σ:=σ) (some r)=some (.done r):=rfl
@[simp] theorem dn_none {σ ρ:Type}:dn (σ:=σ) (ρ:=ρ) none=none:=rfl
theorem eD {α σ τ ρ:Type} {step:τ→Option (cp τ ρ)} (xs:List α) (mk:Nat→σ→τ) (body:σ→α→Option (cp σ ρ)) (fin:σ→Option ρ) (hl:xs.length≤9223372036854775806)
 (hs:∀(k:Nat) (x:α) (s:σ),xs[k]?=some x→k<xs.length→step (mk k s)=xE (mk (k+1)) (body s x))
 (he:∀s,step (mk xs.length s)=dn (fin s)) (s0:σ):iter step FU (mk 0 s0)=iW body fin xs s0:=by
 have key:∀(m n:Nat) (s:σ) (k:Nat),m=xs.length-k→k≤xs.length→m<n→iter step n (mk k s)=iW body fin (xs.drop k) s:=by
  intro m
  induction m with
  |zero=>
   intro n s k hm hk hn
   cases n with
   |zero=>omega
   |succ n=>
    have:k=xs.length:=by omega
    subst this
    rw[VD,iW,iter,he]
    cases fin s<;>rfl
  |succ m ih=>
   intro n s k hm hk hn
   cases n with
   |zero=>omega
   |succ n=>
    have hlt:k<xs.length:=by omega
    rw[List.drop_eq_getElem_cons hlt,iW,iter,hs k xs[k] s (v0 hlt) hlt]
    cases hb:body s xs[k] with
    |none=>rfl
    |some o=>
     cases o with
     |done r=>rfl
     |next s'=>exact ih n s' (k+1) (by omega) (by omega) (by omega)
 have:=key (xs.length-0) FU s0 0 rfl (Ud _) (by have:=kt;omega)
 simpa using this
theorem a8 {α:Type} (xs:List α) (k:Nat):ix xs (k:Int)=xs[k]?:=by simp[ix,leB]
theorem bG {n:Int} (h: -9223372036854775808≤n∧n≤9223372036854775807):WR n=n:=Fs h
theorem cd {k:Nat} (h:k<9223372036854775807):WR ((k:Int)+1)=((k+1:Nat):Int):=by rw[bG (by omega)];omega
theorem cN {a b:Nat} (h:a<b):ltB (a:Int) (b:Int)=true:=by simp[ltB,h]
theorem bE (a:Int):ltB a a=false:=by simp[ltB]
theorem be (a:Int):eqB a a=true:=by simp[eqB]
end Go.AM
namespace Go.AM
attribute [local simp] bE be a8
def okL {α:Type} (ok:α→Prop) (xs:List α):Prop:=xs.length≤1048576∧∀x∈xs,ok x
def preL {α:Type} (pre:α→Prop) (xs:List α):Prop:=xs.length≤9223372036854775807∧∀x∈xs,pre x
theorem Az {α ρ:Type} {body:Unit→α→Option (cp Unit ρ)} {fin:Unit→Option ρ}:∀(xs:List α),(∀x∈xs,body () x=some (.next ()))→iW body fin xs ()=fin ()
 |[],_=>rfl
 |x::xs,h=>by rw[iW,h x (by simp)];exact Az xs (fun y hy=>h y (by simp[hy]))
theorem lt0_t {r:Int} (h:r<0):ltB r 0=true:=by simp[ltB,h]
theorem lt0_f {r:Int} (h:0≤r):ltB r 0=false:=by simp[ltB];omega
def sV {α β:Type} (by_:Nat) (p:α→Bool) (f:α→β) (acc:List β) (x:α):Option (cp (List β) (List β)):=
 bif p x then(bif cM by_ (acc++[f x]).length then some (.next (acc++[f x])) else none) else some (.next acc)
theorem ug {α β:Type} {by_:Nat} (hb:by_≤100000) (p:α→Bool) (f:α→β):∀(xs:List α) (acc:List β),acc.length+xs.length≤1048576→iW (sV by_ p f) some xs acc=some (acc++(xs.filter p).map f)
 |[],acc,h=>by simp[iW]
 |x::xs,acc,h=>by
  simp only[TY] at h
  rw[iW]
  cases hp:p x with
  |false=>
   rw[List.filter_cons_of_neg (by simp[hp])]
   simpa [sV,hp] using ug hb p f xs acc (by omega)
  |true=>
   have ha:cM by_ (acc++[f x]).length=true:=by
    have h1:(acc++[f x]).length*by_≤1048577*100000:=VH (by simp;omega) hb
    simp only[cM,decide_eq_true_eq]
    refine⟨by omega,by simp;omega⟩
   rw[List.filter_cons_of_pos (by simp[hp])]
   simp only[sV,hp,ha,cond_true]
   rw[ug hb p f xs (acc++[f x]) (by simp;omega)]
   simp
theorem cE {by_ n:Nat} (hb:by_≤100000) (hn:n≤1048577):cM by_ n=true:=by
 have h1:n*by_≤1048577*100000:=VH hn hb
 simp only[cM,decide_eq_true_eq]
 omega
def uQ (n:Int):Prop:=0≤n∧n≤255
theorem wf_u8 {n:Int} (h:(Lit.int .u8 n).wf=true):uQ n:=by
 simp[Lit.wf,IntKind.min,IntKind.max,IntKind.signed,IntKind.bits] at h
 exact⟨by omega,by omega⟩
theorem xU {α:Type} {L:Int→Option (cp Int Int)} (xs:List α) (p:α→Bool) (hl:xs.length≤9223372036854775806)
 (hs:∀(k:Nat) (x:α),xs[k]?=some x→k<xs.length→L (k:Int)=bif p x then some (.done (k:Int)) else some (.next ((k+1:Nat):Int))) (he:L ((xs.length:Nat):Int)=some (.done (-1))):
 iter L FU 0=some (mL p 0 xs):=by
 have key:∀(m n:Nat) (k:Nat),m=xs.length-k→k≤xs.length→m<n→iter L n (k:Int)=some (mL p k (xs.drop k)):=by
  intro m
  induction m with
  |zero=>
   intro n k hm hk hn
   cases n with
   |zero=>omega
   |succ n=>
    have:k=xs.length:=by omega
    subst this
    rw[iter,he,VD,mL]
  |succ m ih=>
   intro n k hm hk hn
   cases n with
   |zero=>omega
   |succ n=>
    have hlt:k<xs.length:=by omega
    rw[iter,hs k xs[k] (v0 hlt) hlt,No hlt]
    cases p xs[k] with
    |true=>rfl
    |false=>exact ih n (k+1) (by omega) (by omega) (by omega)
 have:=key (xs.length-0) FU 0 rfl (Ud _) (by have:=kt;omega)
 simpa using this
theorem xX {α:Type} (p:α→Bool):∀(xs:List α) (i:Nat),mL p (i:Int) xs= -1∧(∀x∈xs,p x=false)∨∃j:Nat,mL p (i:Int) xs=((i+j:Nat):Int)∧∃x,xs[j]?=some x∧p x=true∧∀y∈xs.take j,p y=false
 |[],i=>.inl ⟨rfl,by simp⟩
 |x::xs,i=>by
  rw[mL]
  cases hp:p x with
  |true=>exact .inr ⟨0,by simp,x,rfl,hp,by simp⟩
  |false=>
   rcases xX p xs (i+1) with⟨h1,h2⟩|⟨j,h1,y,h2,h3,h4⟩
   ·exact .inl ⟨by simpa using h1,by simp[hp];exact h2⟩
   ·refine .inr ⟨j+1,?_,y,by simpa using h2,h3,by simp[hp];exact h4⟩
    have:mL p ((i:Int)+1) xs=((i+1+j:Nat):Int):=by simpa using h1
    simp only[cond_false]
    rw[this];omega
theorem z2 {α:Type} {L:Int→Option (cp Int Bool)} (xs:List α) (p:α→Bool) (hl:xs.length≤9223372036854775806)
 (hs:∀(k:Nat) (x:α),xs[k]?=some x→k<xs.length→L (k:Int)=bif p x then some (.done true) else some (.next ((k+1:Nat):Int))) (he:L ((xs.length:Nat):Int)=some (.done false)):
 iter L FU 0=some (xs.any p):=by
 have:=eD (step:=L) xs (fun k (_:Unit)=>(k:Int)) (fun _ x=>bif p x then some (.done true) else some (.next ())) (fun _=>some false) hl
  (fun k x s hx hk=>by rw[hs k x hx hk];cases p x<;>rfl) (fun s=>by rw[he];rfl) ()
 refine Eq.trans (show iter L FU 0=_ from this) ?_
 have key:∀xs:List α,iW (fun(_:Unit) x=>bif p x then some (cp.done true) else some (.next ())) (fun _=>some false) xs ()=some (xs.any p):=by
  intro xs
  induction xs with
  |nil=>rfl
  |cons x xs ih=>rw[iW];cases hp:p x<;>simp[hp,ih]
 exact key xs
theorem FC {α:Type} {L:Int→Option (cp Int Bool)} (xs:List α) (p:α→Bool) (hl:xs.length≤9223372036854775806)
 (hs:∀(k:Nat) (x:α),xs[k]?=some x→k<xs.length→L (k:Int)=bif p x then some (.next ((k+1:Nat):Int)) else some (.done false)) (he:L ((xs.length:Nat):Int)=some (.done true)):
 iter L FU 0=some (xs.all p):=by
 have:=eD (step:=L) xs (fun k (_:Unit)=>(k:Int)) (fun _ x=>bif p x then some (.next ()) else some (.done false)) (fun _=>some true) hl
  (fun k x s hx hk=>by rw[hs k x hx hk];cases p x<;>rfl) (fun s=>by rw[he];rfl) ()
 refine Eq.trans (show iter L FU 0=_ from this) ?_
 have key:∀xs:List α,iW (fun(_:Unit) x=>bif p x then some (.next ()) else some (cp.done false)) (fun _=>some true) xs ()=some (xs.all p):=by
  intro xs
  induction xs with
  |nil=>rfl
  |cons x xs ih=>rw[iW];cases hp:p x<;>simp[hp,ih]
 exact key xs
end Go.AM
namespace Go.AM
theorem allK {α:Type} {L:Int→Option (cp Int Bool)} (xs:List α) (p:Nat→α→Bool) (c:Option Bool) (hl:xs.length≤9223372036854775806)
 (hs:∀(k:Nat) (x:α),xs[k]?=some x→k<xs.length→L (k:Int)=bif p k x then some (.next ((k+1:Nat):Int)) else some (.done false)) (he:L ((xs.length:Nat):Int)=dn c):
 iter L FU 0=bif xs.zipIdx.all (fun y=>p y.2 y.1) then c else some false:=by
 have:=eD (step:=L) xs.zipIdx (fun k (_:Unit)=>(k:Int)) (fun _ y=>bif p y.2 y.1 then some (.next ()) else some (.done false)) (fun _=>c) (by simpa using hl)
  (fun k y s hy hk=>by
   have hk':k<xs.length:=by simpa using hk
   have:y=(xs[k],k):=by rw[v0 hk] at hy;simpa using hy.symm
   subst this
   rw[hs k xs[k] (v0 hk') hk'];cases p k xs[k]<;>rfl) (fun s=>by rw[VB,he]) ()
 refine Eq.trans (show iter L FU 0=_ from this) ?_
 have key:∀ys:List (α×Nat),iW (fun(_:Unit) y=>bif p y.2 y.1 then some (.next ()) else some (cp.done false)) (fun _=>c) ys ()=bif ys.all (fun y=>p y.2 y.1) then c else some false:=by
  intro ys
  induction ys with
  |nil=>rfl
  |cons x xs ih=>rw[iW];cases hp:p x.2 x.1<;>simp[hp,ih]
 exact key _
def inR (n a b:Int):Bool:=leB a n&&leB n b
theorem bu {n a b:Int}:inR n a b=true↔a≤n∧n≤b:=by simp[inR,leB]
theorem DQ {n:Nat} (h:n≤1048576):WR ((n:Int)-1)=(n:Int)-1:=bG (by omega)
theorem ix_in {α:Type} {xs:List α} {i:Int} (h0:0≤i) (h1:i<xs.length):∃x,x∈xs∧ix xs i=some x:=by
 obtain⟨k,rfl⟩:=Int.eq_ofNat_of_zero_le h0
 have hk:k<xs.length:=by omega
 exact⟨xs[k],Vt hk,by rw[a8,v0 hk]⟩
end Go.AM
namespace Go.AM
def rgI (k:IntKind) (n:Int):Prop:=(Lit.int k n).wf=true
theorem WT.rg {k:IntKind} {n:Int} (h:WT (.i k) (.i k n)):rgI k n:=by
 cases h with|i h=>exact h
theorem Jj {α:Type} {e:List Sh} {f:α→List D}:∀{xs:List α},WTL e (xs.map f)→∀x∈xs,WTs e (f x)
 |[],_,x,hx=>by cases hx
 |y::ys,h,x,hx=>by
  cases h with
  |cons h1 h2=>
   rcases List.mem_cons.1 hx with rfl|hx
   ·exact h1
   ·exact Jj h2 x hx
theorem WT.rl {α:Type} {e:List Sh} {f:α→List D} {xs:List α} (h:WT (.l e) (.l (xs.map f))):∀x∈xs,WTs e (f x):=by
 cases h with|l hl h=>exact Jj h
end Go.AM
namespace Go.AM
def Wp {α:Type} (m:Option α) (Q:α→Prop):Prop:=match m with
 |some a=>Q a
 |none=>False
theorem Wp.ex {α:Type} {m:Option α} {Q:α→Prop} (h:Wp m Q):∃a,m=some a∧Q a:=by
 cases m with
 |none=>exact h.elim
 |some a=>exact⟨a,rfl,h⟩
theorem Wp.of {α:Type} {m:Option α} {Q:α→Prop} {a:α} (h:m=some a) (q:Q a):Wp m Q:=by subst h;exact q
theorem Wp.some {α:Type} {a:α} {Q:α→Prop} (h:Q a):Wp (some a) Q:=h
theorem Wp.bind {α β:Type} {m:Option α} {k:α→Option β} {Q:β→Prop} (h:Wp m (fun a=>Wp (k a) Q)):Wp (Vj m k) Q:=by
 cases m with
 |none=>exact h.elim
 |some a=>exact h
theorem Wp.mono {α:Type} {m:Option α} {P Q:α→Prop} (h:Wp m P) (k:∀a,P a→Q a):Wp m Q:=by
 cases m with
 |none=>exact h.elim
 |some a=>exact k a h
theorem Wp.call {α β:Type} {m:Option α} {k:α→Option β} {P:α→Prop} {Q:β→Prop} (h:Wp m P) (hk:∀a,P a→Wp (k a) Q):Wp (Vj m k) Q:=Wp.bind (h.mono hk)
theorem Wp.eq {α β:Type} {m:Option α} {k:α→Option β} {a:α} {Q:β→Prop} (h:m= .some a) (hk:Wp (k a) Q):Wp (Vj m k) Q:=by subst h;exact hk
theorem Wp.cond {α:Type} {b:Bool} {x y:Option α} {Q:α→Prop} (h1:b=true→Wp x Q) (h0:b=false→Wp y Q):Wp (bif b then x else y) Q:=by
 cases b
 ·exact h0 rfl
 ·exact h1 rfl
theorem Wp.ok {α:Type} {b:Bool} {x:Option α} {Q:α→Prop} (hb:b=true) (h:Wp x Q):Wp (bif b then x else none) Q:=by subst hb;exact h
theorem Wp.iter {σ ρ:Type} {step:σ→Option (cp σ ρ)} {Q:ρ→Prop} (I:σ→Prop) (μ:σ→Nat) (h:∀x,I x→Wp (step x) (fun s=>match s with| .next x'=>I x'∧μ x'<μ x| .done r=>Q r)):
 ∀(n:Nat) (x:σ),I x→μ x<n→Wp (AM.iter step n x) Q
 |0,_,_,h=>by omega
 |n+1,x,hI,hn=>by
  obtain⟨s,e,hs⟩:=(h x hI).ex
  rw[AM.iter,e]
  cases s with
  |next x'=>exact Wp.iter I μ h n x' hs.1 (by have:=hs.2;omega)
  |done r=>exact hs
theorem Wp.iterF {σ ρ:Type} {step:σ→Option (cp σ ρ)} {Q:ρ→Prop} (I:σ→Prop) (μ:σ→Nat) {x:σ} (hI:I x) (hn:μ x≤1000000000000) (h:∀x,I x→Wp (step x) (fun s=>match s with| .next x'=>I x'∧μ x'<μ x| .done r=>Q r)):Wp (AM.iter step FU x) Q:=
 Wp.iter I μ h FU x hI (by have:=kt;omega)
theorem Wp.dn {σ ρ:Type} {m:Option ρ} {Q:cp σ ρ→Prop} (h:Wp m (fun r=>Q (.done r))):Wp (AM.dn m) Q:=by
 cases m with
 |none=>exact h.elim
 |some r=>exact h
theorem Wp.ix {α β:Type} {xs:List α} {i:Int} {k:α→Option β} {Q:β→Prop} (h0:0≤i) (h1:i<xs.length) (hk:∀x,x∈xs→xs[i.toNat]?= .some x→Wp (k x) Q):Wp (Vj (AM.ix xs i) k) Q:=by
 have hl:i.toNat<xs.length:=by omega
 have hx:xs[i.toNat]?= .some xs[i.toNat]:=v0 hl
 refine Wp.eq (a:=xs[i.toNat]) ?_ (hk _ (Vt hl) hx)
 unfold AM.ix
 rw[show leB 0 i=true from by simp[leB,h0]]
 exact hx
theorem im {a b:Int} (h:ltB a b=true):a<b:=ltB_t.1 h
theorem nn {a b:Int} (h:ltB a b=false):b≤a:=ltB_f.1 h
theorem uO {a b:Int} (h:leB a b=true):a≤b:=leB_t.1 h
theorem wM {a b:Int} (h:leB a b=false):b<a:=leB_f.1 h
theorem lA {a b:Int} (h:eqB a b=true):a=b:=eqB_t.1 h
theorem F7 {a b:Int} (h:eqB a b=false):a≠b:=eqB_f.1 h
theorem eG {b n:Nat} (h:n*b≤140737488355328) (h':n≤9223372036854775807):cM b n=true:=by simp[cM,h,h']
end Go.AM
namespace Go.AM
attribute [local simp] bE be a8
def Qr (a:fx):Prop:=okL (fun _=>True) a.cW
def fP (a:aM):Prop:=okL Qr a.aZ
def ga (a:ae):Prop:=okL (fun _=>True) a.aQ
def rm (a:b9):Prop:=okL (fun _=>True) a.aQ
def eV (a:aP):Prop:=okL ga a.aF∧okL rm a.aS
def f9 (a:az):Prop:=eV a.bM
def ew (a:bB):Prop:=okL (fun _=>True) a.bJ
def lW (a:a9):Prop:=okL ga a.aw
def eW (a:ag):Prop:=ew a.gL∧okL rm a.ax∧lW a.aq
def jZ (a:aj):Prop:=okL (fun _=>True) a.aD
def wT (a:bb):Prop:=okL (fun _=>True) a.aQ
def ou (a:ao):Prop:=wT a.aT
def kn (a:bD):Prop:=ou a.bC
def iF (a:ab):Prop:=fP a.dZ∧okL f9 a.am∧okL eW a.ai∧okL jZ a.bh∧okL kn a.ay
end Go.AM
namespace Go.AM
open Go.Proofs
attribute [local simp] bE be a8
def gM {α:Type} (p:Nat→α→Bool) (xs:List α):Bool:=xs.zipIdx.all (fun y=>p y.2 y.1)
theorem eK {α:Type} {p:Nat→α→Bool} {xs:List α}:gM p xs=true↔∀(k:Nat) (x:α),xs[k]?=some x→p k x=true:=by
 unfold gM
 rw[TX]
 constructor
 ·intro h k x hx
  exact h (x,k) (by rw[VA];simpa using hx)
 ·rintro h ⟨x,k⟩ hm
  rw[VA] at hm
  exact h k x (by simpa using hm)
theorem sI {α:Type} {p:α→Bool} {xs:List α}:gM (fun _ x=>p x) xs=xs.all p:=by
 rw[Vo,eK,TX]
 constructor
 ·intro h x hx
  obtain⟨k,hk,rfl⟩:=List.getElem_of_mem hx
  exact h k _ (v0 hk)
 ·intro h k x hx;exact h x (Tn hx)
theorem iS {α:Type} {L:Int→Option (cp Int Bool)} (xs:List α) (p:Nat→α→Bool) (c:Option Bool) (hl:xs.length≤9223372036854775806)
 (hs:∀(k:Nat) (x:α),xs[k]?=some x→k<xs.length→L (k:Int)=bif p k x then some (.next ((k+1:Nat):Int)) else some (.done false)) (he:L ((xs.length:Nat):Int)=dn c):
 iter L FU 0=bif gM p xs then c else some false:=allK xs p c hl hs he
theorem zF {α:Type} {xs:List α} {k:Nat} (hk:k<xs.length) (h0:0<k) (hl:xs.length≤9223372036854775806):∃y,xs[k-1]?=some y∧ix xs (WR ((k:Int)-1))=some y:=by
 have h1:k-1<xs.length:=by omega
 refine⟨xs[k-1],v0 h1,?_⟩
 rw[bG (by omega),show((k:Int)-1)=((k-1:Nat):Int) from by omega,a8,v0 h1]
def kE {α:Type} (key:α→Int) (xs:List α) (k:Nat) (x:α):Bool:=match k with
 |0=>true
 |j+1=>match xs[j]? with
  |some y=>!leB (key x) (key y)
  |none=>false
theorem Rd (a b c:Int):gX a b c=some (inR a b c):=by
 unfold gX inR
 cases leB b a<;>rfl
theorem eC (a b c:Int):cH a b c=some (inR a b c):=by
 unfold cH inR
 cases leB b a<;>rfl
def oU (k:Int):Bool:=inR k 1 2147483646
theorem Gw (k:Int):fG k=some (oU k):=by simp only[fG,eC,Vm,oU]
def I6 (x:dF):Bool:=inR x.dR 0 3&&inR x.bN 0 99
theorem Rl (x:dF):fm x=some (I6 x):=by
 simp only[fm,eC,Vm,I6];cases inR x.dR 0 3<;>rfl
def xG (x:mV):Bool:=I6 x.ID&&(oU x.eY&&inR x.dD 0 999999)
theorem O5 (x:mV):kR x=some (xG x):=by
 simp only[kR,Rl,Gw,eC,Vm,xG];cases I6 x.ID<;>cases oU x.eY<;>rfl
def rP (x:aC):Bool:=I6 x.ID&&(oU x.eY&&inR x.cT 0 999999)
theorem Og (x:aC):dV x=some (rP x):=by
 simp only[dV,Rl,Gw,eC,Vm,rP];cases I6 x.ID<;>cases oU x.eY<;>rfl
def jS (x:cU):Bool:=inR x.f5 0 2&&(inR x.eR 0 4&&inR x.f7 0 3)
theorem N7 (x:cU):kO x=some (jS x):=by
 simp only[kO,eC,Vm,jS];cases inR x.f5 0 2<;>cases inR x.eR 0 4<;>rfl
def lr (x:bP):Bool:=inR x.fM 1 6&&inR x.fA 0 (WR ((kw .i64 1 x.fM)-1))
theorem Ix (x:bP):ja x=some (lr x):=by
 simp only[ja,eC,Vm,lr]
 cases h:inR x.fM 1 6 with
 |false=>rfl
 |true=>rw[show leB 0 x.fM=true from by rw[bu] at h;simp[leB];omega];rfl
def jq (x:dh):Bool:=leB 0 x.au&&(leB 0 x.er&&(leB x.er x.cL&&leB x.cL 100000))
theorem wY (x:dh):fH x=some (jq x):=by
 have:jq x=(leB 0 x.au&&(inR x.cL 0 100000&&inR x.er 0 x.cL)):=by
  rw[Vo];simp[jq,inR,leB];omega
 rw[this]
 simp only[fH,eC,Vm];cases leB 0 x.au<;>cases inR x.cL 0 100000<;>rfl
def uL (n:Nat):Bool:=!ltB 60 (n:Int)
def zr (xs:List b9):Bool:=xs.all fun x=>uL x.aQ.length
def A0 (r:aP) (k:Nat) (x:ae):Bool:=inR x.cT (WR (r.bm+1)) (WR (WR (r.bm+8)-1))&&(kE ae.cT r.aF k x&&uL x.aQ.length)
def pR (r:aP):Bool:=eqB r.bm (WR (((r.aS.length:Nat):Int)+1))&&(leB ((r.aS.length:Nat):Int) 24&&(zr r.aS&&(leB ((r.aF.length:Nat):Int) 8&&gM (A0 r) r.aF)))
theorem JW (a b:Int):ltB a b=!leB b a:=by rw[Vo];simp[ltB,leB]
theorem Oj {r:aP} (h1:r.aS.length≤1048576) (h2:r.aF.length≤1048576):gG r=some (pR r):=by
 have hF:iter (fE r) FU 0=bif gM (fun _ x=>uL x.aQ.length) r.aS then some (eqB r.bm (WR (((r.aS.length:Nat):Int)+1))&&(leB ((r.aS.length:Nat):Int) 24&&leB ((r.aF.length:Nat):Int) 8)) else some false:=by
  refine iS r.aS (fun _ x=>uL x.aQ.length) _ (by omega) (fun k x hx hk=>?_) ?_
  ·simp only[fE,cN hk,a8,hx,cd (show k<9223372036854775807 by omega),Vm,cond_true,uL]
   cases ltB 60 ((x.aQ.length:Nat):Int)<;>rfl
  ·simp only[fE,bE,cond_false]
   cases eqB r.bm (WR (((r.aS.length:Nat):Int)+1))<;>cases leB ((r.aS.length:Nat):Int) 24<;>rfl
 have hL:iter (gu r) FU 0=bif gM (A0 r) r.aF then iter (fE r) FU 0 else some false:=by
  refine iS r.aF (A0 r) _ (by omega) (fun k x hx hk=>?_) (by simp[gu])
  simp only[gu,cN hk,a8,hx,cd (show k<9223372036854775807 by omega),eC,Vm,cond_true,A0,uL]
  cases k with
  |zero=>
   simp only[kE,show ltB 0 ((0:Nat):Int)=false from by simp[ltB]]
   cases ltB 60 ((x.aQ.length:Nat):Int)<;>cases inR x.cT (WR (r.bm+1)) (WR (WR (r.bm+8)-1))<;>rfl
  |succ k=>
   obtain⟨y,hy,hi⟩:=zF hk (by omega) (by omega)
   simp only[Vz] at hy
   simp only[kE,hy,hi,show ltB 0 ((k+1:Nat):Int)=true from by simp[ltB],Vm]
   cases ltB 60 ((x.aQ.length:Nat):Int)<;>cases inR x.cT (WR (r.bm+1)) (WR (WR (r.bm+8)-1))<;>cases leB x.cT y.cT<;>rfl
 rw[sI] at hF
 simp only[gG,hL,hF,pR,zr]
 cases eqB r.bm (WR (((r.aS.length:Nat):Int)+1))<;>cases leB ((r.aS.length:Nat):Int) 24<;>cases(r.aS.all fun x=>uL x.aQ.length)<;>cases leB ((r.aF.length:Nat):Int) 8<;>cases gM (A0 r) r.aF<;>rfl
def lq (d:az):Bool:=xG d.dw&&(inR d.bi 0 3&&(inR d.aX 0 5&&(inR d.aa 0 999999&&(inR d.aO 0 999999&&(inR d.aK 0 2147483646&&((!inR d.bi 2 3||oU d.aK)&&(inR d.f7 0 3&&pR d.bM)))))))
theorem MQ {d:az} (h1:d.bM.aS.length≤1048576) (h2:d.bM.aF.length≤1048576):kK d=some (lq d):=by
 simp only[kK,O5,eC,Gw,Oj h1 h2,Vm,lq]
 cases inR d.bi 2 3<;>cases oU d.aK<;>cases xG d.dw<;>cases inR d.bi 0 3<;>cases inR d.aX 0 5<;>cases inR d.aa 0 999999<;>try rfl
 all_goals (cases inR d.aO 0 999999<;>cases inR d.aK 0 2147483646<;>cases inR d.f7 0 3<;>rfl)
end Go.AM
namespace Go.AM
open Go.Proofs
attribute [local simp] bE be a8
theorem CS {α:Type} {step:Int×Int→Option (cp (Int×Int) Int)} (xs:List α) (f:Int→α→Int) (hl:xs.length≤9223372036854775806)
 (hs:∀(k:Nat) (x:α) (a:Int),xs[k]?=some x→k<xs.length→step (a,(k:Int))=some (.next (f a x,((k+1:Nat):Int)))) (he:∀a,step (a,((xs.length:Nat):Int))=some (.done a)) (a0:Int):
 iter step FU (a0,0)=some (xs.foldl f a0):=by
 have:=eD (step:=step) xs (fun k (v:Int)=>(v,(k:Int))) (fun v x=>some (.next (f v x))) some hl
  (fun k x s hx hk=>by rw[hs k x s hx hk];rfl) (fun s=>by rw[he];rfl) a0
 refine Eq.trans (show iter step FU (a0,0)=_ from this) ?_
 clear this he hs
 induction xs generalizing a0 with
 |nil=>rfl
 |cons x xs ih=>rw[iW,List.foldl_cons];exact ih (by simp at hl;omega) _
def vF (xs:List ae):Int:=xs.foldl (fun a x=>WR (a+((x.aQ.length:Nat):Int))) 0
theorem Qn {xs:List ae} (h:xs.length≤1048576):lP xs=some (vF xs):=by
 unfold lP
 rw[CS xs (fun a x=>WR (a+((x.aQ.length:Nat):Int))) (by omega) (fun k x a hx hk=>by
  simp only[rG,cN hk,a8,hx,cd (show k<9223372036854775807 by omega),Vm,cond_true]) (fun a=>by simp[rG])]
 rfl
def LI (q:dh):Int:=bif jq q then WR (q.cL-q.er) else 0
theorem Rj (q:dh):hO q=some (LI q):=by simp only[hO,wY,Vm,LI];cases jq q<;>rfl
def A2 (p:bB):Bool:=inR p.iR 1 1000&&(inR p.iQ 1 4&&inR p.eA 1 100000)
def pS (p:bB):Bool:=A2 p&&gM (fun k x=>inR x 0 3&&kE id p.bJ k x) p.bJ
theorem OL {p:bB} (h:ew p):fo p=some (pS p):=by
 have hl:=h.1
 have hL:iter (fy p) FU 0=bif gM (fun k x=>inR x 0 3&&kE id p.bJ k x) p.bJ then some (A2 p) else some false:=by
  refine iS p.bJ _ _ (by omega) (fun k x hx hk=>?_) ?_
  ·simp only[fy,cN hk,a8,hx,cd (show k<9223372036854775807 by omega),eC,Vm,cond_true]
   cases k with
   |zero=>
    simp only[kE,show ltB 0 ((0:Nat):Int)=false from by simp[ltB]]
    cases inR x 0 3<;>rfl
   |succ k=>
    obtain⟨y,hy,hi⟩:=zF hk (by omega) (by omega)
    simp only[Vz] at hy
    simp only[kE,hy,hi,hx,a8,show ltB 0 ((k+1:Nat):Int)=true from by simp[ltB],Vm,id]
    cases inR x 0 3<;>cases leB x y<;>rfl
  ·simp only[fy,bE,eC,Vm,cond_false,A2]
   cases inR p.iR 1 1000<;>cases inR p.iQ 1 4<;>rfl
 simp only[fo,hL,pS]
 cases A2 p<;>cases gM (fun k x=>inR x 0 3&&kE id p.bJ k x) p.bJ<;>rfl
def unB (w:a9) (k:Nat) (x:ae):Bool:=eqB x.cT (WR (WR (w.bm-((w.aw.length:Nat):Int))+(k:Int)))&&uL x.aQ.length
def jh (w:a9):Bool:=inR w.bm 1 100000&&(leB ((w.aw.length:Nat):Int) 8&&(leB 1 (WR (w.bm-((w.aw.length:Nat):Int)))&&gM (unB w) w.aw))
theorem Hl {w:a9} (h:lW w):iH w=some (jh w):=by
 have hl:=h.1
 have hL:iter (iy w) FU 0=bif gM (unB w) w.aw then some (inR w.bm 1 100000&&(leB ((w.aw.length:Nat):Int) 8&&leB 1 (WR (w.bm-((w.aw.length:Nat):Int))))) else some false:=by
  refine iS w.aw (unB w) _ (by omega) (fun k x hx hk=>?_) ?_
  ·simp only[iy,cN hk,a8,hx,cd (show k<9223372036854775807 by omega),Vm,cond_true,unB,uL]
   cases eqB x.cT (WR (WR (w.bm-((w.aw.length:Nat):Int))+(k:Int)))<;>cases ltB 60 ((x.aQ.length:Nat):Int)<;>rfl
  ·simp only[iy,bE,eC,Vm,cond_false]
   cases inR w.bm 1 100000<;>cases leB ((w.aw.length:Nat):Int) 8<;>rfl
 simp only[iH,hL,jh]
 cases inR w.bm 1 100000<;>cases leB ((w.aw.length:Nat):Int) 8<;>cases leB 1 (WR (w.bm-((w.aw.length:Nat):Int)))<;>cases gM (unB w) w.aw<;>rfl
def Kx (a b:List Int):Bool:=strB (uK a) (uK b)
theorem eqb_s (a b:List Int):mt a b=some (Kx a b):=rfl
def BN (s:ag) (x:ae):Bool:=match s.ax[(x.cT-1).toNat]? with
 |some y=>Kx x.aQ y.aQ
 |none=>false
def me (s:ag):Bool:=leB ((s.ax.length:Nat):Int) 24&&(zr s.ax&&(jh s.aq&&leB s.aq.bm (WR (((s.ax.length:Nat):Int)+1))))
def tj (s:ag):Bool:=leB (vF s.aq.aw) (LI s.bW)
def CY (s:ag):Bool:=(!eqB s.bi 1||oU s.aK)&&(!ltB 0 s.bF||oU s.aF.eY)
def iO (s:ag):Bool:=rP s.bv&&(pS s.gL&&(jS s.il&&(jh s.aq&&(jq s.bW&&(inR s.bi 0 1&&(CY s&&(inR s.bF 0 999999&&(inR s.aa 0 999999&&(inR s.aO 0 999999&&(inR s.aK 0 2147483646&&
 (inR s.aX 0 5&&(inR s.ef 0 5&&(inR s.d4 0 3&&(leB ((s.ax.length:Nat):Int) 24&&(zr s.ax&&(leB s.aq.bm (WR (((s.ax.length:Nat):Int)+1))&&(s.aq.aw.all (BN s)&&tj s)))))))))))))))))
theorem un_ix {s:ag} (hs:me s=true) {k:Nat} {x:ae} (hx:s.aq.aw[k]?=some x):∃y,ix s.ax (WR (x.cT-1))=some y∧s.ax[(x.cT-1).toNat]?=some y:=by
 simp only[me,jh,hV,eK,bu] at hs
 obtain⟨h1,h2,⟨⟨h3,h3'⟩,h4,h5,h6⟩,h7⟩:=hs
 have hk:=(Tm.1 hx).1
 have h8:=h6 k x hx
 simp only[unB,hV] at h8
 have h4':(s.aq.aw.length:Int)≤8:=by simpa [leB] using h4
 have h1':(s.ax.length:Int)≤24:=by simpa [leB] using h1
 rw[bG (by omega)] at h5
 rw[bG (by omega)] at h7
 have h9:=h8.1
 rw[bG (n:=s.aq.bm-_) (by omega),bG (by omega)] at h9
 have h9':x.cT=s.aq.bm-s.aq.aw.length+k:=by simpa [eqB] using h9
 have h5':1≤s.aq.bm-(s.aq.aw.length:Int):=by simpa [leB] using h5
 have h7':s.aq.bm≤(s.ax.length:Int)+1:=by simpa [leB] using h7
 have hlt:(x.cT-1).toNat<s.ax.length:=by omega
 refine⟨s.ax[(x.cT-1).toNat],?_,v0 hlt⟩
 have hm:x.cT-1=(((x.cT-1).toNat:Nat):Int):=by omega
 rw[bG (by omega)]
 generalize (x.cT-1).toNat=m at hm hlt ⊢
 rw[hm,a8,v0 hlt]
theorem SR {s:ag} (h:eW s) (hs:me s=true):iter (ik s) FU 0=some (s.aq.aw.all (BN s)&&tj s):=by
 have hl:=h.2.2.1
 have:=iS (L:=ik s) s.aq.aw (fun _ x=>BN s x) (some (tj s)) (by omega) (fun k x hx hk=>by
  obtain⟨y,h1,h2⟩:=un_ix hs hx
  simp only[ik,cN hk,a8,hx,h1,eqb_s,cd (show k<9223372036854775807 by omega),Vm,cond_true,BN,h2]
  cases Kx x.aQ y.aQ<;>rfl) (by simp[ik,Qn hl,Rj,tj])
 rw[this,sI]
 cases s.aq.aw.all (BN s)<;>rfl
theorem OK {s:ag} (h:eW s):rI s=some (me s&&(s.aq.aw.all (BN s)&&tj s)):=by
 have hl:=h.2.1.1
 have hL:=iS (L:=mc s) s.ax (fun _ x=>uL x.aQ.length) (bif leB ((s.ax.length:Nat):Int) 24&&(jh s.aq&&leB s.aq.bm (WR (((s.ax.length:Nat):Int)+1))) then iter (ik s) FU 0 else some false) (by omega) (fun k x hx hk=>by
  simp only[mc,cN hk,a8,hx,cd (show k<9223372036854775807 by omega),Vm,cond_true,uL]
  cases ltB 60 ((x.aQ.length:Nat):Int)<;>rfl) (by
  simp only[mc,bE,cond_false,Hl h.2.2,Vm,JW]
  cases leB ((s.ax.length:Nat):Int) 24<;>cases jh s.aq<;>cases leB s.aq.bm (WR (((s.ax.length:Nat):Int)+1))<;>rfl)
 rw[sI] at hL
 unfold rI
 rw[hL]
 cases hs:me s with
 |true=>
  rw[SR h hs]
  simp only[me,zr,hV] at hs
  simp[hs.1,hs.2.1,hs.2.2.1,hs.2.2.2]
 |false=>
  have:(leB ((s.ax.length:Nat):Int) 24&&(jh s.aq&&leB s.aq.bm (WR (((s.ax.length:Nat):Int)+1))))=false∨(s.ax.all fun x=>uL x.aQ.length)=false:=by
   simp only[me,zr] at hs
   revert hs
   cases leB ((s.ax.length:Nat):Int) 24<;>cases jh s.aq<;>cases leB s.aq.bm (WR (((s.ax.length:Nat):Int)+1))<;>cases(s.ax.all fun x=>uL x.aQ.length)<;>simp
  rcases this with e|e<;>rw[e]
  ·cases(s.ax.all fun x=>uL x.aQ.length)<;>rfl
  ·rfl
theorem st01 (n:Int):inR n 0 1=(eqB n 0||eqB n 1):=by rw[Vo];simp[inR,leB,eqB];omega
theorem yv {s:ag} (h:eW s):g9 s=some (iO s):=by
 have:iO s=(inR s.bi 0 1&&(CY s&&(rP s.bv&&(pS s.gL&&(jS s.il&&(jq s.bW&&((me s&&(s.aq.aw.all (BN s)&&tj s))&&(inR s.bF 0 999999&&(inR s.aa 0 999999&&(inR s.aO 0 999999&&(inR s.aK 0 2147483646&&(inR s.aX 0 5&&(inR s.ef 0 5&&inR s.d4 0 3))))))))))))):=by
  simp only[iO,me];ac_rfl
 rw[this]
 simp only[g9,Og,OL h.1,N7,wY,Gw,eC,OK h,Vm,CY,st01]
 cases eqB s.bi 0<;>cases eqB s.bi 1<;>cases oU s.aK<;>cases ltB 0 s.bF<;>cases oU s.aF.eY<;>try rfl
 all_goals
  cases rP s.bv<;>cases pS s.gL<;>cases jS s.il<;>cases jq s.bW<;>cases(me s&&(s.aq.aw.all (BN s)&&tj s))<;>try rfl
 all_goals
  cases inR s.bF 0 999999<;>cases inR s.aa 0 999999<;>cases inR s.aO 0 999999<;>cases inR s.aK 0 2147483646<;>try rfl
 all_goals
  cases inR s.aX 0 5<;>cases inR s.ef 0 5<;>rfl
end Go.AM
namespace Go.AM
open Go.Proofs
attribute [local simp] bE be a8
def OX (a:aj):Int:=a.aD.foldl (fun s x=>WR (s+x.eg)) 0
theorem SV {a:aj} (h:jZ a):lb a=some (OX a):=by
 have:=h.1
 unfold lb
 rw[CS a.aD (fun s x=>WR (s+x.eg)) (by omega) (fun k x s hx hk=>by
  simp only[lc,cN hk,a8,hx,cd (show k<9223372036854775807 by omega),Vm,cond_true]) (fun s=>by simp[lc])]
 rfl
def G4 (a:aj) (k:Nat) (x:av):Bool:=!ltB x.au 0&&(inR x.eg 1 100000&&kE av.au a.aD k x)
def QV (a:aj):Bool:=eqB (WR (WR (a.bQ+a.eH)+OX a)) a.eZ
def iN (a:aj):Bool:=inR a.eZ 0 100000&&(inR a.bQ 0 a.eZ&&(inR a.eH 0 a.eZ&&(leB ((a.aD.length:Nat):Int) 8&&(gM (G4 a) a.aD&&QV a))))
theorem t0 {a:aj} (h:jZ a):fC a=some (iN a):=by
 have hl:=h.1
 have hL:iter (gP a) FU 0=bif gM (G4 a) a.aD then some (inR a.eZ 0 100000&&(inR a.bQ 0 a.eZ&&(inR a.eH 0 a.eZ&&(leB ((a.aD.length:Nat):Int) 8&&QV a)))) else some false:=by
  refine iS a.aD (G4 a) _ (by omega) (fun k x hx hk=>?_) ?_
  ·simp only[gP,cN hk,a8,hx,cd (show k<9223372036854775807 by omega),eC,Vm,cond_true,G4]
   cases k with
   |zero=>
    simp only[kE,show ltB 0 ((0:Nat):Int)=false from by simp[ltB]]
    cases ltB x.au 0<;>cases inR x.eg 1 100000<;>rfl
   |succ k=>
    obtain⟨y,hy,hi⟩:=zF hk (by omega) (by omega)
    simp only[Vz] at hy
    simp only[kE,hy,hi,hx,a8,show ltB 0 ((k+1:Nat):Int)=true from by simp[ltB],Vm]
    cases ltB x.au 0<;>cases inR x.eg 1 100000<;>cases leB x.au y.au<;>rfl
  ·simp only[gP,bE,eC,SV h,Vm,cond_false,QV]
   cases inR a.eZ 0 100000<;>cases inR a.bQ 0 a.eZ<;>cases inR a.eH 0 a.eZ<;>cases leB ((a.aD.length:Nat):Int) 8<;>rfl
 simp only[fC,hL,iN]
 cases inR a.eZ 0 100000<;>cases inR a.bQ 0 a.eZ<;>cases inR a.eH 0 a.eZ<;>cases leB ((a.aD.length:Nat):Int) 8<;>cases gM (G4 a) a.aD<;>rfl
def ip (a:aj) (i:Int):Int:=match a.aD.find? (fun x=>eqB x.au i) with
 |some x=>x.eg
 |none=>0
theorem PX {α:Type} (p:α→Bool) (xs:List α):(mL p 0 xs= -1∧xs.find? p=none)∨∃x,ltB (mL p 0 xs) 0=false∧ix xs (mL p 0 xs)=some x∧xs.find? p=some x:=by
 rcases xX p xs 0 with⟨h1,h2⟩|⟨j,h1,x,h2,h3,h4⟩
 ·exact .inl ⟨h1,by rw[List.find?_eq_none];intro x hx;simp[h2 x hx]⟩
 ·right
  have h1':mL p 0 xs=((j:Nat):Int):=by simpa using h1
  refine⟨x,by rw[h1'];simp[ltB],by rw[h1',a8,h2],?_⟩
  have hj:=(Tm.1 h2)
  rw[List.find?_eq_some_iff_getElem]
  have hjl:=hj.1
  refine⟨h3,j,hjl,hj.2,fun i hi=>?_⟩
  have hil:i<xs.length:=Nat.lt_trans hi hjl
  have:xs[i]∈xs.take j:=List.mem_take_iff_getElem.2 ⟨i,by omega,rfl⟩
  simp[h4 _ this]
theorem G5 {a:aj} (h:jZ a) (i:Int):kZ a i=some (ip a i):=by
 have:=h.1
 have hf:=xU (L:=px a i) a.aD (fun x=>eqB x.au i) (by omega) (fun k x hx hk=>by
  simp only[px,cN hk,a8,hx,cd (show k<9223372036854775807 by omega),Vm,cond_true]
  cases eqB x.au i<;>rfl) (by simp[px,dn])
 unfold kZ mB ip
 rw[hf]
 rcases PX (fun x:av=>eqB x.au i) a.aD with⟨e1,e2⟩|⟨x,e1,e2,e3⟩
 ·rw[e1,e2];simp[ltB]
 ·simp only[Vm,e1,e2,e3,cond_false]
def wa (a:aj) (q:dh):Bool:=iN a&&(jq q&&eqB (ip a q.au) q.cL)
theorem Ep {a:aj} (h:jZ a) (q:dh):eE a q=some (wa a q):=by
 simp only[eE,t0 h,wY,G5 h,Vm,wa];cases iN a<;>cases jq q<;>rfl
theorem lv {α ρ:Type} {L:Int→Option (cp Int ρ)} (xs:List α) (p:Nat→α→Bool) (f:ρ) (c:Option ρ) (hl:xs.length≤9223372036854775806)
 (hs:∀(k:Nat) (x:α),xs[k]?=some x→k<xs.length→L (k:Int)=bif p k x then some (.next ((k+1:Nat):Int)) else some (.done f)) (he:L ((xs.length:Nat):Int)=dn c):
 iter L FU 0=bif gM p xs then c else some f:=by
 have:=eD (step:=L) xs.zipIdx (fun k (_:Unit)=>(k:Int)) (fun _ y=>bif p y.2 y.1 then some (.next ()) else some (.done f)) (fun _=>c) (by simpa using hl)
  (fun k y s hy hk=>by
   have hk':k<xs.length:=by simpa using hk
   have:y=(xs[k],k):=by rw[v0 hk] at hy;simpa using hy.symm
   subst this
   rw[hs k xs[k] (v0 hk') hk'];cases p k xs[k]<;>rfl) (fun s=>by rw[VB,he]) ()
 refine Eq.trans (show iter L FU 0=_ from this) ?_
 have key:∀ys:List (α×Nat),iW (fun(_:Unit) y=>bif p y.2 y.1 then some (.next ()) else some (cp.done f)) (fun _=>c) ys ()=bif ys.all (fun y=>p y.2 y.1) then c else some f:=by
  intro ys
  induction ys with
  |nil=>rfl
  |cons x xs ih=>rw[iW];cases hp:p x.2 x.1<;>simp[hp,ih]
 exact key _
theorem Nm {l:List Int} (h:l.length≤1048576) (v:Int):xo l v=some (l.any fun x=>eqB x v):=
 z2 l (fun x=>eqB x v) (by omega) (fun k x hx hk=>by
  simp only[vS,cN hk,a8,hx,cd (show k<9223372036854775807 by omega),Vm,cond_true]
  cases eqB x v<;>rfl) (by simp[vS,dn])
def eL (m:aM) (i:Int):Bool:=inR i 0 (((m.aZ.length:Nat):Int)-1)
def Jn (m:aM) (x:Int) (i:Nat):Bool:=match m.aZ[x.toNat]? with
 |some d=>d.cW.any fun y=>eqB y (i:Int)
 |none=>false
def nbB (m:aM) (i:Nat) (ns:List Int) (k:Nat) (x:Int):Bool:=eL m x&&(!eqB x (i:Int)&&(kE id ns k x&&Jn m x i))
def BT (m:aM) (i:Nat) (c:fx):Bool:=inR c.f5 0 2&&gM (nbB m i c.cW) c.cW
def nM (m:aM):Bool:=inR ((m.aZ.length:Nat):Int) 1 6&&gM (BT m) m.aZ
theorem D2 {m:aM} {x:Int} (h:eL m x=true):∃d,d∈m.aZ∧ix m.aZ x=some d∧m.aZ[x.toNat]?=some d:=by
 simp only[eL,bu] at h
 have hlt:x.toNat<m.aZ.length:=by omega
 refine⟨m.aZ[x.toNat],Vt hlt,?_,v0 hlt⟩
 have hm:x=((x.toNat:Nat):Int):=by omega
 generalize x.toNat=m at hm hlt ⊢
 rw[hm,a8,v0 hlt]
theorem Rf {m:aM} (h:fP m):mw m=some (nM m):=by
 have hl:=h.1
 have h2:∀(i:Nat) (c:fx),c∈m.aZ→i<m.aZ.length→iter (kN m (i:Int) c) FU 0=bif gM (nbB m i c.cW) c.cW then some (.next ((i+1:Nat):Int)) else some (.done false):=by
  intro i c hc hi
  have hn:=(h.2 c hc).1
  refine lv c.cW (nbB m i c.cW) (cp.done false) _ (by omega) (fun k x hx hk=>?_) (by simp[kN,cd (show i<9223372036854775807 by omega)])
  simp only[kN,cN hk,a8,hx,cd (show k<9223372036854775807 by omega),eC,DQ hl,Vm,cond_true,nbB]
  cases hcb:eL m x with
  |false=>rw[show inR x 0 (((m.aZ.length:Nat):Int)-1)=false from hcb];rfl
  |true=>
   rw[show inR x 0 (((m.aZ.length:Nat):Int)-1)=true from hcb]
   obtain⟨d,d1,d2,d3⟩:=D2 hcb
   cases k with
   |zero=>
    simp only[kE,show ltB 0 ((0:Nat):Int)=false from by simp[ltB],d2,Nm (h.2 d d1).1,Jn,d3,Vm,cond_true,cond_false,UY]
    cases eqB x (i:Int)<;>cases(d.cW.any fun y=>eqB y (i:Int))<;>rfl
   |succ k=>
    obtain⟨y,hy,hi⟩:=zF hk (by omega) (by omega)
    simp only[Vz] at hy
    simp only[kE,hy,hi,show ltB 0 ((k+1:Nat):Int)=true from by simp[ltB],d2,Nm (h.2 d d1).1,Jn,d3,Vm,cond_true,cond_false,UY,id]
    cases eqB x (i:Int)<;>cases leB x y<;>cases(d.cW.any fun y=>eqB y (i:Int))<;>rfl
 have hL:iter (kL m) FU 0=bif gM (BT m) m.aZ then some (inR ((m.aZ.length:Nat):Int) 1 6) else some false:=by
  refine lv m.aZ (BT m) false _ (by omega) (fun k x hx hk=>?_) (by simp[kL,eC])
  have hm:=Tn hx
  simp only[kL,cN hk,a8,hx,eC,h2 k x hm hk,Vm,cond_true,BT]
  cases inR x.f5 0 2<;>cases gM (nbB m k x.cW) x.cW<;>rfl
 simp only[mw,hL,nM]
 cases inR ((m.aZ.length:Nat):Int) 1 6<;>cases gM (BT m) m.aZ<;>rfl
end Go.AM
namespace Go.AM
open Go.Proofs
attribute [local simp] bE be a8
def Ca (d:az) (s:ag):Bool:=(eqB d.dw.ID.dR s.bv.ID.dR&&(eqB d.dw.ID.bN s.bv.ID.bN&&true))&&eqB d.dw.eY s.bv.eY
def yb (n:ab) (i:Nat) (d:az):Bool:=match n.ai[i]?,n.bh[i]? with
 |some s,some a=>lq d&&(iO s&&(iN a&&(Ca d s&&(eL n.dZ d.aX&&(eL n.dZ s.aX&&(eqB s.bW.au (i:Int)&&wa a s.bW))))))
 |_,_=>false
def flB (n:ab) (f:bD):Bool:=inR f.aN 0 (((n.am.length:Nat):Int)-1)&&eL n.dZ f.aX
def B5 (n:ab):Bool:=inR n.dt 0 (WR ((kw .i64 1 ((n.dZ.aZ.length:Nat):Int))-1))&&(inR n.oX 0 100000&&leB 0 n.kv)
def mE (n:ab):Bool:=nM n.dZ&&(lr n.dY&&(!eqB n.dY.fA 0&&(leB ((n.am.length:Nat):Int) 4&&(eqB ((n.ai.length:Nat):Int) ((n.am.length:Nat):Int)&&(eqB ((n.bh.length:Nat):Int) ((n.am.length:Nat):Int)&&
 (gM (yb n) n.am&&(leB ((n.ay.length:Nat):Int) 200&&(n.ay.all (flB n)&&B5 n))))))))
theorem Jp {m:aM} {x:Int} {b:Int} (h:inR x 0 b=true):eL m x=ltB x ((m.aZ.length:Nat):Int):=by
 rw[bu] at h
 rw[Vo];simp[eL,inR,leB,ltB];omega
theorem flt_s {n:ab} (h:iF n):iter (fS n) FU 0=some (n.ay.all (flB n)&&B5 n):=by
 have hl:=h.2.2.2.2.1
 have:=iS (L:=fS n) n.ay (fun _ f=>flB n f) (some (B5 n)) (by omega) (fun k x hx hk=>by
  simp only[fS,cN hk,a8,hx,cd (show k<9223372036854775807 by omega),eC,DQ h.2.1.1,DQ h.1.1,Vm,cond_true,flB,eL]
  cases inR x.aN 0 (((n.am.length:Nat):Int)-1)<;>cases inR x.aX 0 (((n.dZ.aZ.length:Nat):Int)-1)<;>rfl) (by
  simp only[fS,bE,cond_false,eC,Vm,B5,show leB 0 ((n.dZ.aZ.length:Nat):Int)=true from by simp[leB],cond_true]
  cases inR n.dt 0 (WR ((kw .i64 1 ((n.dZ.aZ.length:Nat):Int))-1))<;>cases inR n.oX 0 100000<;>rfl)
 rw[this,sI]
 cases n.ay.all (flB n)<;>rfl
section
variable {n:ab} (h:iF n) (e1:n.ai.length=n.am.length) (e2:n.bh.length=n.am.length)
include h e1 e2
omit h in
theorem at_i {k:Nat} (hk:k<n.am.length):∃s a,s∈n.ai∧a∈n.bh∧n.ai[k]?=some s∧n.bh[k]?=some a:=
 ⟨n.ai[k]'(by omega),n.bh[k]'(by omega),Vt _,Vt _,v0 _,v0 _⟩
theorem mem_s {k:Nat} {d:az} (hd:n.am[k]?=some d):rJ n (k:Int)=some (yb n k d):=by
 have hk:=(Tm.1 hd).1
 obtain⟨s,a,s1,a1,s2,a2⟩:=at_i e1 e2 hk
 have od:=h.2.1.2 d (Tn hd)
 have os:=h.2.2.1.2 s s1
 have oa:=h.2.2.2.1.2 a a1
 simp only[rJ,a8,hd,s2,a2,MQ od.2.1 od.1.1,yv os,t0 oa,Ep oa,Vm,yb,Ca]
 cases hv:lq d
 ·rfl
 cases hs:iO s
 ·rfl
 have c1:eL n.dZ d.aX=ltB d.aX ((n.dZ.aZ.length:Nat):Int):=by
  simp only[lq,hV] at hv;exact Jp hv.2.2.1
 have c2:eL n.dZ s.aX=ltB s.aX ((n.dZ.aZ.length:Nat):Int):=by
  simp only[iO,hV] at hs;exact Jp hs.2.2.2.2.2.2.2.2.2.2.2.1
 rw[c1,c2]
 cases iN a<;>cases(eqB d.dw.ID.dR s.bv.ID.dR&&(eqB d.dw.ID.bN s.bv.ID.bN&&true))<;>cases eqB d.dw.eY s.bv.eY<;>try rfl
 cases ltB d.aX ((n.dZ.aZ.length:Nat):Int)<;>cases ltB s.aX ((n.dZ.aZ.length:Nat):Int)<;>cases eqB s.bW.au (k:Int)<;>rfl
theorem Sb:iter (fR n) FU 0=some (gM (yb n) n.am&&(n.ay.all (flB n)&&B5 n)):=by
 have hl:=h.2.1.1
 have:=iS (L:=fR n) n.am (yb n) (some (n.ay.all (flB n)&&B5 n)) (by omega) (fun k x hx hk=>by
  simp only[fR,cN hk,mem_s h e1 e2 hx,cd (show k<9223372036854775807 by omega),Vm,cond_true]
  cases yb n k x<;>rfl) (by simp only[fR,bE,cond_false,flt_s h])
 rw[this]
 cases gM (yb n) n.am<;>rfl
end
theorem zE {a b:Nat} (h:eqB (a:Int) (b:Int)=true):a=b:=by
 have:(a:Int)=b:=by simpa [eqB] using h
 omega
theorem Lz {n:ab} (h:iF n):jO n=some (mE n):=by
 simp only[jO,Rf h.1,Ix,Vm,mE,JW 4,JW 200]
 cases nM n.dZ<;>cases lr n.dY<;>cases eqB n.dY.fA 0<;>cases leB ((n.am.length:Nat):Int) 4<;>try rfl
 cases e1:eqB ((n.ai.length:Nat):Int) ((n.am.length:Nat):Int)<;>cases e2:eqB ((n.bh.length:Nat):Int) ((n.am.length:Nat):Int)<;>try rfl
 rw[Sb h (zE e1) (zE e2)]
 cases gM (yb n) n.am<;>cases leB ((n.ay.length:Nat):Int) 200<;>rfl
end Go.AM
namespace Go.AM
attribute [local simp] bE a8
theorem lD {α:Type} {by_:Nat} {L:Int×List α→Option (cp (Int×List α) (List α))} (xs:List α) (hb:by_≤100000) (hl:xs.length≤1048576)
 (hs:∀(k:Nat) (x:α),xs[k]?=some x→k<xs.length→L ((k:Int),xs.take k)=bif cM by_ (xs.take k++[x]).length then some (.next (((k+1:Nat):Int),xs.take k++[x])) else none)
 (he:L ((xs.length:Nat),xs)=some (.done xs)):iter L FU (0,[])=some xs:=by
 have:=eD (step:=L) xs (fun k (_:Unit)=>((k:Int),xs.take k)) (fun _ _=>some (.next ())) (fun _=>some xs) (by omega)
  (fun k x _ hx hk=>by
   rw[hs k x hx hk,cE hb (by simp;omega)]
   have e:xs.take (k+1)=xs.take k++[x]:=by rw[Vr,hx];rfl
   simp[e]) (fun _=>by rw[List.take_length,he];rfl) ()
 rw[Az xs (fun _ _=>rfl)] at this
 exact this
theorem okL.le {α:Type} {ok:α→Prop} {xs:List α} (h:okL ok xs):xs.length≤1048576:=h.1
theorem CG {xs:List b9} (h:okL rm xs):oH xs=some xs:=by
 rw[oH,lD (by_:=24) (L:=mb xs) xs (by omega) h.1 (fun k x hx hk=>by
  simp[mb,cN hk,hx,cd (show k<9223372036854775807 by have:=h.1;omega),cE (by_:=1) (n:=x.aQ.length) (by omega) (by have:=(h.2 x (Tn hx)).1;omega)]) (by simp[mb])]
 rfl
theorem Hm {xs:List ae} (h:okL ga xs):qF xs=some xs:=by
 rw[qF,lD (by_:=32) (L:=nL xs) xs (by omega) h.1 (fun k x hx hk=>by
  simp[nL,cN hk,hx,cd (show k<9223372036854775807 by have:=h.1;omega),cE (by_:=1) (n:=x.aQ.length) (by omega) (by have:=(h.2 x (Tn hx)).1;omega)]) (by simp[nL])]
 rfl
theorem Bw {w:a9} (h:lW w):kh w=some w:=by rw[kh,Hm h];rfl
theorem Oi {r:aP} (h:eV r):tM r=some r:=by rw[tM,Hm h.1,Vm,CG h.2];rfl
theorem Su {p:bB} (h:ew p):qI p=some p:=by
 rw[qI,UZ,cE (by omega) (by have:=h.1;omega)];rfl
theorem mR {s:ag} (h:eW s):gh s=some s:=by rw[gh,Su h.1,Vm,CG h.2.1,Vm,Bw h.2.2];rfl
theorem wu {d:az} (h:f9 d):ic d=some d:=by rw[ic,Oi h];rfl
theorem zZ {a:aj} (h:jZ a):jI a=some a:=by
 rw[jI,UZ,cE (by omega) (by have:=h.1;omega)];rfl
theorem Qz {x:ao} (h:ou x):xt x=some x:=by
 rw[xt,UZ,cE (by omega) (by have:=h.1;omega)];rfl
theorem Gg {f:bD} (h:kn f):oO f=some f:=by rw[oO,Qz h];rfl
theorem map_c {m:aM} (h:fP m):mA m=some m:=by
 rw[mA,lD (by_:=32) (L:=gO m) m.aZ (by omega) h.1 (fun k x hx hk=>by
  simp[gO,cN hk,hx,cd (show k<9223372036854775807 by have:=h.1;omega),cE (by_:=8) (n:=x.cW.length) (by omega) (by have:=(h.2 x (Tn hx)).1;omega)]) (by simp[gO])]
 rfl
theorem Rh {n:ab} (h:iF n):tT n=some n:=by
 obtain⟨h1,h2,h3,h4,h5⟩:=h
 rw[tT,map_c h1,Vm,
  lD (by_:=144) (L:=pB n) n.am (by omega) h2.1 (fun k x hx hk=>by simp[pB,cN hk,hx,cd (show k<9223372036854775807 by have:=h2.1;omega),wu (h2.2 x (Tn hx))]) (by simp[pB]),Vm,
  lD (by_:=288) (L:=pC n) n.ai (by omega) h3.1 (fun k x hx hk=>by simp[pC,cN hk,hx,cd (show k<9223372036854775807 by have:=h3.1;omega),mR (h3.2 x (Tn hx))]) (by simp[pC]),Vm,
  lD (by_:=48) (L:=pD n) n.bh (by omega) h4.1 (fun k x hx hk=>by simp[pD,cN hk,hx,cd (show k<9223372036854775807 by have:=h4.1;omega),zZ (h4.2 x (Tn hx))]) (by simp[pD]),Vm,
  lD (by_:=176) (L:=pE n) n.ay (by omega) h5.1 (fun k x hx hk=>by simp[pE,cN hk,hx,cd (show k<9223372036854775807 by have:=h5.1;omega),Gg (h5.2 x (Tn hx))]) (by simp[pE])]
 rfl
end Go.AM
namespace Go.AM
open Go.Proofs
attribute [local simp] bE be a8
theorem yI (n a b:Int):gX n a b=some (inR n a b):=by unfold gX inR;cases leB a n<;>rfl
theorem Hr (n a b:Int):cH n a b=some (inR n a b):=by unfold cH inR;cases leB a n<;>rfl
theorem Dy (x m:Int):(Vl x m)%m=x%m:=by
 have h:=Int.mul_tdiv_add_tmod x m
 have h2:x%m=(m*x.tdiv m+x.tmod m)%m:=by rw[h]
 rw[h2,Int.mul_add_emod_self_left]
theorem HK {m:Int} (x:Int) (hm:0<m): -m<Vl x m∧Vl x m<m:=⟨Int.lt_tmod_of_pos x hm,Int.tmod_lt_of_pos x hm⟩
theorem Qf {r m:Int} (h1: -m<r) (h2:r<0):r%m=r+m:=by
 rw[←VF r m,VG (by omega) (by omega)]
theorem P9 (x:Int) {m:Int} (h1:1≤m) (h2:m≤1000000000000):P8 x m=some (x%m):=by
 obtain⟨a,b⟩:=HK x (show 0<m by omega)
 have hr:inR m 1 1000000000000=true:=bu.2 ⟨h1,h2⟩
 have hz:(!eqB m 0)=true:=by simp[eqB];omega
 simp only[P8,yI,hr,hz,Vm,UY,cond_false,cond_true]
 rw[←Dy x m]
 by_cases h:Vl x m<0
 ·rw[show ltB (Vl x m) 0=true from lt0_t h,Qf a h]
  simp only[cond_true,Vm]
  rw[bG (by omega)]
 ·rw[show ltB (Vl x m) 0=false from lt0_f (by omega),VG (by omega) b]
  simp only[cond_false,Vm]
theorem ur (x:Int) {m:Int} (h1:1≤m) (h2:m≤1000000000000):Cp x m=some (x%m):=by
 obtain⟨a,b⟩:=HK x (show 0<m by omega)
 have hr:inR m 1 1000000000000=true:=bu.2 ⟨h1,h2⟩
 have hz:(!eqB m 0)=true:=by simp[eqB];omega
 simp only[Cp,Hr,hr,hz,Vm,UY,cond_false,cond_true]
 rw[bG (by omega),Vq (by omega),VF,Dy]
abbrev hM:Int:=2147483647
def wz (v x:Int):Int:=(v*1000003+x%hM+13)%hM
theorem mh (v x:Int):0≤wz v x∧wz v x<hM:=⟨VE _ (by decide),VC _ (by decide)⟩
theorem Od {v x:Int} (h0:0≤v) (h1:v<hM):Vl (WR (WR (WR (v*1000003)+x%hM)+13)) hM=wz v x:=by
 have a:=VE x (show hM≠0 by decide)
 have b:=VC x (show 0<hM by decide)
 unfold hM at*
 rw[bG (n:=v*1000003) (by omega),bG (n:=v*1000003+x%2147483647) (by omega),bG (n:=v*1000003+x%2147483647+13) (by omega),Vq (by omega)]
 rfl
theorem qZ {v x:Int} (h0:0≤v) (h1:v<hM):i6 v x=some (wz v x):=by
 rw[i6,P9 x (by omega) (by omega)]
 simp only[Vm]
 rw[Od h0 h1]
def AD (v:Int) (xs:List Int):Int:=xs.foldl wz v
theorem Gn {v:Int} (h0:0≤v) (h1:v<hM):∀(xs:List Int),0≤AD v xs∧AD v xs<hM
 |[]=>⟨h0,h1⟩
 |x::xs=>Gn (mh v x).1 (mh v x).2 xs
theorem Gh:∀(xs:List Int) (v:Int),0≤v→v<hM→iW (fun(s x:Int)=>some (cp.next (ρ:=Int) (Vl (WR (WR (WR (s*1000003)+x%hM)+13)) hM))) some xs v=some (AD v xs)
 |[],v,_,_=>rfl
 |x::xs,v,h0,h1=>by
  rw[iW,Od h0 h1]
  exact Gh xs _ (mh v x).1 (mh v x).2
theorem Ov {xs:List Int} (hl:xs.length≤1048576):Kv xs=some (AD 11 xs):=by
 have:=eD (step:=tx xs) xs (fun k (s:Int)=>(s,(k:Int))) (fun s x=>some (cp.next (Vl (WR (WR (WR (s*1000003)+x%hM)+13)) hM))) some (by omega)
  (fun k x s hx hk=>by
   simp only[tx,cN hk,a8,hx,ur x (m:=2147483647) (by omega) (by omega),cd (show k<9223372036854775807 by omega),Vm,cond_true];rfl) (fun s=>by simp[tx]) 11
 rw[Kv,show iter (tx xs) FU (11,0)=_ from this,Gh xs 11 (by decide) (by decide)]
 rfl
theorem CX:∀(xs:List Int) (v:Int),0≤v→v<hM→iW (fun(s x:Int)=>Vj (i6 s x) fun r=>some (cp.next (ρ:=Int) r)) some xs v=some (AD v xs)
 |[],v,_,_=>rfl
 |x::xs,v,h0,h1=>by
  rw[iW,qZ h0 h1]
  exact CX xs _ (mh v x).1 (mh v x).2
def d8 (k:Int) (xs:List Int):Int:=wz (AD (wz 11 k) xs) k
theorem ml (k:Int) (xs:List Int):0≤d8 k xs∧d8 k xs<hM:=mh _ _
theorem pZ {xs:List Int} (hl:xs.length≤1048576) (k:Int):lC k xs=some (d8 k xs):=by
 have:=eD (step:=jv xs) xs (fun k (s:Int)=>(s,(k:Int))) (fun s x=>Vj (i6 s x) fun r=>some (cp.next r)) some (by omega)
  (fun k x s hx hk=>by
   simp only[jv,cN hk,a8,hx,cd (show k<9223372036854775807 by omega),Vm,cond_true]
   cases i6 s x<;>rfl) (fun s=>by simp[jv]) (wz 11 k)
 rw[lC,qZ (by decide) (by decide)]
 simp only[Vm]
 have h2:=mh 11 k
 rw[show iter (jv xs) FU (wz 11 k,0)=_ from this,CX xs _ h2.1 h2.2]
 have h3:=Gn h2.1 h2.2 xs
 simp only[Vm]
 rw[qZ h3.1 h3.2]
 rfl
theorem dH {xs:List Int} (hl:xs.length≤100000) (k:Int):ec k xs=some (d8 k xs):=by
 have a1:cM 8 ([k]++xs).length=true:=cE (by omega) (by simp;omega)
 have a2:cM 8 (([k]++xs)++[k]).length=true:=cE (by omega) (by simp;omega)
 rw[ec,a1,a2]
 simp only[cond_true]
 rw[Ov (by simp;omega)]
 simp[AD,d8]
end Go.AM
namespace Go.AM
open Go.Proofs
attribute [local simp] bE be a8
def dk (k x:Int):Int:=if d8 k [9,x]=0 then 1 else d8 k [9,x]
theorem uZ (k x:Int):oi k x=some (dk k x):=by
 rw[oi,pZ (by simp)]
 simp only[Vm,dk]
 by_cases h:d8 k [9,x]=0
 ·rw[h];simp
 ·rw[show eqB (d8 k [9,x]) 0=false from eqB_f.2 h];simp[h]
theorem p6 (k x:Int):lL k x=some (dk k x):=by
 have:=(ml k [9,x]).1
 rw[lL,dH (by simp)]
 simp only[Vm,dk,Bf]
 by_cases h:d8 k [9,x]=0
 ·rw[h,show ltB 1 0=false from ltB_f.2 (by omega)];simp
 ·by_cases h1:d8 k [9,x]=1
  ·rw[h1];simp
  ·rw[show ltB 1 (d8 k [9,x])=true from ltB_t.2 (by omega)];simp[h]
def Gy (k:Int) (xs:List Int):Int:=xs.foldl dk k
theorem xZ:∀(xs:List Int) (v:Int),iW (fun(s x:Int)=>some (cp.next (ρ:=Int) (dk s x))) some xs v=some (Gy v xs)
 |[],v=>rfl
 |x::xs,v=>by rw[iW];exact xZ xs _
theorem AG {p:b8} (hl:p.Steps.length≤1048576) (k:Int):o5 k p=some (Gy k p.Steps):=by
 have:=eD (step:=gY p.Steps) p.Steps (fun j (s:Int)=>(s,(j:Int))) (fun s x=>some (cp.next (dk s x))) some (by omega)
  (fun j x s hx hj=>by simp[gY,cN hj,hx,cd (show j<9223372036854775807 by omega),uZ]) (fun s=>by simp[gY]) k
 rw[o5,qY,show iter (gY p.Steps) FU (k,0)=_ from this,xZ]
 rfl
theorem tA {p:b8} (hl:p.Steps.length≤1048576) (k:Int):mx k p=some (Gy k p.Steps):=by
 have:=eD (step:=iJ p) p.Steps (fun j (s:Int)=>(s,(j:Int))) (fun s x=>some (cp.next (dk s x))) some (by omega)
  (fun j x s hx hj=>by simp[iJ,cN hj,hx,cd (show j<9223372036854775807 by omega),p6]) (fun s=>by simp[iJ]) k
 rw[mx,show iter (iJ p) FU (k,0)=_ from this,xZ]
 rfl
def G6 (k e:Int):Int:=Gy k [1,3,e]
theorem wH (k e:Int):qm k e=some (G6 k e):=by
 rw[qm,jw]
 simp only[Vm]
 rw[AG (by simp)];rfl
theorem rA (k e:Int):nT k e=some (G6 k e):=by
 rw[nT,eJ]
 simp only[Vm]
 rw[tA (by simp)];rfl
def okB (xs:List Int):Prop:=∀x∈xs,uQ x
theorem Ml {x:Int} (h:uQ x):WR x=x:=bG (by simp only[uQ] at h;omega)
theorem xP:∀(xs acc:List Int),okB xs→acc.length+xs.length≤100000→iW (fun(s:List Int) (x:Int)=>bif cM 8 (s++[WR x]).length then some (cp.next (ρ:=List Int) (s++[WR x])) else none) some xs acc=some (acc++xs)
 |[],acc,_,_=>by simp[iW]
 |x::xs,acc,h,hl=>by
  simp only[TY] at hl
  rw[iW,show cM 8 (acc++[WR x]).length=true from eG (by simp;omega) (by simp;omega),Ml (h x (.head _))]
  simp only[cond_true]
  rw[xP xs (acc++[x]) (fun y hy=>h y (.tail _ hy)) (by simp;omega)]
  simp
theorem Lb {xs:List Int} (hb:okB xs) (hl:xs.length≤50000):nj xs=some (((xs.length:Nat):Int)::xs):=by
 have:=eD (step:=gW xs) xs (fun j (s:List Int)=>((j:Int),s)) (fun(s:List Int) (x:Int)=>bif cM 8 (s++[WR x]).length then some (cp.next (ρ:=List Int) (s++[WR x])) else none) some (by omega)
  (fun j x s hx hj=>by
   simp only[gW,cN hj,a8,hx,cd (show j<9223372036854775807 by omega),Vm,cond_true]
   cases cM 8 (s++[WR x]).length<;>rfl) (fun s=>by simp[gW]) [((xs.length:Nat):Int)]
 have hm:GF 8 0 (WR (((xs.length:Nat):Int)+1))=true:=by
  rw[bG (by omega)];simp only[GF,decide_eq_true_eq];omega
 rw[nj,hm]
 simp only[cond_true]
 rw[show((List.replicate ((0:Int)).toNat 0)++[((xs.length:Nat):Int)])=[((xs.length:Nat):Int)] from rfl,show cM 8 [((xs.length:Nat):Int)].length=true from eG (by simp) (by simp)]
 simp only[cond_true]
 rw[show iter (gW xs) FU (0,[((xs.length:Nat):Int)])=_ from this,xP xs _ hb (by simp;omega)]
 rfl
theorem Dm {xs:List Int} (hb:okB xs) (hl:xs.length≤50000):ny xs=some (((xs.length:Nat):Int)::xs):=by
 have:=eD (step:=gZ xs) xs (fun j (s:List Int)=>((j:Int),s)) (fun(s:List Int) (x:Int)=>bif cM 8 (s++[WR x]).length then some (cp.next (ρ:=List Int) (s++[WR x])) else none) some (by omega)
  (fun j x s hx hj=>by
   simp only[gZ,cN hj,a8,hx,cd (show j<9223372036854775807 by omega),Vm,cond_true]
   cases cM 8 (s++[WR x]).length<;>rfl) (fun s=>by simp[gZ]) [((xs.length:Nat):Int)]
 rw[ny,show iter (gZ xs) FU (0,[((xs.length:Nat):Int)])=_ from this,xP xs _ hb (by simp;omega)]
 rfl
def zt (m:bb):Bool:=inR m.cf 0 1&&(inR m.em 1 100000&&(leB ((m.aQ.length:Nat):Int) 60&&inR m.gV 0 2147483646))
theorem oC (m:bb):g8 m=some (zt m):=by
 simp only[g8,Hr,Vm,zt]
 cases inR m.cf 0 1<;>cases inR m.em 1 100000<;>cases leB ((m.aQ.length:Nat):Int) 60<;>rfl
theorem vz (m:bb):jM m=some (zt m):=by
 simp only[jM,yI,Vm,zt]
 by_cases h0:m.cf=0
 ·rw[h0,show inR 0 0 1=true from bu.2 (by omega)]
  simp only[be,cond_true]
  cases inR m.em 1 100000<;>cases leB ((m.aQ.length:Nat):Int) 60<;>rfl
 ·by_cases h1:m.cf=1
  ·rw[h1,show inR 1 0 1=true from bu.2 (by omega),show eqB 1 0=false from eqB_f.2 (by omega)]
   simp only[be,cond_true,cond_false]
   cases inR m.em 1 100000<;>cases leB ((m.aQ.length:Nat):Int) 60<;>rfl
  ·rw[show eqB m.cf 0=false from eqB_f.2 h0,show eqB m.cf 1=false from eqB_f.2 h1,show inR m.cf 0 1=false from by
    cases h:inR m.cf 0 1 with
    |false=>rfl
    |true=>have:=bu.1 h;omega]
   rfl
def mac (k:Int) (m:bb):Int:=d8 k ([m.cf,m.em]++(((m.aQ.length:Nat):Int)::m.aQ))
theorem B9 {m:bb} (hb:okB m.aQ) (hl:m.aQ.length≤50000) (k:Int):qW k m=some (eqB m.gV (mac k m)):=by
 rw[qW,ta,Lb hb hl]
 simp only[Vm]
 rw[show cM 8 ([m.cf,m.em]++(((m.aQ.length:Nat):Int)::m.aQ)).length=true from eG (by simp;omega) (by simp;omega),pZ (by simp;omega)]
 rfl
theorem vi {m:bb} (hb:okB m.aQ) (hl:m.aQ.length≤50000) (k:Int):oF k m=some (eqB m.gV (mac k m)):=by
 rw[oF,yB,Dm hb hl]
 simp only[Vm]
 rw[show cM 8 ([m.cf,m.em]++(((m.aQ.length:Nat):Int)::m.aQ)).length=true from eG (by simp;omega) (by simp;omega),dH (by simp;omega)]
 rfl
theorem BU {m:bb} (h:zt m=true):m.aQ.length≤60:=by
 simp only[zt,hV] at h
 have:=uO h.2.2.1
 omega
def nN (k:Int) (p:ao):Bool:=zt p.aT&&(eqB p.aT.cf 1&&eqB p.aT.gV (mac (G6 k p.aO) p.aT))
theorem zh {p:ao} (hb:okB p.aT.aQ) (k:Int):nk k p=some (nN k p):=by
 rw[nk,vz]
 simp only[Vm,nN,wH]
 cases hv:zt p.aT
 ·rfl
 ·rw[B9 hb (U0 (BU hv) (by omega))]
  cases eqB p.aT.cf 1<;>rfl
theorem mO {p:ao} (hb:okB p.aT.aQ) (k:Int):je k p=some (nN k p):=by
 rw[je,oC]
 simp only[Vm,nN,rA]
 cases hv:zt p.aT
 ·rfl
 ·rw[vi hb (U0 (BU hv) (by omega))]
  cases eqB p.aT.cf 1<;>rfl
def d1 (k:Int) (i:Nat) (x:Int):Int:=(x-d8 k [(i:Int)]%256)%256
def sP (k:Int) (xs:List Int):List Int:=xs.mapIdx (fun i x=>d1 k i x)
theorem Ap (k:Int) (xs:List Int):(sP k xs).length=xs.length:=by simp[sP]
theorem PK (k:Int) (xs:List Int):okB (sP k xs):=by
 intro x hx
 obtain⟨i,hi⟩:=T0 hx
 simp only[sP,Vs] at hi
 cases h:xs[i]? with
 |none=>rw[h] at hi;cases hi
 |some y=>
  rw[h] at hi;simp at hi;subst hi
  simp only[uQ,d1]
  omega
theorem HR (n:Int):IntKind.u8.wrap n=n%256:=by rw[IntKind.wrap_u8]
theorem Gp {xs:List Int} (hb:okB xs) (hl:xs.length≤50000) (k:Int):wC k xs=some (sP k xs):=by
 have hc:qX xs=some xs:=by
  have hm:GF 1 ((xs.length:Nat):Int) ((xs.length:Nat):Int)=true:=by simp only[GF,decide_eq_true_eq];omega
  rw[qX,hm]
  simp[cpL]
 have goal:Wp (iter (sZ k xs) FU (0,xs)) (fun r=>r=sP k xs):=by
  refine Wp.iterF (fun s=>∃i:Nat,i≤xs.length∧s.1=(i:Int)∧s.2.length=xs.length∧(∀j,j<i→s.2[j]?=(sP k xs)[j]?)∧(∀j,i≤j→s.2[j]?=xs[j]?)) (fun s=>((xs.length:Int)-s.1).toNat) ⟨0,by omega,rfl,rfl,by omega,fun _ _=>rfl⟩ (by simp;omega) ?_
  rintro⟨v2,v3⟩ ⟨i,hi,rfl,h3,h4,h5⟩
  simp only at h3 h4 h5
  simp only[sZ]
  refine Wp.cond (fun hlt=>?_) (fun hlt=>?_)
  ·have hlt:=im hlt
   have hil:i<xs.length:=by omega
   refine Wp.ix (by omega) (by omega) fun x hx hxi=>?_
   refine Wp.eq (pZ (by simp) _) (Wp.ix (by omega) (by omega) fun x' _ _=>Wp.some ?_)
   simp only[Vn] at hxi
   have hxi':xs[i]?=some x:=by rw[←h5 i (Nat.le_refl _)];exact hxi
   have hr:=ml k [(i:Int)]
   have e1:Vl (d8 k [(i:Int)]) 256=d8 k [(i:Int)]%256:=Vq hr.1
   have e2:IntKind.u8.wrap (x-IntKind.u8.wrap (Vl (d8 k [(i:Int)]) 256))=d1 k i x:=by
    rw[HR,HR,e1,d1]
    omega
   have e3:WR ((i:Int)+1)=((i+1:Nat):Int):=by rw[bG (by omega)];rfl
   rw[e2,e3]
   refine⟨⟨i+1,by omega,rfl,by simpa using h3,fun j hj=>?_,fun j hj=>?_⟩,?_⟩
   ·simp only[Vn]
    rw[U7]
    by_cases hij:i=j
    ·subst hij
     rw[if_pos rfl,if_pos (by omega)]
     simp only[sP,Vs,hxi',Vv]
    ·rw[if_neg hij];exact h4 j (by omega)
   ·simp only[Vn]
    rw[U7,if_neg (by omega)]
    exact h5 j (by omega)
   ·simp only;omega
  ·have hlt:=nn hlt
   refine Wp.some (Vw fun j=>?_)
   by_cases hj:j<xs.length
   ·exact h4 j (by omega)
   ·rw[Vy (by omega),Vy (by rw[Ap];omega)]
 obtain⟨r,h1,h2⟩:=goal.ex
 rw[wC,hc]
 simp only[Vm]
 rw[h1,h2];rfl
theorem Hb {xs:List Int} (hb:okB xs) (hl:xs.length≤50000) (k:Int):xa k xs=some (sP k xs):=by
 have goal:Wp (iter (tq k xs) FU (0,[])) (fun r=>r=sP k xs):=by
  refine Wp.iterF (fun s=>∃i:Nat,i≤xs.length∧s.1=(i:Int)∧s.2=(sP k xs).take i) (fun s=>((xs.length:Int)-s.1).toNat) ⟨0,by omega,rfl,rfl⟩ (by simp;omega) ?_
  rintro⟨v2,v3⟩ ⟨i,hi,rfl,rfl⟩
  simp only[tq]
  refine Wp.cond (fun hlt=>?_) (fun hlt=>?_)
  ·have hlt:=im hlt
   have hil:i<xs.length:=by omega
   refine Wp.ix (by omega) (by omega) fun x hx hxi=>?_
   simp only[Vn] at hxi
   have hx8:=hb x hx
   have hr:=ml k [(i:Int)]
   have e1:Vl (d8 k [(i:Int)]) 256=d8 k [(i:Int)]%256:=Vq hr.1
   have hb8:0≤d8 k [(i:Int)]%256∧d8 k [(i:Int)]%256<256:=by omega
   simp only[uQ] at hx8
   refine Wp.eq (dH (by simp) _) (Wp.eq (ur _ (by omega) (by omega)) ?_)
   have hlen:((sP k xs).take i).length=i:=by rw[Uz,Ap];omega
   rw[e1,Ml (hb x hx),bG (by omega),HR]
   have e4:(x-d8 k [(i:Int)]%256)%256%256=d1 k i x:=by rw[d1];omega
   rw[e4]
   refine Wp.ok (eG (by simp only[Ut,hlen,TY,Vp];omega) (by simp only[Ut,hlen,TY,Vp];omega)) (Wp.some ?_)
   have e3:WR ((i:Int)+1)=((i+1:Nat):Int):=by rw[bG (by omega)];rfl
   rw[e3]
   have hxd:(sP k xs)[i]?=some (d1 k i x):=by simp only[sP,Vs,hxi,Vv]
   refine⟨⟨i+1,by omega,rfl,by rw[Vr,hxd];rfl⟩,?_⟩
   simp only;omega
  ·have hlt:=nn hlt
   refine Wp.some ?_
   rw[Vx (by rw[Ap];omega)]
 obtain⟨r,h1,h2⟩:=goal.ex
 rw[xa,h1,h2];rfl
end Go.AM
namespace Go.AM
attribute [local simp] bE be a8
def e1 (k:Int) (i:Nat) (x:Int):Int:=(x+d8 k [(i:Int)]%256)%256
def sR (k:Int) (xs:List Int):List Int:=xs.mapIdx (fun i x=>e1 k i x)
@[simp] theorem encL_len (k:Int) (xs:List Int):(sR k xs).length=xs.length:=by simp[sR]
theorem JA (k:Int) (xs:List Int):okB (sR k xs):=by
 intro x hx
 obtain⟨i,hi⟩:=T0 hx
 simp only[sR,Vs] at hi
 cases h:xs[i]? with
 |none=>rw[h] at hi;cases hi
 |some y=>rw[h] at hi;simp at hi;subst hi;simp only[uQ,e1];omega
theorem PL {xs:List Int} (h:okB xs) (k:Int):sP k (sR k xs)=xs:=by
 apply Vw
 intro i
 simp only[sP,sR,Vs,Option.map_map]
 cases hx:xs[i]? with
 |none=>rfl
 |some x=>
  have:=h x (Tn hx)
  simp only[uQ] at this
  simp only[Vv,Function.comp,d1,e1,Option.some.injEq]
  omega
theorem Hc {xs:List Int} (hb:okB xs) (hl:xs.length≤50000) (k:Int):xb k xs=some (sR k xs):=by
 have goal:Wp (iter (tu k xs) FU (0,[])) (fun r=>r=sR k xs):=by
  refine Wp.iterF (fun s=>∃i:Nat,i≤xs.length∧s.1=(i:Int)∧s.2=(sR k xs).take i) (fun s=>((xs.length:Int)-s.1).toNat) ⟨0,by omega,rfl,rfl⟩ (by simp;omega) ?_
  rintro⟨v2,v3⟩ ⟨i,hi,rfl,rfl⟩
  simp only[tu]
  refine Wp.cond (fun hlt=>?_) (fun hlt=>?_)
  ·have hlt:=im hlt
   have hil:i<xs.length:=by omega
   refine Wp.ix (by omega) (by omega) fun x hx hxi=>?_
   simp only[Vn] at hxi
   have hx8:=hb x hx
   have hr:=ml k [(i:Int)]
   have t1:Vl (d8 k [(i:Int)]) 256=d8 k [(i:Int)]%256:=Vq hr.1
   have hb8:0≤d8 k [(i:Int)]%256∧d8 k [(i:Int)]%256<256:=by omega
   simp only[uQ] at hx8
   refine Wp.eq (dH (by simp) _) ?_
   have hlen:((sR k xs).take i).length=i:=by rw[Uz,encL_len];omega
   rw[t1,Ml (hb x hx),bG (by omega),Vq (by omega),HR]
   have t4:(x+d8 k [(i:Int)]%256)%256%256=e1 k i x:=by rw[e1];omega
   rw[t4]
   refine Wp.ok (eG (by simp only[Ut,hlen,TY,Vp];omega) (by simp only[Ut,hlen,TY,Vp];omega)) (Wp.some ?_)
   have t3:WR ((i:Int)+1)=((i+1:Nat):Int):=by rw[bG (by omega)];rfl
   rw[t3]
   have hxd:(sR k xs)[i]?=some (e1 k i x):=by simp only[sR,Vs,hxi,Vv]
   refine⟨⟨i+1,by omega,rfl,by rw[Vr,hxd];rfl⟩,?_⟩
   simp only;omega
  ·have hlt:=nn hlt
   refine Wp.some ?_
   rw[Vx (by rw[encL_len];omega)]
 obtain⟨r,h1,h2⟩:=goal.ex
 rw[xb,h1,h2];rfl
theorem NC {m:bb} (hb:okB m.aQ) (hl:m.aQ.length≤50000) (k:Int):yB k m=some (mac k m):=by
 rw[yB,Dm hb hl]
 simp only[Vm]
 rw[show cM 8 ([m.cf,m.em]++(((m.aQ.length:Nat):Int)::m.aQ)).length=true from eG (by simp;omega) (by simp;omega),dH (by simp;omega)]
 rfl
def Bt (k c:Int) (b:List Int):bb:=⟨1,c,sR (dk k (2*c+1)) b,mac k ⟨1,c,sR (dk k (2*c+1)) b,0⟩⟩
def gI (root g e:Int) (x:ae):ao:=⟨g,e,Bt (G6 root e) x.cT x.aQ⟩
theorem IM {x:ae} (h0:0≤x.cT) (h1:x.cT≤1000000) (hb:okB x.aQ) (hl:x.aQ.length≤50000) (root g e:Int):oD root g e x=some (gI root g e x):=by
 simp only[oD,rA,Bj,Vm,bG (n:=2*x.cT) (by omega),bG (n:=2*x.cT+1) (by omega),p6,Hc hb hl,NC (m:=⟨1,x.cT,sR _ x.aQ,0⟩) (JA _ _) (by simpa using hl)]
 rfl
theorem hM_le (k:Int) (xs:List Int):inR (d8 k xs) 0 2147483646=true:=by have:=ml k xs;rw[bu];unfold hM at this;omega
theorem QJ {c:Int} {b:List Int} (h0:1≤c) (h1:c≤100000) (hl:b.length≤60) (k:Int):zt (Bt k c b)=true:=by
 simp only[zt,Bt,encL_len,mac];rw[hM_le];simp[inR,leB];omega
theorem SF {x:ae} (h0:1≤x.cT) (h1:x.cT≤100000) (hl:x.aQ.length≤60) (root g e:Int):nN root (gI root g e x)=true:=by
 simp only[nN,gI,QJ h0 h1 hl];simp[Bt,mac,eqB]
def ko (root g e:Int) (x:ao):ae×Bool:=
 if x.aa=g∧x.aO=e∧nN root x=true then(⟨x.aT.em,sP (dk (G6 root e) (2*x.aT.em+1)) x.aT.aQ⟩,true) else(eF,false)
theorem C5 {p:ao} (hb:okB p.aT.aQ) (k g e:Int):ol k g e p=some (ko k g e p)∧rz k g e p=some (ko k g e p):=by
 simp only[ol,zh hb,wH,rz,mO hb,rA,Vm,ko]
 cases hg:eqB p.aa g
 ·rw[if_neg (fun h=>F7 hg h.1)];exact⟨by first|rfl|trivial,by first|rfl|trivial⟩
 cases he:eqB p.aO e
 ·rw[if_neg (fun h=>F7 he h.2.1)];exact⟨by first|rfl|trivial,by first|rfl|trivial⟩
 cases hv:nN k p
 ·rw[if_neg (fun h=>by cases h.2.2)];exact⟨by first|rfl|trivial,by first|rfl|trivial⟩
 have he:=lA he
 rw[if_pos ⟨lA hg,he,rfl⟩]
 simp only[nN,hV] at hv
 obtain⟨h1,h2,h3⟩:=hv
 have hlen:=BU h1
 have hd:=lA h2
 have hm:=lA h3
 have hcnt:1≤p.aT.em∧p.aT.em≤100000:=by
  simp only[zt,hV] at h1
  exact bu.1 h1.2.1
 rw[he] at hm
 have ek:eqB p.aT.gV (mac (G6 k e) p.aT)=true:=by rw[hm];simp
 simp only[UY,cond_false,ra,uZ,Gp hb (show p.aT.aQ.length≤50000 by omega),vP,oC,vi hb (show p.aT.aQ.length≤50000 by omega),p6,Hb hb (show p.aT.aQ.length≤50000 by omega),h1,h2,ek,show leB p.aT.em 0=false from leB_f.2 (by omega),Vm,hd,bG (n:=2*p.aT.em) (by omega),bG (n:=2*p.aT.em+1) (by omega)]
 refine⟨?_,?_⟩<;>first|trivial|rfl|(rw[be];rfl)
theorem C6 {x:ae} (h0:1≤x.cT) (h1:x.cT≤100000) (hb:okB x.aQ) (hl:x.aQ.length≤60) (root g e:Int):ko root g e (gI root g e x)=(x,true):=by
 rw[ko,if_pos ⟨rfl,rfl,SF h0 h1 hl _ _ _⟩]
 simp[gI,Bt,PL hb]
def OD (root:Int) (m:aA):Int:=d8 (Gy root [1,2]) [23,m.aR,m.aX,m.aa,m.aO,m.bN]
def tK (root:Int) (m:aA):aA:={m with gV:=OD root m}
def tY (root:Int) (m:aA):Bool:=eqB m.gV (OD root m)
theorem OE (root:Int) (m:aA):oE root m=some (OD root m):=by simp[oE,ge,tA,dH,OD]
theorem yw (root:Int) (m:aA):gN root m=some (tK root m):=by simp[gN,OE,tK]
theorem Fm (root:Int) (m:aA):fJ root m=some (tY root m):=by simp[fJ,OE,tY]
@[simp] theorem vSig_sign (root:Int) (m:aA):tY root (tK root m)=true:=by simp[tY,tK,OD,eqB]
def kD (m:aA):Bool:=inR m.aR 1 8&&(inR m.aX 0 5&&(inR m.aa 0 999999&&(inR m.aO 0 999999&&inR m.bN 0 1000000000000)))
theorem Kf (m:aA):iI m=some (kD m):=by
 simp only[iI,eC,Vm,kD]
 cases inR m.aR 1 8<;>cases inR m.aX 0 5<;>cases inR m.aa 0 999999<;>cases inR m.aO 0 999999<;>rfl
def msk (k r:Int):Int:=d8 k [1,r]%1000000
theorem Ik (k r:Int):0≤msk k r∧msk k r<1000000:=by unfold msk;omega
theorem Rg (k r:Int):jD k r=some (msk k r):=by simp[jD,dH,ur,msk]
def unm (k r a:Int):Int:=(a%1000000-msk k r)%1000000
theorem O2 (k r a:Int):0≤unm k r a∧unm k r a≤999999:=by unfold unm;omega
theorem Rq (k r a:Int):hP k r a=some (unm k r a):=by
 have:=Ik k r
 simp only[hP,ur _ (show(1:Int)≤1000000 by omega) (by omega),Rg,Vm,unm];rw[bG (by omega)]
def Ij (x:Int):Int:=if x=0 then 1 else x
def vec (k r q:Int):cO:=bif inR q 0 999999 then⟨r,(q+msk k r)%1000000,d8 k [2,r,q],d8 k [3,r],Ij (d8 k [4,r,q])⟩ else cr
theorem Qe (k:Int) (xs:List Int):1≤Ij (d8 k xs)∧Ij (d8 k xs)≤2147483646:=by have:=ml k xs;unfold hM Ij at*;split<;>omega
theorem KN (k r q:Int):fU k r q=some (vec k r q):=by
 simp only[fU,eC,Vm,vec]
 cases hq:inR q 0 999999
 ·rfl
 ·rw[bu] at hq
  have h1:=Ik k r
  have h2:=ml k [4,r,q]
  simp only[Rg,ur _ (show(1:Int)≤1000000 by omega) (by omega),dH (show [2,r,q].length≤100000 by simp),dH (show [3,r].length≤100000 by simp),dH (show [4,r,q].length≤100000 by simp),Vm,Bf,UY,cond_false,cond_true]
  rw[bG (by omega)]
  by_cases h:d8 k [4,r,q]=0
  ·rw[show ltB 1 (d8 k [4,r,q])=false from ltB_f.2 (by omega)];simp[Ij,h]
  ·by_cases h':d8 k [4,r,q]=1
   ·rw[h'];simp[ltB,Ij]
   ·rw[show ltB 1 (d8 k [4,r,q])=true from ltB_t.2 (by omega)];simp[Ij,h]
theorem KH {k r q:Int} (h0:0≤q) (h1:q≤999999):unm k r ((q+msk k r)%1000000)=q:=by have:=Ik k r;unfold unm;omega
def jk (k last:Int) (v:cO):Int:=
 if v.gV≠d8 k [2,v.eQ,unm k v.eQ v.gx] then 1 else if unm k v.eQ v.gx≤last then 2 else if last<unm k v.eQ v.gx-1000 then 3 else 0
theorem KL (k last:Int) (v:cO):jG k last v=some (jk k last v):=by
 have hu:=O2 k v.eQ v.gx
 simp only[jG,Rq,dH (show [2,v.eQ,unm k v.eQ v.gx].length≤100000 by simp),Vm,jk]
 rw[bG (by omega)]
 by_cases h1:v.gV=d8 k [2,v.eQ,unm k v.eQ v.gx]
 ·rw[show eqB v.gV (d8 k [2,v.eQ,unm k v.eQ v.gx])=true from eqB_t.2 h1]
  simp only[ne_eq,h1,not_true_eq_false,if_false,UY,cond_false]
  by_cases h2:unm k v.eQ v.gx≤last
  ·rw[show leB (unm k v.eQ v.gx) last=true from leB_t.2 h2,if_pos h2];rfl
  ·rw[show leB (unm k v.eQ v.gx) last=false from leB_f.2 (by omega),if_neg h2]
   by_cases h3:last<unm k v.eQ v.gx-1000
   ·rw[show ltB last (unm k v.eQ v.gx-1000)=true from ltB_t.2 h3,if_pos h3];rfl
   ·rw[show ltB last (unm k v.eQ v.gx-1000)=false from ltB_f.2 (by omega),if_neg h3];rfl
 ·rw[show eqB v.gV (d8 k [2,v.eQ,unm k v.eQ v.gx])=false from eqB_f.2 h1]
  simp[h1]
theorem L7 {k r q:Int} (h0:0≤q) (h1:q≤999999) (last:Int):jk k last (vec k r q)=if q≤last then 2 else if last<q-1000 then 3 else 0:=by
 have hq:inR q 0 999999=true:=bu.2 ⟨h0,h1⟩
 simp only[vec,hq,cond_true,jk,KH h0 h1,ne_eq,not_true_eq_false,if_false]
def FO (id:dF) (q:Int):Int:=d8 29 [id.dR,id.bN,q]
theorem MA (id:dF) (q:Int):iG id q=some (FO id q):=by simp[iG,dH,FO]
end Go.AM
namespace Go.AM
attribute [local simp] bE be a8
theorem HC {α:Type} (p:α→Bool):∀(xs:List α) (i:Nat),i<(xs.takeWhile p).length→∃x,xs[i]?=some x∧p x=true
 |[],i,h=>by simp at h
 |x::xs,i,h=>by
  rw[Vu] at h
  cases hp:p x<;>rw[hp] at h
  ·simp at h
  ·cases i with
   |zero=>exact⟨x,rfl,hp⟩
   |succ i=>exact HC p xs i (by simpa using h)
theorem HA {α:Type} (p:α→Bool):∀(xs:List α) (x:α),xs[(xs.takeWhile p).length]?=some x→p x=false
 |[],x,h=>by simp at h
 |y::xs,x,h=>by
  rw[Vu] at h
  cases hp:p y<;>rw[hp] at h
  ·simp at h;subst h;exact hp
  ·exact HA p xs x (by simpa using h)
theorem HB {α:Type} (p:α→Bool) (xs:List α):(xs.takeWhile p).length≤xs.length:=(List.takeWhile_prefix p).length_le
theorem BS {α:Type} (p:α→Bool):∀xs:List α,xs.take (xs.takeWhile p).length=xs.takeWhile p
 |[]=>rfl
 |x::xs=>by
  rw[Vu]
  cases p x
  ·rfl
  ·simp[BS p xs]
theorem BR {α:Type} (p:α→Bool):∀xs:List α,xs.drop (xs.takeWhile p).length=xs.dropWhile p
 |[]=>rfl
 |x::xs=>by
  rw[Vu,List.dropWhile_cons]
  cases p x
  ·rfl
  ·simp[BR p xs]
theorem BW {α:Type} {L:Int→Option (cp Int Int)} (xs:List α) (p:α→Bool) (hl:xs.length≤1048576)
 (h1:∀(k:Nat) (x:α),xs[k]?=some x→L k=bif p x then some (.next (WR ((k:Int)+1))) else some (.done k)) (h0:L xs.length=some (.done xs.length)):iter L FU 0=some (((xs.takeWhile p).length:Nat):Int):=by
 have hle:=HB p xs
 have:Wp (iter L FU 0) (fun r=>r=(((xs.takeWhile p).length:Nat):Int)):=by
  refine Wp.iterF (fun s=>∃i:Nat,s=(i:Int)∧i≤(xs.takeWhile p).length) (fun s=>((xs.length:Int)-s).toNat) ⟨0,rfl,by omega⟩ (by omega) ?_
  rintro _ ⟨i,rfl,hi⟩
  by_cases e:i<(xs.takeWhile p).length
  ·obtain⟨x,hx,hp⟩:=HC p xs i e
   rw[h1 i x hx,hp]
   exact⟨⟨i+1,by rw[bG (by omega)];rfl,by omega⟩,by simp only[bG (show-9223372036854775808≤(i:Int)+1∧(i:Int)+1≤9223372036854775807 by omega)];omega⟩
  ·have e:i=(xs.takeWhile p).length:=by omega
   by_cases hn:i<xs.length
   ·obtain⟨x,hx⟩:∃x,xs[i]?=some x:=⟨_,v0 hn⟩
    rw[h1 i x hx,HA p xs x (by rw[←e];exact hx)]
    subst e;rfl
   ·have:i=xs.length:=by omega
    subst this
    rw[h0]
    show((xs.length:Nat):Int)=_
    omega
 obtain⟨r,hr,rfl⟩:=this.ex
 exact hr
def before (q:Int) (x:ae):Bool:=ltB x.cT q
def nm (x:ae) (xs:List ae):List ae:=xs.takeWhile (before x.cT)++[x]++xs.dropWhile (before x.cT)
def n8:List ae→Int→List b9→aP
 |[],n,dl=>⟨n,[],dl⟩
 |x::xs,n,dl=>if x.cT=n∧dl.length<24 then n8 xs (n+1) (dl++[⟨x.aQ⟩]) else⟨n,x::xs,dl⟩
def zi (r:aP) (x:ae):Bool:=!pR r||(ltB 60 ((x.aQ.length:Nat):Int)||(!inR x.cT r.bm (r.bm+7)||(r.aF.any (fun y=>eqB y.cT x.cT)||leB 24 ((r.aS.length:Nat):Int))))
def mC (r:aP) (x:ae):aP:=
 bif zi r x then r else
  let o:=n8 (nm x r.aF) r.bm r.aS
  bif leB 24 ((o.aS.length:Nat):Int) then {o with aF:=[]} else o
theorem CL:∀(xs:List ae) (n:Int) (dl:List b9),dl.length≤24→(n8 xs n dl).aS.length≤24
 |[],n,dl,h=>h
 |x::xs,n,dl,h=>by
  rw[n8];split
  ·exact CL xs _ _ (by simp;omega)
  ·exact h
theorem CM {L:aP→Option (cp aP aP)}
 (hL:∀v:aP,v.aF.length≤1000→v.aS.length≤24→0≤v.bm→v.bm≤2000000→L v=match v.aF with
  |[]=>some (.done v)
  |x::xs=>if x.cT=v.bm∧v.aS.length<24 then some (.next ⟨v.bm+1,xs,v.aS++[⟨x.aQ⟩]⟩) else some (.done v)):
 ∀(xs:List ae) (n:Int) (dl:List b9) (fu:Nat),xs.length≤1000→dl.length≤24→0≤n→n+xs.length≤2000000→xs.length<fu→iter L fu ⟨n,xs,dl⟩=some (n8 xs n dl)
 |[],n,dl,fu,h1,h2,h3,h4,h5=>by
  cases fu with
  |zero=>omega
  |succ fu=>rw[iter,hL _ h1 h2 h3 (by simpa using h4)];rfl
 |x::xs,n,dl,fu,h1,h2,h3,h4,h5=>by
  simp only[TY] at h1 h4 h5
  cases fu with
  |zero=>omega
  |succ fu=>
   rw[iter,hL ⟨n,x::xs,dl⟩ (by simpa using h1) h2 h3 (by simp only;omega),n8]
   simp only
   by_cases e:x.cT=n∧dl.length<24
   ·rw[if_pos e,if_pos e]
    exact CM hL xs (n+1) _ fu (by omega) (by simp;omega) (by omega) (by omega) (by omega)
   ·rw[if_neg e,if_neg e]
theorem M7 {xs:List ae} (h:xs.length≤1048576) (q:Int):∃r,Bz xs q=some r∧leB 0 r=xs.any (fun y=>eqB y.cT q):=by
 refine⟨_,xU (L:=pz xs q) xs (fun y=>eqB y.cT q) (by omega) (fun k x hx hk=>?_) ?_,?_⟩
 ·simp[pz,cN hk,hx];cases eqB x.cT q<;>simp[cd (show k<9223372036854775807 by omega)]
 ·simp[pz]
 ·rcases xX (fun y:ae=>eqB y.cT q) xs 0 with⟨e,ha⟩|⟨j,e,x,hx,hp,_⟩
  ·rw[show((0:Nat):Int)=0 from rfl] at e
   rw[e,show xs.any (fun y=>eqB y.cT q)=false from by rw[List.any_eq_false];intro y hy;simp[ha y hy]];simp[leB]
  ·rw[show((0:Nat):Int)=0 from rfl] at e
   rw[e,show xs.any (fun y=>eqB y.cT q)=true from List.any_eq_true.2 ⟨x,Tn hx,hp⟩,leB_t];omega
theorem uE {r:aP} (h:pR r=true):r.bm=(r.aS.length:Int)+1∧r.aS.length≤24∧r.aF.length≤8:=by
 simp only[pR,hV] at h
 obtain⟨h1,h2,h3,h4,h5⟩:=h
 have h2:=uO h2
 have h4:=uO h4
 have h1:=lA h1
 rw[bG (by omega)] at h1
 omega
theorem qo (x:ae) (xs:List ae):(nm x xs).length=xs.length+1:=by
 have:(xs.takeWhile (before x.cT)).length+(xs.dropWhile (before x.cT)).length=xs.length:=by rw[←Ut,List.takeWhile_append_dropWhile]
 simp[nm];omega
theorem L2_i:∀v:aP,v.aF.length≤1000→v.aS.length≤24→0≤v.bm→v.bm≤2000000→kz v=match v.aF with
 |[]=>some (.done v)
 |x::xs=>if x.cT=v.bm∧v.aS.length<24 then some (.next ⟨v.bm+1,xs,v.aS++[⟨x.aQ⟩]⟩) else some (.done v):=by
 rintro⟨n,p,dl⟩ h1 h2 h3 h4
 cases p with
 |nil=>simp[kz]
 |cons x xs=>
  simp only[TY] at h1 h2
  have i0:ix (x::xs) 0=some x:=by simp[ix,leB]
  have hlt:ltB 0 (((x::xs).length:Nat):Int)=true:=ltB_t.2 (by simp only[TY];omega)
  simp only[kz,i0,hlt,cond_true,Vm]
  by_cases e:x.cT=n
  ·by_cases e2:dl.length<24
   ·rw[if_pos ⟨e,e2⟩,eqB_t.2 e,show ltB ((dl.length:Nat):Int) 24=true from ltB_t.2 (by omega)]
    have a1:cM 24 (dl++[(⟨x.aQ⟩:b9)]).length=true:=cE (by omega) (by simp;omega)
    have a2:fL (x::xs) 1 (((x::xs).length:Nat):Int)=true:=by simp[fL];omega
    simp only[cond_true,Vm,a1,a2,bG (n:=n+1) (by simp only at h3 h4;omega)]
    rfl
   ·rw[if_neg (fun h=>e2 h.2),eqB_t.2 e,show ltB ((dl.length:Nat):Int) 24=false from ltB_f.2 (by omega)];rfl
  ·rw[if_neg (fun h=>e h.1),eqB_f.2 e];rfl
theorem L2_s:∀v:aP,v.aF.length≤1000→v.aS.length≤24→0≤v.bm→v.bm≤2000000→pk v=match v.aF with
 |[]=>some (.done v)
 |x::xs=>if x.cT=v.bm∧v.aS.length<24 then some (.next ⟨v.bm+1,xs,v.aS++[⟨x.aQ⟩]⟩) else some (.done v):=L2_i
theorem CH {α:Type} (b:Bool) (x y:α):(bif b then some x else some y)=some (bif b then x else y):=by cases b<;>rfl
theorem Qa (a b c d e:Bool):(bif !a then some true else bif b then some true else bif !c then some true else bif d then some true else some e)=some (!a||(b||(!c||(d||e)))):=by cases a<;>cases b<;>cases c<;>cases d<;>rfl
theorem SS {r:aP} (h:eV r) {x:ae}:kW r x=some (mC r x):=by
 obtain⟨q,hq,hq2⟩:=M7 h.1.1 x.cT
 have hw:pR r=true→inR x.cT r.bm (WR (WR (r.bm+8)-1))=inR x.cT r.bm (r.bm+7):=fun hv=>by
  have:=uE hv
  rw[bG (n:=r.bm+8) (by omega),bG (by omega),show r.bm+8-1=r.bm+7 by omega]
 have hl:(bif !pR r then some true else(bif ltB 60 ((x.aQ.length:Nat):Int) then some true else(bif !(inR x.cT r.bm (WR (WR (r.bm+8)-1))) then some true else(bif leB 0 q then some true else some (leB 24 ((r.aS.length:Nat):Int))))))=some (zi r x):=by
  rw[hq2,Qa]
  cases hv:pR r
  ·simp[zi,hv]
  ·rw[hw hv];simp[zi,hv]
 simp only[kW,Oi h,Oj h.2.1 h.1.1,eC,hq,Vm,hl]
 rw[mC]
 cases hlt:zi r x
 ·simp only[zi,Bool.or_eq_false_iff,Bool.not_eq_false'] at hlt
  obtain⟨l1,l2,l3,l4,l5⟩:=hlt
  have hv:=uE l1
  have l2:=nn l2
  have l5:=wM l5
  have hw2:=HB (before x.cT) r.aF
  have hrun:=BW (L:=iz x r) r.aF (before x.cT) (by omega) (fun k y hy=>by
   have hk:=(Tm.1 hy).1
   simp[iz,cN hk,hy,before]) (by simp[iz])
  have hxs:([]:List ae)++r.aF.take ((((r.aF.takeWhile (before x.cT)).length:Nat):Int)).toNat++[(⟨x.cT,[]++x.aQ⟩:ae)]++r.aF.drop ((((r.aF.takeWhile (before x.cT)).length:Nat):Int)).toNat=nm x r.aF:=by
   simp[BS,BR,nm]
  have a1:fL r.aF 0 (((r.aF.takeWhile (before x.cT)).length:Nat):Int)=true:=by simp[fL];omega
  have a2:fL r.aF (((r.aF.takeWhile (before x.cT)).length:Nat):Int) ((r.aF.length:Nat):Int)=true:=by simp[fL];omega
  have a3:cM 1 (([]:List Int)++x.aQ).length=true:=cE (by omega) (by simp;omega)
  have a4:cM 32 (([]:List ae)++r.aF.take ((((r.aF.takeWhile (before x.cT)).length:Nat):Int)).toNat).length=true:=cE (by omega) (by simp;omega)
  have a5:cM 32 (([]:List ae)++r.aF.take ((((r.aF.takeWhile (before x.cT)).length:Nat):Int)).toNat++[(⟨x.cT,[]++x.aQ⟩:ae)]).length=true:=cE (by omega) (by simp;omega)
  simp only[cond_false,hrun,Vm,a1,a2,a3,a4,a5,cond_true]
  rw[hxs,cE (by omega) (show(nm x r.aF).length≤1048577 by rw[qo];omega),CM L2_s (nm x r.aF) r.bm r.aS FU (by rw[qo];omega) (by omega) (by omega) (by rw[qo];omega) (by have:=kt;rw[qo];omega)]
  have hd:=CL (nm x r.aF) r.bm r.aS (by omega)
  simp only[cond_true,Vm,CH]
  rw[show eqB (((n8 (nm x r.aF) r.bm r.aS).aS.length:Nat):Int) 24=leB 24 (((n8 (nm x r.aF) r.bm r.aS).aS.length:Nat):Int) from by rw[Vo];simp[eqB,leB];omega]
  cases leB 24 (((n8 (nm x r.aF) r.bm r.aS).aS.length:Nat):Int)<;>rfl
 ·rfl
end Go.AM
