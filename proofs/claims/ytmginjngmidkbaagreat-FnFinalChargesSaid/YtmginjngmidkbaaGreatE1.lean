/- A part. -/
import Derived.Orders
import Derived.Below
import Derived.KernelRfl
import Derived.Maps.AppendAt
import Derived.Laws.MakeOwn
import Derived.Tactics
import Derived.Laws.Strings
import Derived.Great.FillDense
import Derived.Deep.Slices
import Derived.WideShapes
import Derived.ProofKit
import Derived.OpenShut
import Derived.ChangeOld
import Derived.Laws.Slices
import Derived.Laws.Small
set_option linter.unusedVariables false
set_option linter.unusedSimpArgs false
open List renaming getElem?_eq_getElem->v0,getElem?_eq_some_iff->aaa,mem_of_getElem?->aab,getElem?_append_left->aal,getElem?_append_right->aan,getElem?_take->aat,eq_nil_of_length_eq_zero->aaL,mem_cons->aae,replicate->aaf,pairwise_iff_getElem->aaG,findIdx?_eq_some_iff_getElem->aaW,getElem?_of_mem->aap,take_succ_cons->aaI,getElem?_drop->aaQ,range->f4,filter_cons_of_pos->aaM,filter_cons_of_neg->aaN,length_cons->aai,any_eq_true->aaD,drop_eq_getElem_cons->aaZ,findIdx?_eq_none_iff->aa0,eq_of_mem_replicate->aa5,length_map->aay,mem_append->aac,mem_of_mem_take->aaA,all_cons->aaK,length_append->aav,append_assoc->aaR,getElem?_map->aaH,cons_append->aaE,all_eq_true->aag,nodup_cons->aaY,map_cons->aaB
open Nat renaming eq_of_beq_eq_true->aad,beq->d0,le_refl->aah,mul_le_mul_right->aaS,lt_or_ge->aao,zero_add->aaj,add_mul->aaP,le_of_ble_eq_true->aaO,zero_le->aas,lt_of_lt_of_le->aau,add_mul_mod_self_right->aa4,ble->aaz,add_assoc->aaX,add_zero->aaT,add_comm->aa2,mod_eq_of_lt->aa6,strongRecOn->aa3,min_eq_left->aaF
open Array renaming getElem?_eq_getElem->aar,getElem?_eq_none->aaw,getD_eq_getD_getElem?->aaC,getElem?_setIfInBounds_ne->aaU,replicate->aak,toArray_toList->aaV,getD->aa1
open Bool renaming and_eq_true->hV,not_eq_true'->aax,or_eq_true->aam,or_eq_false_iff->aaq,false_or->aaJ
namespace Go.AM
variable {w w':World} {b g g' m:Bool} {k sz n N j id l i e by_ off f ft nx nx':Nat} {u:Value} {x y:Code} {t t' vt:TypeId} {a:Act} {P:Program} {dj:Tmp} {σ α ρ:Type} {kd:IntKind}
abbrev Lae:=List Value
abbrev Lac:=List (Nat×Nat)
theorem oaa{p:Prop}(h:p:=by omega):p:=h
def wH:List Nat:=[]
def Kd (_:World):Prop:=True
theorem VM (w w':World) (_:∀b∈wH,w'.heap[b]?=w.heap[b]?) (_:Kd w):Kd w':=trivial
theorem Qi (w:World) (_:Kd w):∀b∈wH,b<w.heap.size:=λ_ h=>by cases h
open Go.RowKit
def nlt (a b:Nat):Bool:=aaz (a+1) b
def TabsIn (w:World):Prop:=Kd w
inductive D where
 |i (k:IntKind) (n:Int)
 |b (x:Bool)
 |str (s:ByteArray)
 |l (xs:List (List D))
 |k (A:Option Addr) (n c:Nat)
 deriving Inhabited
variable {r el:List Go.AM.D}
abbrev Lad:=List (List D)
variable {els ys:Go.AM.Lad}
mutual
def rdD (w:World) (F:Nat->Prop):D->Value->Prop
 | .i k n,u=>u= .int k n
 | .b x,u=>u= .bool x
 | .str s,u=>u= .string s
 | .l xs,u=>∃A c,u= .slice A xs.length c/\xs.length<=c/\(xs=[]\/∃b off,A=some ⟨b,off,none⟩/\F b/\rdLL w F xs b off)
 | .k A n c,u=>u= .slice A n c
def rdLL (w:World) (F:Nat->Prop):Lad->Nat->Nat->Prop
 |[],_,_=>True
 |e::es,b,k=>rdL w F e b k/\rdLL w F es b (k+e.length)
def rdL (w:World) (F:Nat->Prop):List D->Nat->Nat->Prop
 |[],_,_=>True
 |d::ds,b,k=>(∃u,w.cell? ⟨b,k,none⟩=some u/\rdD w F d u)/\rdL w F ds b (k+1)
end
theorem vX {b:Nat} (h:w'.heap[b]?=w.heap[b]?):w'.cell? ⟨b,k,none⟩=w.cell? ⟨b,k,none⟩:=by
 simp[World.cell?,h]
mutual
theorem cW {w w':World} {F F':Nat->Prop} (hw:∀b,F b->w'.heap[b]?=w.heap[b]?) (hF:∀b,F b->F' b):
 ∀(d:D) (u:Value),rdD w F d u->rdD w' F' d u
 | .i _ _,_,h=>by simpa [rdD] using h
 | .b _,_,h=>by simpa [rdD] using h
 | .str _,_,h=>by simpa [rdD] using h
 | .l xs,u,h=>by
  rw[rdD] at h ⊢
  obtain⟨A,c,hu,hlc,h⟩:=h
  refine⟨A,c,hu,hlc,?_⟩
  rcases h with h|⟨b,off,hA,hb,h⟩
  .exact .inl h
  exact .inr ⟨b,off,hA,hF b hb,rdLL_mono hw hF xs b off hb h⟩
 | .k _ _ _,_,h=>by simpa [rdD] using h
theorem rdLL_mono {w w':World} {F F':Nat->Prop} (hw:∀b,F b->w'.heap[b]?=w.heap[b]?) (hF:∀b,F b->F' b):
 ∀(xs:Lad) (b k:Nat),F b->rdLL w F xs b k->rdLL w' F' xs b k
 |[],_,_,_,_=>by simp[rdLL]
 |e::es,b,k,hb,h=>by
  rw[rdLL] at h ⊢
  exact⟨rdL_mono hw hF e b k hb h.1,rdLL_mono hw hF es b _ hb h.2⟩
theorem rdL_mono {w w':World} {F F':Nat->Prop} (hw:∀b,F b->w'.heap[b]?=w.heap[b]?) (hF:∀b,F b->F' b):
 ∀(xs:List D) (b k:Nat),F b->rdL w F xs b k->rdL w' F' xs b k
 |[],_,_,_,_=>by simp[rdL]
 |d::ds,b,k,hb,h=>by
  rw[rdL] at h ⊢
  obtain⟨⟨u,hc,hu⟩,h⟩:=h
  exact⟨⟨u,(vX (hw b hb)).trans hc,cW hw hF d u hu⟩,rdL_mono hw hF ds b _ hb h⟩
end
theorem Ic {w w':World} {F F':Nat->Prop} (hw:∀b,F b->w'.heap[b]?=w.heap[b]?) (hF:∀b,F b->F' b) {b:Nat} (hb:w'.heap[b]?=w.heap[b]?):
 ∀(xs:List D) (k:Nat),rdL w F xs b k->rdL w' F' xs b k
 |[],_,_=>by simp[rdL]
 |d::ds,k,h=>by
  rw[rdL] at h ⊢
  obtain⟨⟨u,hc,hu⟩,h⟩:=h
  exact⟨⟨u,(vX hb).trans hc,cW hw hF d u hu⟩,Ic hw hF hb ds _ h⟩
theorem cX {w w':World} {F F':Nat->Prop} (hw:∀b,F b->w'.heap[b]?=w.heap[b]?) (hF:∀b,F b->F' b) {b:Nat} (hb:w'.heap[b]?=w.heap[b]?):
 ∀(xs:Lad) (k:Nat),rdLL w F xs b k->rdLL w' F' xs b k
 |[],_,_=>by simp[rdLL]
 |e::es,k,h=>by
  rw[rdLL] at h ⊢
  exact⟨Ic hw hF hb e k h.1,cX hw hF hb es _ h.2⟩
theorem nO {w:World} {F:Nat->Prop}:∀{xs:List D} {b k:Nat} {j:Nat} {d:D},rdL w F xs b k->xs[j]?=some d->∃u,w.cell? ⟨b,k+j,none⟩=some u/\rdD w F d u
 |[],_,_,_,_,_,h=>by simp at h
 |_::_,b,k,0,d,h,hj=>by
  rw[rdL] at h
  simp at hj
  subst hj
  exact h.1
 |_::ds,b,k,j+1,d,h,hj=>by
  rw[rdL] at h
  have:=nO (j:=j) h.2 (by simpa using hj)
  rwa [show k+1+j=k+(j+1) from by omega] at this
theorem oT {w:World} {F:Nat->Prop}:∀{xs:List D} {b k:Nat},(∀j d,xs[j]?=some d->∃u,w.cell? ⟨b,k+j,none⟩=some u/\rdD w F d u)->rdL w F xs b k
 |[],_,_,_=>by simp[rdL]
 |d::ds,b,k,h=>by
  rw[rdL]
  refine⟨h 0 d rfl,oT λj d' hj=>?_⟩
  have:=h (j+1) d' (by simpa using hj)
  rwa [show k+(j+1)=k+1+j from by omega] at this
theorem rI {w:World} {F:Nat->Prop} {sz:Nat}:∀{xs:Lad} {b k:Nat} {i:Nat} {e:List D},rdLL w F xs b k->(∀e∈xs,e.length=sz)->xs[i]?=some e->rdL w F e b (k+i*sz)
 |[],_,_,_,_,_,_,h=>by simp at h
 |_::_,b,k,0,e,h,_,hi=>by
  rw[rdLL] at h
  simp at hi
  subst hi
  simpa using h.1
 |e0::es,b,k,i+1,e,h,hs,hi=>by
  rw[rdLL] at h
  have h0:e0.length=sz:=hs e0 (by simp)
  have:=rI (i:=i) h.2 (λx hx=>hs x (by simp[hx])) (by simpa using hi)
  rw[h0] at this
  rwa [show k+sz+i*sz=k+(i+1)*sz from by rw[aaP];omega] at this
theorem ww {w:World} {F:Nat->Prop} {sz:Nat}:∀{xs:Lad} {b k:Nat},(∀e∈xs,e.length=sz)->(∀i e,xs[i]?=some e->rdL w F e b (k+i*sz))->rdLL w F xs b k
 |[],_,_,_,_=>by simp[rdLL]
 |e0::es,b,k,hs,h=>by
  rw[rdLL]
  have h0:e0.length=sz:=hs e0 (by simp)
  refine⟨by simpa using h 0 e0 rfl,ww (λx hx=>hs x (by simp[hx])) λi e hi=>?_⟩
  have:=h (i+1) e (by simpa using hi)
  rw[h0]
  rwa [show k+(i+1)*sz=k+sz+i*sz from by rw[aaP];omega] at this
theorem Cr {F:Nat->Prop} {xs:Lad} {b:Nat} (h:rdLL w F xs b k) (hs:∀e∈xs,e.length=sz) (m:Nat):rdLL w F (xs.drop m) b (k+m*sz):=
 ww (λe he=>hs e (List.mem_of_mem_drop he)) λi e hi=>by
  rw[aaQ] at hi
  have:=rI h hs hi
  rwa [show k+(m+i)*sz=k+m*sz+i*sz from by rw[aaP];omega] at this
theorem pS {w:World} {F:Nat->Prop}:∀{xs:Lad} {b k:Nat} (m:Nat),rdLL w F xs b k->rdLL w F (xs.take m) b k
 |[],_,_,_,_=>by simp[rdLL]
 |_::_,_,_,0,_=>by simp[rdLL]
 |e::es,b,k,m+1,h=>by
  rw[rdLL] at h
  rw[aaI,rdLL]
  exact⟨h.1,pS m h.2⟩
theorem Qn {sz:Nat}:∀{xs:Lad},(∀e∈xs,e.length=sz)->(xs.map List.length).sum=xs.length*sz
 |[],_=>by simp
 |e::es,h=>by
  simp[h e (by simp),Qn (xs:=es) λx hx=>h x (by simp[hx]),aaP]
  omega
theorem wv {F:Nat->Prop} {d:D} (h:rdD w F d u):u.oneCell'=true:=by
 cases d<;>simp only[rdD] at h
 case l xs=>obtain⟨A,c,rfl,_⟩:=h;rfl
 all_goals subst h;rfl
theorem Cq {F:Nat->Prop} {d:D} (h:rdD w F d u):u.cells= #[u]:=by
 cases d<;>simp only[rdD] at h
 case l xs=>obtain⟨A,c,rfl,_⟩:=h;rfl
 all_goals subst h;rfl
def Oc (u u':Value):Prop:=u'=u\/(∃k n m,u= .int k n/\u'= .int k m)\/(∃x y,u= .bool x/\u'= .bool y)\/(∃s t,u= .string s/\u'= .string t)
theorem Oc.trans {v x:Value} (h:Oc u v) (h':Oc v x):Oc u x:=by
 rcases h with rfl|⟨k,n,m,rfl,rfl⟩|⟨a,b,rfl,rfl⟩|⟨s,t,rfl,rfl⟩
 .exact h'
 .rcases h' with rfl|⟨k',n',m',h1,rfl⟩|⟨a,b,h1,rfl⟩|⟨s,t,h1,rfl⟩
  .exact .inr (.inl ⟨_,_,_,rfl,rfl⟩)
  .cases h1;exact .inr (.inl ⟨_,_,_,rfl,rfl⟩)
  .cases h1
  cases h1
 .rcases h' with rfl|⟨k',n',m',h1,rfl⟩|⟨a,b,h1,rfl⟩|⟨s,t,h1,rfl⟩
  .exact .inr (.inr (.inl ⟨_,_,rfl,rfl⟩))
  .cases h1
  .cases h1;exact .inr (.inr (.inl ⟨_,_,rfl,rfl⟩))
  cases h1
 rcases h' with rfl|⟨k',n',m',h1,rfl⟩|⟨a,b,h1,rfl⟩|⟨s,t,h1,rfl⟩
 .exact .inr (.inr (.inr ⟨_,_,rfl,rfl⟩))
 .cases h1
 .cases h1
 cases h1;exact .inr (.inr (.inr ⟨_,_,rfl,rfl⟩))
def sv (w w':World) (b:Nat):Prop:=∀k u,w.cell? ⟨b,k,none⟩=some u->∃u',w'.cell? ⟨b,k,none⟩=some u'/\Oc u u'
theorem sv.refl (w:World) (b:Nat):sv w w b:=λ_ u h=>⟨u,h,.inl rfl⟩
theorem sv.of_eq {b:Nat} (h:w'.heap[b]?=w.heap[b]?):sv w w' b:=λ_ u hc=>⟨u,(vX h).trans hc,.inl rfl⟩
theorem sv.trans {w'':World} {b:Nat} (h:sv w w' b) (h':sv w' w'' b):sv w w'' b:=λk u hc=>by
 obtain⟨u',h1,h2⟩:=h k u hc
 obtain⟨u'',h3,h4⟩:=h' k u' h1
 exact⟨u'',h3,h2.trans h4⟩
mutual
def rsD (w:World) (F:Nat->Prop):D->Value->Prop
 | .i k _,u=>∃m,u= .int k m
 | .b _,u=>∃x,u= .bool x
 | .str _,u=>∃s,u= .string s
 | .l xs,u=>∃A c,u= .slice A xs.length c/\xs.length<=c/\(xs=[]\/∃b off,A=some ⟨b,off,none⟩/\F b/\rsLL w F xs b off)
 | .k A n c,u=>u= .slice A n c
def rsLL (w:World) (F:Nat->Prop):Lad->Nat->Nat->Prop
 |[],_,_=>True
 |e::es,b,k=>rsL w F e b k/\rsLL w F es b (k+e.length)
def rsL (w:World) (F:Nat->Prop):List D->Nat->Nat->Prop
 |[],_,_=>True
 |d::ds,b,k=>(∃u,w.cell? ⟨b,k,none⟩=some u/\rsD w F d u)/\rsL w F ds b (k+1)
end
theorem X7 {F:Nat->Prop} {d:D} {u':Value} (h:rsD w F d u) (hs:Oc u u'):rsD w F d u':=by
 rcases hs with rfl|⟨k,n,m,rfl,rfl⟩|⟨a,b,rfl,rfl⟩|⟨s,t,rfl,rfl⟩
 .exact h
 all_goals cases d<;>simp only[rsD] at h ⊢
 all_goals first
  |(obtain⟨A,c,h,_⟩:=h;cases h;done)
  |(obtain⟨m',h⟩:=h;cases h;done)
  |(obtain⟨m',h⟩:=h;cases h;exact⟨_,rfl⟩)
  |(cases h;done)
mutual
theorem vy {w w':World} {F F':Nat->Prop} (hw:∀b,F b->sv w w' b) (hF:∀b,F b->F' b):
 ∀(d:D) (u:Value),rsD w F d u->rsD w' F' d u
 | .i _ _,_,h=>by simpa [rsD] using h
 | .b _,_,h=>by simpa [rsD] using h
 | .str _,_,h=>by simpa [rsD] using h
 | .l xs,u,h=>by
  rw[rsD] at h ⊢
  obtain⟨A,c,hu,hlc,h⟩:=h
  refine⟨A,c,hu,hlc,?_⟩
  rcases h with h|⟨b,off,hA,hb,h⟩
  .exact .inl h
  exact .inr ⟨b,off,hA,hF b hb,rsLL_mono hw hF xs b off hb h⟩
 | .k _ _ _,_,h=>by simpa [rsD] using h
theorem rsLL_mono {w w':World} {F F':Nat->Prop} (hw:∀b,F b->sv w w' b) (hF:∀b,F b->F' b):
 ∀(xs:Lad) (b k:Nat),F b->rsLL w F xs b k->rsLL w' F' xs b k
 |[],_,_,_,_=>by simp[rsLL]
 |e::es,b,k,hb,h=>by
  rw[rsLL] at h ⊢
  exact⟨rsL_mono hw hF e b k hb h.1,rsLL_mono hw hF es b _ hb h.2⟩
theorem rsL_mono {w w':World} {F F':Nat->Prop} (hw:∀b,F b->sv w w' b) (hF:∀b,F b->F' b):
 ∀(xs:List D) (b k:Nat),F b->rsL w F xs b k->rsL w' F' xs b k
 |[],_,_,_,_=>by simp[rsL]
 |d::ds,b,k,hb,h=>by
  rw[rsL] at h ⊢
  obtain⟨⟨u,hc,hu⟩,h⟩:=h
  obtain⟨u',hc',hs⟩:=hw b hb k u hc
  exact⟨⟨u',hc',vy hw hF d u' (X7 hu hs)⟩,rsL_mono hw hF ds b _ hb h⟩
end
mutual
theorem rsD_of {w:World} {F:Nat->Prop}:∀(d:D) (u:Value),rdD w F d u->rsD w F d u
 | .i _ n,_,h=>by rw[rdD] at h;rw[rsD];exact⟨n,h⟩
 | .b x,_,h=>by rw[rdD] at h;rw[rsD];exact⟨x,h⟩
 | .str s,_,h=>by rw[rdD] at h;rw[rsD];exact⟨s,h⟩
 | .l xs,u,h=>by
  rw[rdD] at h;rw[rsD]
  obtain⟨A,c,hu,hlc,h⟩:=h
  refine⟨A,c,hu,hlc,?_⟩
  rcases h with h|⟨b,off,hA,hb,h⟩
  .exact .inl h
  exact .inr ⟨b,off,hA,hb,rsLL_of xs b off h⟩
 | .k _ _ _,_,h=>by rw[rdD] at h;rw[rsD];exact h
theorem rsLL_of {w:World} {F:Nat->Prop}:∀(xs:Lad) (b k:Nat),rdLL w F xs b k->rsLL w F xs b k
 |[],_,_,_=>by simp[rsLL]
 |e::es,b,k,h=>by
  rw[rdLL] at h;rw[rsLL]
  exact⟨rsL_of e b k h.1,rsLL_of es b _ h.2⟩
theorem rsL_of {w:World} {F:Nat->Prop}:∀(xs:List D) (b k:Nat),rdL w F xs b k->rsL w F xs b k
 |[],_,_,_=>by simp[rsL]
 |d::ds,b,k,h=>by
  rw[rdL] at h;rw[rsL]
  obtain⟨⟨u,hc,hu⟩,h⟩:=h
  exact⟨⟨u,hc,rsD_of d u hu⟩,rsL_of ds b _ h⟩
end
theorem N0 {w:World} {F:Nat->Prop}:∀{xs:List D} {b k:Nat} {j:Nat} {d:D},rsL w F xs b k->xs[j]?=some d->∃u,w.cell? ⟨b,k+j,none⟩=some u/\rsD w F d u
 |[],_,_,_,_,_,h=>by simp at h
 |_::_,b,k,0,d,h,hj=>by
  rw[rsL] at h
  simp at hj
  subst hj
  exact h.1
 |_::ds,b,k,j+1,d,h,hj=>by
  rw[rsL] at h
  have:=N0 (j:=j) h.2 (by simpa using hj)
  rwa [show k+1+j=k+(j+1) from by omega] at this
theorem NZ {F:Nat->Prop} {d:D} (h:rsD w F d u):u.oneCell'=true/\u.cells= #[u]:=by
 cases d<;>simp only[rsD] at h
 case l xs=>obtain⟨A,c,rfl,_⟩:=h;exact⟨rfl,rfl⟩
 all_goals obtain⟨_,rfl⟩:=h;exact⟨rfl,rfl⟩
inductive C where
 |d (g:Bool) (x:D)
 |w (o n:Nat)
 |s (o sz off len:Nat)
 |p (o k:Nat)
 |e (o sz i j:Nat)
 |q (g:Bool) (x:List D) (j:Nat)
 |fn (f:FuncId)
 |nil
 |any
 |r (l:Nat) (x:D)
 |z (x:D)
 |zq (x:List D) (j:Nat)
 |wn (o n:Nat)
variable {cs:List Go.AM.C}
inductive V where
 |c (x:C)
 |agg (cs:List C)
variable {vs:List Go.AM.V}
inductive T where
 |v (x:V)
 |tup (ts:List V)
 |any
variable {out:Go.AM.T}
abbrev Lab:=List (Nat×T)
variable {sl sl':Go.AM.Lab}
structure Hid where
 nl:Prop
 S:Nat->Nat->(Nat->Prop)->World->Prop
 st:∀(b c:Nat) (R R':Nat->Prop) (w w':World),S b c R w->(∀k,R k->R' k)->w'.heap[b]?=w.heap[b]?->(∀k,R k->w'.heap[k]?=w.heap[k]?)->S b c R' w'
inductive Ob where
 |var (ty:TypeId) (cs:List C)
 |row (ty:TypeId) (sz:Nat) (els:Lad) (g m:Bool)
 |rown (ty:TypeId) (sz:Nat) (els:Lad) (g:Bool)
 |abs (l:Nat) (h:Hid)
abbrev Laa:=List (Nat×Ob)
variable {nob nw ob':Go.AM.Laa}
abbrev tI (n:Int):T:=.v (.c (.d false (.i .i64 n)))
abbrev tB (b:Bool):T:=.v (.c (.d false (.b b)))
abbrev tS (s:ByteArray):T:=.v (.c (.d false (.str s)))
structure Env where
 r:Nat->Option (Nat×Nat)
 F:Nat->Prop
 G:Nat->Prop
 T:Nat->Nat->Prop:=λ_ _=>False
 Z:Nat->Prop:=λ_=>False
 n:Nat->Prop:=λ_=>False
variable {E E':Go.AM.Env}
def Env.H (E:Env) (g:Bool):Nat->Prop:=if g then E.G else E.F
def cvC (E:Env) (w:World):C->Value->Prop
 | .d g x,u=>rdD w (E.H g) x u
 | .w o n,u=>∃b c,E.r o=some (b,c)/\u= .slice (some ⟨b,0,none⟩) n c
 | .s o sz off len,u=>∃A c b k,E.r o=some (b,k)/\u= .slice A len c/\len<=c/\(len=0\/A=some ⟨b,off*sz,none⟩)
 | .p o k,u=>∃b c,E.r o=some (b,c)/\u= .pointer (some ⟨b,k,none⟩)
 | .e o sz i j,u=>∃b c,E.r o=some (b,c)/\u= .pointer (some ⟨b,i*sz+j,none⟩)
 | .q g x j,u=>∃b k,u= .pointer (some ⟨b,k+j,none⟩)/\E.H g b/\rdL w (E.H g) x b k
 | .fn f,u=>u= .func (.func f) #[] #[]
 | .nil,u=>u= .slice none 0 0
 | .any,_=>True
 | .r l x,u=>rdD w (E.T l) x u
 | .z x,u=>rsD w E.Z x u
 | .zq x j,u=>∃b k,u= .pointer (some ⟨b,k+j,none⟩)/\E.Z b/\rsL w E.Z x b k
 | .wn o n,u=>(E.n o/\n=0/\u= .slice none 0 0)\/(¬E.n o/\∃b c,E.r o=some (b,c)/\u= .slice (some ⟨b,0,none⟩) n c)
def CV (E:Env) (w:World):List C->Lae->Prop
 |[],[]=>True
 |c::cs,u::us=>cvC E w c u/\CV E w cs us
 |_,_=>False
def cvV (E:Env) (w:World):V->Value->Prop
 | .c x,u=>cvC E w x u
 | .agg cs,u=>∃arr,u= .agg arr/\CV E w cs arr.toList
def VV (E:Env) (w:World):List V->Lae->Prop
 |[],[]=>True
 |c::cs,u::us=>cvV E w c u/\VV E w cs us
 |_,_=>False
def cvT (E:Env) (w:World):T->Value->Prop
 | .v x,u=>cvV E w x u
 | .tup ts,u=>∃arr,u= .tuple arr/\VV E w ts arr.toList
 | .any,_=>True
def dm (E:Env) (w:World) (o:Nat):Ob->Prop
 | .var ty cs=>∃b c arr,E.r o=some (b,c)/\w.heap[b]?=some (.cells arr ty (0,0))/\CV E w cs arr.toList/\¬E.F b
 | .row ty sz els g m=>∃b c arr,E.r o=some (b,c)/\w.heap[b]?=some (.cells arr ty (0,0))/\arr.size=c*sz/\els.length<=c/\c<=maxLen/\
  (∀e∈els,e.length=sz)/\rdLL w (E.H g) els b 0/\(m=true->¬E.F b)/\(m=false->E.F b/\(g=true->E.G b))
 | .rown ty sz els g=>(E.n o/\els=[])\/(¬E.n o/\∃b c arr,E.r o=some (b,c)/\w.heap[b]?=some (.cells arr ty (0,0))/\arr.size=c*sz/\els.length<=c/\c<=maxLen/\
  (∀e∈els,e.length=sz)/\rdLL w (E.H g) els b 0/\¬E.F b)
 | .abs l h=>(E.n o/\h.nl)\/(¬E.n o/\∃b c,E.r o=some (b,c)/\h.S b c (E.T l) w/\¬E.F b)
structure Cx where
 w0:World
 W:Nat->Prop
 r0:Nat->Option (Nat×Nat):=λ_=>none
 F0:Nat->Prop:=λ_=>True
 Z:Nat->Prop:=λ_=>False
 gw:TabsIn w0/\∀b∈wH,¬W b
 G0:Nat->Prop:=λ_=>False
def rsv (o:Nat):Bool:=aaz 190 o&&nlt o 210
def rsp (o:Nat):Bool:=aaz 200 o&&nlt o 210
theorem J1 {o:Nat} (h:rsp o=true):rsv o=true:=by
 simp only[rsp,rsv,nlt,hV,Nat.ble_eq] at h ⊢
 omega
theorem rJ {o:Nat} (h:rsv o=false):rsp o=false:=by
 cases k:rsp o with
 |false=>rfl
 |true=>rw[J1 k] at h;cases h
def jL (w:World) (b:Nat):Prop:=∃arr ty fz,w.heap[b]?=some (.cells arr ty fz)/\(fz=(0,0)\/arr.size<=fz.1)
theorem jL.mk {b:Nat} {arr:Array Value} {ty:TypeId} (h:w.heap[b]?=some (.cells arr ty (0,0))):jL w b:=⟨arr,ty,_,h,.inl rfl⟩
structure Dk (cx:Cx) (E:Env) (w:World):Prop where
 tb:∀l b,E.T l b->(b<w.heap.size/\cx.w0.heap.size<=b)/\¬E.F b/\(∀o c,E.r o≠some (b,c))/\jL w b
 tt:∀l l' b,E.T l b->E.T l' b->l=l'
 zc:∀b,cx.Z b->(b<cx.w0.heap.size/\b<w.heap.size/\cx.W b)/\¬E.F b/\(∀o c,E.r o≠some (b,c))/\jL w b
 zs:∀b,cx.Z b->sv cx.w0 w b
 ze:∀b,E.Z b->cx.Z b
theorem Dk.zb {cx:Cx} (s:Dk cx E w) (b:Nat) (h:E.Z b):(b<cx.w0.heap.size/\b<w.heap.size/\cx.W b)/\¬E.F b/\(∀o c,E.r o≠some (b,c))/\jL w b:=s.zc b (s.ze b h)
structure dJ (cx:Cx) (E:Env) (w:World):Prop where
 fb:∀b,E.F b->b<w.heap.size
 gf:∀b,E.G b->E.F b
 gn:∀b,E.G b->cx.w0.heap.size<=b\/cx.G0 b
 rb:∀o b c,E.r o=some (b,c)->b<w.heap.size/\(cx.w0.heap.size<=b\/(cx.W b/\rsv o=true))
 inj:∀o o' b c c',E.r o=some (b,c)->E.r o'=some (b,c')->o=o'
 os:w.os=cx.w0.os
 tape:w.tape=cx.w0.tape
 output:w.output=cx.w0.output
 size:cx.w0.heap.size<=w.heap.size
 block:∀b,b<cx.w0.heap.size->¬cx.W b->w.heap[b]?=cx.w0.heap[b]?
 pin:∀o x,rsp o=true->E.r o=some x->cx.r0 o=some x
 ff:∀b,E.F b->cx.F0 b\/cx.w0.heap.size<=b
 gc:∀b,E.F b->cx.w0.heap.size<=b->jL w b
 sf:Dk cx E w
theorem Xo {b:Nat} {o:Obj} (h:w.heap[b]?=some o):b<w.heap.size:=by
 rcases aao b w.heap.size with k|k
 .exact k
 rw[aaw k] at h;cases h
theorem dJ.tabs {cx:Cx} (ok:dJ cx E w):TabsIn w:=
 VM cx.w0 w (λb hb=>ok.block b (Qi _ cx.gw.1 b hb) (cx.gw.2 b hb)) cx.gw.1
theorem dJ.ntab {cx:Cx} (ok:dJ cx E w) {o b c:Nat} (h:E.r o=some (b,c)):∀k∈wH,k≠b:=λk hk e=>by
 have:=Qi _ cx.gw.1 k hk
 subst e
 rcases(ok.rb o _ c h).2 with m|m
 .omega
 exact cx.gw.2 _ hk m.1
structure Ext (E:Env) (w:World) (E':Env) (w':World):Prop where
 r:∀o x,E.r o=some x->E'.r o=some x
 F:∀b,E.F b->E'.F b
 G:∀b,E.G b->E'.G b
 F':∀b,E'.F b->E.F b\/w.heap.size<=b
 heap:∀b,b<w.heap.size->w'.heap[b]?=w.heap[b]?
 T:E'.T=E.T
 Z:E'.Z=E.Z
 n:E'.n=E.n
theorem Ext.refl (E:Env) (w:World):Ext E w E w:=⟨λ_ _ h=>h,λ_ h=>h,λ_ h=>h,λ_ h=>.inl h,λ_ _=>rfl,rfl,rfl,rfl⟩
theorem jL.of_eq {b:Nat} (h:w'.heap[b]?=w.heap[b]?) (p:jL w b):jL w' b:=by
 obtain⟨arr,ty,fz,hp,hf⟩:=p
 exact⟨arr,ty,fz,h.trans hp,hf⟩
theorem Dk.grow {cx:Cx} (s:Dk cx E w) (hT:E'.T=E.T) (hZ:E'.Z=E.Z) (hF:∀b,E'.F b->E.F b\/w.heap.size<=b) (hr:∀o b c,E'.r o=some (b,c)->(∃o' c',E.r o'=some (b,c'))\/w.heap.size<=b)
 (hs:w.heap.size<=w'.heap.size) (hh:∀b,b<w.heap.size->w'.heap[b]?=w.heap[b]?):Dk cx E' w':=by
 refine⟨λl b h=>?_,λl l' b h h'=>?_,λb h=>?_,λb h=>?_,λb h=>s.ze b (hZ▸h)⟩
 .rw[hT] at h
  obtain⟨⟨h1,h2⟩,h3,h4,h5⟩:=s.tb l b h
  refine⟨⟨by omega,h2⟩,λhf=>?_,λo c ho=>?_,h5.of_eq (hh b h1)⟩
  .rcases hF b hf with k|k
   .exact h3 k
   omega
  rcases hr o b c ho with⟨o',c',k⟩|k
  .exact h4 o' c' k
  omega
 .rw[hT] at h h';exact s.tt l l' b h h'
 .obtain⟨⟨h1,h2,h2'⟩,h3,h4,h5⟩:=s.zc b h
  refine⟨⟨h1,by omega,h2'⟩,λhf=>?_,λo c ho=>?_,h5.of_eq (hh b h2)⟩
  .rcases hF b hf with k|k
   .exact h3 k
   omega
  rcases hr o b c ho with⟨o',c',k⟩|k
  .exact h4 o' c' k
  omega
 exact(s.zs b h).trans (.of_eq (hh b (s.zc b h).1.2.1))
theorem dJ.hb {cx:Cx} (ok:dJ cx E w) {b:Nat} (h:E.H g b):b<w.heap.size:=by
 cases g
 .exact ok.fb b h
 exact ok.fb b (ok.gf b h)
theorem Ext.H (x:Ext E w E' w') {b:Nat} (h:E.H g b):E'.H g b:=by
 cases g
 .exact x.F b h
 exact x.G b h
structure lf (E:Env) (w:World) (E':Env) (w':World):Prop where
 r:∀o x,E.r o=some x->E'.r o=some x
 H:∀g b,E.H g b->E'.H g b
 heap:∀g b,E.H g b->w'.heap[b]?=w.heap[b]?
 T:∀l b,E.T l b->E'.T l b/\w'.heap[b]?=w.heap[b]?
 Z:∀b,E.Z b->E'.Z b/\sv w w' b
 n:E'.n=E.n
theorem lf.of_ext {cx:Cx} (ok:dJ cx E w) (x:Ext E w E' w'):lf E w E' w':=
 ⟨x.r,λ_ _ h=>x.H h,λ_ b h=>x.heap b (ok.hb h),λl b h=>⟨by rw[x.T];exact h,x.heap b (ok.sf.tb l b h).1.1⟩,λb h=>⟨by rw[x.Z];exact h,.of_eq (x.heap b (ok.sf.zb b h).1.2.1)⟩,x.n⟩
theorem u5 (x:lf E w E' w'):∀{c:C} {u:Value},cvC E w c u->cvC E' w' c u
 | .d g d,u,h=>cW (x.heap g) (x.H g) d u h
 | .w o n,u,⟨b,c,h,hu⟩=>⟨b,c,x.r _ _ h,hu⟩
 | .s o sz off len,u,⟨A,c,b,k,h,hu⟩=>⟨A,c,b,k,x.r _ _ h,hu⟩
 | .p o k,u,⟨b,c,h,hu⟩=>⟨b,c,x.r _ _ h,hu⟩
 | .e o sz i j,u,⟨b,c,h,hu⟩=>⟨b,c,x.r _ _ h,hu⟩
 | .q g y j,u,⟨b,k,hu,hb,h⟩=>⟨b,k,hu,x.H g b hb,rdL_mono (x.heap g) (x.H g) y b k hb h⟩
 | .fn f,u,h=>h
 | .nil,u,h=>h
 | .any,u,_=>trivial
 | .r l d,u,h=>cW (λb hb=>(x.T l b hb).2) (λb hb=>(x.T l b hb).1) d u h
 | .z d,u,h=>vy (λb hb=>(x.Z b hb).2) (λb hb=>(x.Z b hb).1) d u h
 | .zq y j,u,⟨b,k,hu,hb,h⟩=>⟨b,k,hu,(x.Z b hb).1,rsL_mono (λb hb=>(x.Z b hb).2) (λb hb=>(x.Z b hb).1) y b k hb h⟩
 | .wn o n,u,.inl ⟨h1,h2⟩=>.inl ⟨by rw[x.n];exact h1,h2⟩
 | .wn o n,u,.inr ⟨h1,b,c,h,hu⟩=>.inr ⟨by rw[x.n];exact h1,b,c,x.r _ _ h,hu⟩
theorem sq {E E':Env} {w w':World} (x:lf E w E' w'):∀{cs:List C} {us:Lae},CV E w cs us->CV E' w' cs us
 |[],[],_=>trivial
 |_::_,_::_,h=>⟨u5 x h.1,sq x h.2⟩
 |[],_::_,h=>h.elim
 |_::_,[],h=>h.elim
theorem Hx (x:lf E w E' w') {v:V} (h:cvV E w v u):cvV E' w' v u:=by
 cases v with
 |c c=>exact u5 x h
 |agg cs=>obtain⟨arr,hu,h⟩:=h;exact⟨arr,hu,sq x h⟩
theorem KJ {E E':Env} {w w':World} (x:lf E w E' w'):∀{cs:List V} {us:Lae},VV E w cs us->VV E' w' cs us
 |[],[],_=>trivial
 |_::_,_::_,h=>⟨Hx x h.1,KJ x h.2⟩
 |[],_::_,h=>h.elim
 |_::_,[],h=>h.elim
theorem kT (x:lf E w E' w') {t:T} (h:cvT E w t u):cvT E' w' t u:=by
 cases t with
 |v v=>exact Hx x h
 |tup ts=>obtain⟨arr,hu,h⟩:=h;exact⟨arr,hu,KJ x h⟩
 |any=>trivial
theorem gU (x:lf E w E' w') {o:Nat} {ob:Ob} (hb:∀b c,E.r o=some (b,c)->w'.heap[b]?=w.heap[b]?) (hF:∀b c,E.r o=some (b,c)->¬E.F b->¬E'.F b)
 (h:dm E w o ob):dm E' w' o ob:=by
 cases ob with
 |var ty cs=>
  obtain⟨b,c,arr,hr,hh,hc,hf⟩:=h
  exact⟨b,c,arr,x.r _ _ hr,(hb b c hr).trans hh,sq x hc,hF b c hr hf⟩
 |row ty sz els g m=>
  obtain⟨b,c,arr,hr,hh,h1,h2,h3,h4,h5,h6,h7⟩:=h
  exact⟨b,c,arr,x.r _ _ hr,(hb b c hr).trans hh,h1,h2,h3,h4,cX (x.heap g) (x.H g) (hb b c hr) _ _ h5,λhm=>hF b c hr (h6 hm),λhm=>⟨x.H false b (h7 hm).1,λhg=>x.H true b ((h7 hm).2 hg)⟩⟩
 |rown ty sz els g=>
  rcases h with⟨h0,h1⟩|⟨h0,b,c,arr,hr,hh,h1,h2,h3,h4,h5,h6⟩
  .exact .inl ⟨by rw[x.n];exact h0,h1⟩
  exact .inr ⟨by rw[x.n];exact h0,b,c,arr,x.r _ _ hr,(hb b c hr).trans hh,h1,h2,h3,h4,cX (x.heap g) (x.H g) (hb b c hr) _ _ h5,hF b c hr h6⟩
 |abs l y=>
  rcases h with⟨h0,h1⟩|⟨h0,b,c,hr,h1,h2⟩
  .exact .inl ⟨by rw[x.n];exact h0,h1⟩
  exact .inr ⟨by rw[x.n];exact h0,b,c,x.r _ _ hr,y.st b c _ _ w w' h1 (λk hk=>(x.T l k hk).1) (hb b c hr) (λk hk=>(x.T l k hk).2),hF b c hr h2⟩
theorem Cs {cx:Cx} (ok:dJ cx E w) (x:Ext E w E' w') {o:Nat} {ob:Ob} (h:dm E w o ob):dm E' w' o ob:=
 gU (.of_ext ok x) (λb c hr=>x.heap b (ok.rb _ _ _ hr).1) (λb c hr hf hf'=>by
  have:=(ok.rb _ _ _ hr).1
  rcases x.F' b hf' with h|h
  .exact hf h
  omega) h
def gt:Lab->Nat->T
 |[],_=>.any
 |(k,v)::r,n=>bif d0 k n then v else gt r n
def go:Laa->Nat->Option Ob
 |[],_=>none
 |(k,v)::r,n=>bif d0 k n then some v else go r n
theorem nH (h:k≠n):d0 k n=false:=by
 rcases hb:d0 k n with _|_
 .rfl
 exact absurd (aad hb) h
theorem d4 (k:Nat) (v:T) (r:Lab):gt ((k,v)::r) k=v:=by simp[gt]
theorem di (v:T) (r:Lab) (h:k≠n):gt ((k,v)::r) n=gt r n:=by simp[gt,nH h]
theorem cU (k:Nat) (v:Ob) (r:Laa):go ((k,v)::r) k=some v:=by simp[go]
theorem b7 (v:Ob) (r:Laa) (h:k≠n):go ((k,v)::r) n=go r n:=by simp[go,nH h]
structure St where
 sl:Lab
 ob:Laa
 nx:Nat
variable {st s:Go.AM.St}
structure Rel (N:Nat) (cx:Cx) (E:Env) (st:St) (a:Act) (w:World):Prop where
 ok:dJ cx E w
 dom:∀o x,E.r o=some x->o<st.nx
 obs:∀o ob,go st.ob o=some ob->dm E w o ob
 sl:∀k,cvT E w (gt st.sl k) (a.tmps.getD k undef)
 dfr:a.defers=[]
 size:a.tmps.size=N
 td:∀l b,E.T l b->l<st.nx
def zZ:Value->C
 | .int k n=>.d false (.i k n)
 | .bool b=>.d false (.b b)
 | .string s=>.d false (.str s)
 | .slice a n c=>bif a.isNone&&d0 n 0&&d0 c 0 then .nil else .any
 |_=>.any
theorem yM (E:Env) (w:World) (u:Value):cvC E w (zZ u) u:=by
 cases u with
 |slice a n c=>
  simp only[zZ]
  cases h:a.isNone&&d0 n 0&&d0 c 0 with
  |false=>exact trivial
  |true=>
   simp only[hV,Option.isNone_iff_eq_none] at h
   obtain⟨⟨rfl,h1⟩,h2⟩:=h
   have e1:=aad h1
   have e2:=aad h2
   subst e1;subst e2
   exact rfl
 |_=>simp only[zZ,cvC,rdD]
def opT (sl:Lab):Operand->T
 | .tmp k=>gt sl k
 | .const (.int k n)=>.v (.c (.d false (.i k n)))
 | .const (.bool b)=>.v (.c (.d false (.b b)))
 | .const (.string s)=>.v (.c (.d false (.str s)))
 | .const (.agg cs)=>.v (.agg (cs.toList.map zZ))
 | .const v=>.v (.c (zZ v))
 | .func f=>.v (.c (.fn f))
 | .global _=>.any
theorem uY (E:Env) (w:World):∀us:Lae,CV E w (us.map zZ) us
 |[]=>trivial
 |u::us=>⟨yM E w u,uY E w us⟩
theorem Rel.op {cx:Cx} (h:Rel N cx E st a w) (x:Operand):cvT E w (opT st.sl x) (a.eval x):=by
 cases x with
 |tmp k=>exact h.sl k
 |const v=>
  cases v<;>simp only[opT,Act.eval,cvT,cvV]<;>first|exact yM E w _|exact⟨_,rfl,uY E w _⟩|(simp only[cvC,rdD])
 |func f=>simp[opT,Act.eval,cvT,cvV,cvC]
 |global g=>simp[opT,cvT]
def AWN (P:Program) (o:Oper) (needs:List (Operand×T)) (nob:Laa) (out:T) (nw:Laa):Prop:=
 ∀(cx:Cx) (E:Env) (a:Act) (w:World),dJ cx E w->(∀x t,(x,t)∈needs->cvT E w t (a.eval x))->(∀l ob,(l,ob)∈nob->dm E w l ob)->
  (∀l ob,(l,ob)∈nw->E.r l=none/\rsv l=false)->
  o.wp P a w (λa' w'=>∃v E',a'=a.put o.dst v/\dJ cx E' w'/\Ext E w E' w'/\cvT E' w' out v/\(∀l ob,(l,ob)∈nw->dm E' w' l ob)/\
   (∀l x,E'.r l=some x->E.r l=some x\/∃ob,(l,ob)∈nw)) (λ_ _ _=>False)
theorem cM {o:Oper} {needs:List (Operand×T)} 
 (h:∀(E:Env) (a:Act) (w:World),(∀x t,(x,t)∈needs->cvT E w t (a.eval x))->(∀l ob,(l,ob)∈nob->dm E w l ob)->
 ∃v,(execOp a.eval o).run P w= .ok (.value v) w/\cvT E w out v):AWN P o needs nob out []:=by
 intro cx E a w ok hn hb _
 obtain⟨v,hr,hv⟩:=h E a w hn hb
 unfold Oper.wp
 rw[hr]
 exact⟨v,E,rfl,ok,Ext.refl E w,hv,(λ_ _ h=>by simp at h),λ_ _ h=>.inl h⟩
def AWO (P:Program) (N:Nat) (o:Oper) (st st':St):Prop:=
 ∀(cx:Cx) (E:Env) (a:Act) (w:World),Rel N cx E st a w->o.wp P a w (λa' w'=>∃E',Rel N cx E' st' a' w') (λ_ _ _=>False)
def Lk (sl:Lab):List (Operand×T)->Prop
 |[]=>True
 |(x,t)::r=>opT sl x=t/\Lk sl r
def Lo (ob:Laa):Laa->Prop
 |[]=>True
 |(l,x)::r=>go ob l=some x/\Lo ob r
def Nw (nx:Nat):Laa->Nat->Prop
 |[],n=>n=nx
 |(l,_)::r,n=>(l=nx/\rsv l=false)/\Nw (nx+1) r n
theorem Lk.mem:∀{l:List (Operand×T)},Lk sl l->∀x t,(x,t)∈l->opT sl x=t
 |(y,s)::r,h,x,t,hm=>by
  rcases aae.1 hm with e|e
  .cases e;exact h.1
  exact Lk.mem h.2 x t e
theorem Lo.mem {ob:Laa}:∀{l:Laa},Lo ob l->∀x t,(x,t)∈l->go ob x=some t
 |(y,s)::r,h,x,t,hm=>by
  rcases aae.1 hm with e|e
  .cases e;exact h.1
  exact Lo.mem h.2 x t e
theorem Nw.mem:∀{l:Laa} {nx n:Nat},Nw nx l n->nx<=n/\∀x t,(x,t)∈l->nx<=x/\x<n/\rsv x=false
 |[],nx,n,h=>⟨by rw[Nw] at h;omega,λ_ _ h=>by simp at h⟩
 |(y,s)::r,nx,n,h=>by
  rw[Nw] at h
  obtain⟨h1,h2⟩:=Nw.mem h.2
  refine⟨by omega,λx t hm=>?_⟩
  rcases aae.1 hm with e|e
  .cases e;exact⟨by omega,by omega,h.1.2⟩
  have:=h2 x t e;exact⟨by omega,this.2.1,this.2.2⟩
theorem Cf {ob:Laa} {o:Nat} {x:Ob} (h:go (nw++ob) o=some x):(o,x)∈nw\/go ob o=some x:=by
 induction nw with
 |nil=>exact .inr h
 |cons p r ih=>
  obtain⟨k,v⟩:=p
  by_cases hk:k=o
  .subst hk
   rw[aaE,cU] at h
   cases h
   exact .inl (by simp)
  rw[aaE,b7 v _ hk] at h
  rcases ih h with h|h
  .exact .inl (by simp[h])
  exact .inr h
theorem iJ {d:Tmp} {v:Value} (h:d<a.tmps.size) (k:Nat):(a.put (some d) v).tmps.getD k undef=if d=k then v else a.tmps.getD k undef:=by
 by_cases hk:d=k
 .subst hk;simp[Act.put,h]
 simp[Act.put,hk,aaU hk]
theorem Nc {o:Oper} {needs:List (Operand×T)} {d:Tmp} 
 (h:AWN P o needs nob out nw) (hd:o.dst=some d) (hN:d<N) (hn:Lk st.sl needs) (hb:Lo st.ob nob) (hw:Nw st.nx nw n):
 AWO P N o st ⟨(d,out)::st.sl,nw++st.ob,n⟩:=by
 intro cx E a w hR
 obtain⟨hx1,hx2⟩:=Nw.mem hw
 refine Oper.wp_mono ?_ (h cx E a w hR.ok (λx t hm=>by have:=hR.op x;rwa [Lk.mem hn x t hm] at this) (λl ob hm=>hR.obs l ob (Lo.mem hb l ob hm))
  (λl ob hm=>by
   refine⟨?_,(hx2 l ob hm).2.2⟩
   rcases hr:E.r l with _|x
   .rfl
   have:=hR.dom l x hr;have:=hx2 l ob hm;omega))
 rintro a' w' ⟨v,E',rfl,ok',ext,hv,hob,hdom⟩
 refine⟨E',ok',λl x hl=>?_,λl ob hl=>?_,λk=>?_,?_,?_,?_⟩
 .rcases hdom l x hl with h|⟨ob,h⟩
  .have:=hR.dom l x h;show l<n;omega
  exact(hx2 l ob h).2.1
 .rcases Cf hl with h|h
  .exact hob l ob h
  exact Cs hR.ok ext (hR.obs l ob h)
 .rw[hd,iJ (by rw[hR.size];exact hN)]
  by_cases hk:d=k
  .subst hk;rw[d4,if_pos rfl];exact hv
  rw[di _ _ hk,if_neg hk];exact kT (.of_ext hR.ok ext) (hR.sl k)
 .rw[hd];exact hR.dfr
 .rw[hd];simpa [Act.put] using hR.size
 intro l b h
 rw[ext.T] at h
 have:=hR.td l b h
 show l<n;omega
theorem tz {o:Oper} {K:Act->World->Prop} {Q Q':Exit->Act->World->Prop} (hQ:∀e a w,Q e a w->Q' e a w)
 (hh:o.wp P a w K Q):o.wp P a w K Q':=by
 unfold Oper.wp at*
 generalize (execOp a.eval o).run P w=r at*
 cases r with
 |ok n w'=>
  cases n<;>simp only[Oper.upon] at hh ⊢<;>
   first
    |exact hh
    |exact Calls.mono hh (λe w'' he=>by
     cases e<;>first|exact he|exact hQ _ _ _ he|(obtain⟨a0,w0,h0⟩:=he;exact⟨a0,w0,hQ _ _ _ h0⟩))
 |halt x w'=>cases x<;>simp only[Oper.upon] at hh ⊢<;>first|exact hh|exact hQ _ _ _ hh
def Fm (N:Nat) (cx:Cx) (AQ:Exit->St->Prop):Exit->Act->World->Prop:=λe a w=>∃E st,Rel N cx E st a w/\AQ e st
def onN (K:St->Prop):Exit->St->Prop
 | .normal,s=>K s
 |_,_=>False
def uF (K:St->Prop) (AQ:Exit->St->Prop):Exit->St->Prop
 | .normal,s=>K s
 |e,s=>AQ e s
def AWR (P:Program) (N:Nat) (ops:Array Oper) (l:List Oper) (st:St) (K:St->Prop):Prop:=
 ∀(cx:Cx) (E:Env) (a:Act) (w:World),Rel N cx E st a w->wpList P ops (Fm N cx (onN K)) l a w
def AWC (P:Program) (N:Nat) (c:Code) (st:St) (AQ:Exit->St->Prop):Prop:=
 ∀(cx:Cx) (E:Env) (a:Act) (w:World),Rel N cx E st a w->c.wp P (Fm N cx AQ) a w
section
variable {P:Program} {N:Nat} {ops:Array Oper} {l:List Oper} {o:Oper} {st st':St} {K:St->Prop} {AQ:Exit->St->Prop}
theorem IT (h:K st):AWR P N ops [] st K:=λcx E a w hR=>wpList_nil ⟨E,st,hR,h⟩
theorem uJ {Q:Exit->Act->World->Prop} :wpList P ops Q (o::l) a w=if Region.wanted o (yielded ops a.tmps) then o.wp P a w (wpList P ops Q l) Q\/(o.asks P a w/\LetsOut Q) else wpList P ops Q l (a.put o.dst undef) w:=rfl
theorem eZ (hg:o.guard=none) (h:AWO P N o st st') (h':AWR P N ops l st' K):AWR P N ops (o::l) st K:=by
 intro cx E a w hR
 rw[uJ,if_pos (by simp[Region.wanted,hg])]
 exact .inl (tz (λ_ _ _ h=>h.elim) (Oper.wp_mono (λa' w' ⟨E',hR'⟩=>h' cx E' a' w' hR') (h cx E a w hR)))
theorem GE {cx:Cx} (hR:Rel N cx E st a w) (hj:(ops[j]?).bind (·.dst)=some dj) (hdj:dj<N) (hb:gt st.sl dj=tB b):
 yielded ops a.tmps j=some b:=by
 have:=hR.sl dj
 rw[hb] at this
 simp only[cvT,cvV,cvC,rdD] at this
 have hs:dj<a.tmps.size:=by rw[hR.size];exact hdj
 have h2:a.tmps[dj]?=some (.bool b):=by
  rw[aar hs]
  simpa [aa1,hs] using this
 unfold yielded
 cases ho:ops[j]? with
 |none=>simp[ho] at hj
 |some o=>
  simp[ho] at hj
  simp[hj,h2]
theorem mL (hg:o.guard=some (j,b)) (hj:(ops[j]?).bind (·.dst)=some dj) (hdj:dj<N) (hb:gt st.sl dj=tB b) (h:AWO P N o st st') (h':AWR P N ops l st' K):
 AWR P N ops (o::l) st K:=by
 intro cx E a w hR
 rw[uJ,if_pos (by simp[Region.wanted,hg,GE hR hj hdj hb])]
 exact .inl (tz (λ_ _ _ h=>h.elim) (Oper.wp_mono (λa' w' ⟨E',hR'⟩=>h' cx E' a' w' hR') (h cx E a w hR)))
theorem Rel.putAny {cx:Cx} (hR:Rel N cx E st a w) {d:Tmp} (hd:d<N) (v:Value):Rel N cx E ⟨(d,.any)::st.sl,st.ob,st.nx⟩ (a.put (some d) v) w:=by
 refine⟨hR.ok,hR.dom,hR.obs,λk=>?_,hR.dfr,by simpa [Act.put] using hR.size,hR.td⟩
 rw[iJ (by rw[hR.size];exact hd)]
 by_cases hk:d=k
 .subst hk;rw[d4];trivial
 rw[di _ _ hk,if_neg hk];exact hR.sl k
def noG (b:Bool):T->Bool
 | .v (.c (.d _ (.b c)))=>c==!b
 | .tup []=>true
 |_=>false
theorem GF {N:Nat} {ops:Array Oper} {tmps:Array Value} {t:T} (hv:cvT E w t (tmps.getD dj undef)) (hs:dj<tmps.size) (hj:(ops[j]?).bind (·.dst)=some dj) (hb:noG b t=true):
 yielded ops tmps j≠some b:=by
 have h2:tmps[dj]?=some (tmps.getD dj undef):=by rw[aar hs];simp[aa1,hs]
 unfold yielded
 rw[hj]
 simp only[Option.bind_some,h2]
 unfold noG at hb
 split at hb
 .rename_i g c
  simp only[cvT,cvV,cvC,rdD] at hv
  rw[hv]
  simp at hb;subst hb
  simp
 .obtain⟨arr,h1,h3⟩:=hv
  rw[h1];simp
 cases hb
theorem Rel.putUnd {cx:Cx} (hR:Rel N cx E st a w) {d:Tmp} (hd:d<N):Rel N cx E ⟨(d,.tup [])::st.sl,st.ob,st.nx⟩ (a.put (some d) undef) w:=by
 refine⟨hR.ok,hR.dom,hR.obs,λk=>?_,hR.dfr,by simpa [Act.put] using hR.size,hR.td⟩
 rw[iJ (by rw[hR.size];exact hd)]
 by_cases hk:d=k
 .subst hk;rw[d4,if_pos rfl];exact⟨#[],rfl,trivial⟩
 rw[di _ _ hk,if_neg hk];exact hR.sl k
theorem Ek {d:Tmp} (hg:o.guard=some (j,b)) (hj:(ops[j]?).bind (·.dst)=some dj) (hdj:dj<N) (hb:noG b (gt st.sl dj)=true) (hd:o.dst=some d) (hN:d<N)
 (h':AWR P N ops l ⟨(d,.tup [])::st.sl,st.ob,st.nx⟩ K):AWR P N ops (o::l) st K:=by
 intro cx E a w hR
 rw[uJ,if_neg (by simp[Region.wanted,hg,GF (N:=N) (hR.sl dj) (by rw[hR.size];exact hdj) hj hb]),hd]
 exact h' cx E _ w (hR.putUnd hN)
theorem Rel.decide {cx:Cx} (hR:Rel N cx E st a w) {d:Tmp} {c:Bool} (hb:gt st.sl d=tB b) (h:b=c):Rel N cx E ⟨(d,tB c)::st.sl,st.ob,st.nx⟩ a w:=by
 refine⟨hR.ok,hR.dom,hR.obs,λk=>?_,hR.dfr,hR.size,hR.td⟩
 by_cases hk:d=k
 .subst hk;rw[d4,<-h,<-hb];exact hR.sl d
 rw[di _ _ hk];exact hR.sl k
theorem QH {d:Tmp} (hb:gt st.sl d=tB b) (h1:b=true->AWR P N ops l ⟨(d,tB true)::st.sl,st.ob,st.nx⟩ K) (h0:b=false->AWR P N ops l ⟨(d,tB false)::st.sl,st.ob,st.nx⟩ K):
 AWR P N ops l st K:=by
 intro cx E a w hR
 cases hc:b with
 |true=>exact h1 hc cx E a w (hR.decide hb hc)
 |false=>exact h0 hc cx E a w (hR.decide hb hc)
theorem Ts {K':St->Prop} (h:∀s,K s->K' s) (hh:AWR P N ops l st K):AWR P N ops l st K':=by
 intro cx E a w hR
 have:=hh cx E a w hR
 revert this
 have key:∀(l:List Oper) (a:Act) (w:World),wpList P ops (Fm N cx (onN K)) l a w->wpList P ops (Fm N cx (onN K')) l a w:=by
  intro l
  have hQ:∀e a w,Fm N cx (onN K) e a w->Fm N cx (onN K') e a w:=by
   rintro e a w ⟨E,s,hR,hq⟩
   refine⟨E,s,hR,?_⟩
   cases e<;>simp only[onN] at hq ⊢
   exact h s hq
  induction l with
  |nil=>exact λa w h=>hQ _ _ _ h
  |cons o l ih=>
   intro a w hw
   rw[uJ] at hw ⊢
   split
   .rename_i hwt
    rw[if_pos hwt] at hw
    rcases hw with hw|⟨h1,a0,w0,h2⟩
    .exact .inl (tz hQ (Oper.wp_mono ih hw))
    exact .inr ⟨h1,a0,w0,hQ _ _ _ h2⟩
   rename_i hwt
   rw[if_neg hwt] at hw
   exact ih _ _ hw
 exact key l a w
theorem AK {c:Code} {AQ':Exit->St->Prop} (h:AWC P N c st AQ) (hq:∀e s,AQ e s->AQ' e s):AWC P N c st AQ':=
 λcx E a w hR=>wp_mono (h cx E a w hR) λe a w ⟨E,s,hR,q⟩=>⟨E,s,hR,hq e s q⟩
theorem Ej (h:AQ .normal st):AWC P N .skip st AQ:=λcx E a w hR=>wp_skip ⟨E,st,hR,h⟩
theorem IR (h:AQ .ret st):AWC P N .ret st AQ:=λcx E a w hR=>wp_ret ⟨E,st,hR,h⟩
theorem Ei (h:AQ (.exit id) st):AWC P N (.exit id) st AQ:=λcx E a w hR=>wp_exit ⟨E,st,hR,h⟩
theorem DF (h:AWC P N x st (uF (λs=>AWC P N y s AQ) AQ)):AWC P N (x.seq y) st AQ:=λcx E a w hR=>
 wp_seq (wp_mono (h cx E a w hR) λe a w ⟨E,s,hR,q⟩=>by
  cases e<;>first|exact q cx E a w hR|exact⟨E,s,hR,q⟩)
theorem vT {l:List Oper} (h:AWR P N l.toArray l st (λs=>AQ .normal s)):AWC P N (.region id l.toArray false) st AQ:=λcx E a w hR=>
 wp_mono (wp_region_lit (h cx E a w hR)) λe a w ⟨E,s,hR,q⟩=>⟨E,s,hR,by cases e<;>first|exact q|exact q.elim⟩
theorem sF {l:List Oper} (h:AWR P N l.toArray l st (λs=>AWC P N y s AQ)):AWC P N ((Code.region id l.toArray false).seq y) st AQ:=
 DF (vT h)
theorem Ce {cx:Cx} {c:Operand} (hR:Rel N cx E st a w) (hb:opT st.sl c=tB b):a.eval c= .bool b:=by
 have:=hR.op c
 rw[hb] at this
 simpa [cvT,cvV,cvC,rdD] using this
theorem uL {c:Operand} (hb:opT st.sl c=tB true) (h:AWC P N x st AQ):AWC P N (.cond c x y) st AQ:=λcx E a w hR=>wp_cond_true (Ce hR hb) (h cx E a w hR)
theorem sC {c:Operand} (hb:opT st.sl c=tB false) (h:AWC P N y st AQ):AWC P N (.cond c x y) st AQ:=λcx E a w hR=>wp_cond_false (Ce hR hb) (h cx E a w hR)
theorem qm {c:Operand} (hb:opT st.sl c=tB b) (h1:b=true->AWC P N x st AQ) (h0:b=false->AWC P N y st AQ):AWC P N (.cond c x y) st AQ:=λcx E a w hR=>
 wp_cond_split (Ce hR hb) (λh=>h1 h cx E a w hR) (λh=>h0 h cx E a w hR)
def jO (id:Nat) (AQ:Exit->St->Prop):Exit->St->Prop
 | .exit n,s=>bif d0 n id then AQ .normal s else AQ (.exit n) s
 |e,s=>AQ e s
theorem B4 {c:Code} (h:AWC P N c st (jO id AQ)):AWC P N (.block id c) st AQ:=λcx E a w hR=>
 wp_block (wp_mono (h cx E a w hR) λe a w ⟨E,s,hR,q⟩=>by
  cases e with
  |exit n=>
   simp only[Exit.inBlock]
   by_cases hn:n=id
   .subst hn;rw[if_pos rfl];exact⟨E,s,hR,by simpa [jO] using q⟩
   rw[if_neg hn];exact⟨E,s,hR,by simpa [jO,nH hn] using q⟩
  |_=>exact⟨E,s,hR,q⟩)
def dS (N:Nat) (st st':St):Prop:=∀(cx:Cx) (E:Env) (a:Act) (w:World),Rel N cx E st a w->∃E',Rel N cx E' st' a w
theorem oi {c:Code} (hw:dS N st st') (h:AWC P N c st' AQ):AWC P N c st AQ:=λcx E a w hR=>let ⟨E',hR'⟩:=hw cx E a w hR;h cx E' a w hR'
theorem bG (hw:dS N st st') (h:AWR P N ops l st' K):AWR P N ops l st K:=λcx E a w hR=>let ⟨E',hR'⟩:=hw cx E a w hR;h cx E' a w hR'
def C.lt (n:Nat):C->Bool
 | .w o _| .s o _ _ _| .p o _| .e o _ _ _| .r o _| .wn o _=>nlt o n
 |_=>true
def V.lt (n:Nat):V->Bool
 | .c x=>x.lt n
 | .agg cs=>cs.all (C.lt n)
def T.lt (n:Nat):T->Bool
 | .v x=>x.lt n
 | .tup ts=>ts.all (V.lt n)
 | .any=>true
def Ob.lt (n:Nat):Ob->Bool
 | .var _ cs=>cs.all (C.lt n)
 | .row .. | .rown .. =>true
 | .abs l _=>nlt l n
theorem dr {a b:Nat} (h:nlt a b=true):a<b:=aaO h
def LeS (sl:Lab) (n:Nat):Lab->Prop
 |[]=>True
 |(k,t)::r=>gt sl k=t/\t.lt n=true/\LeS sl n r
def LeO (ob:Laa) (n:Nat):Laa->Prop
 |[]=>True
 |(l,x)::r=>go ob l=some x/\(nlt l n=true/\x.lt n=true)/\LeO ob n r
theorem LeS.gt (h:LeS sl n sl') (k:Nat):(AM.gt sl' k= .any\/AM.gt sl' k=AM.gt sl k)/\(AM.gt sl' k).lt n=true:=by
 induction sl' with
 |nil=>exact⟨.inl rfl,rfl⟩
 |cons p r ih=>
  obtain⟨j,t⟩:=p
  by_cases hj:j=k
  .subst hj;rw[d4];exact⟨.inr h.1.symm,h.2.1⟩
  rw[di _ _ hj];exact ih h.2.2
theorem LeO.go {ob:Laa} (h:LeO ob n ob') {l:Nat} {x:Ob} (hl:AM.go ob' l=some x):AM.go ob l=some x/\l<n/\x.lt n=true:=by
 induction ob' with
 |nil=>cases hl
 |cons p r ih=>
  obtain⟨j,t⟩:=p
  by_cases hj:j=l
  .subst hj;rw[cU] at hl;cases hl;exact⟨h.1,dr h.2.1.1,h.2.1.2⟩
  rw[b7 _ _ hj] at hl;exact ih h.2.2 hl
def Env.below (E:Env) (n:Nat):Env:={E with r:=λo=>if o<n then E.r o else none,T:=λl b=>l<n/\E.T l b}
theorem TC:∀{c:C} {u:Value},c.lt n=true->cvC E w c u->cvC (E.below n) w c u
 | .d g d,u,_,h=>h
 | .w o m,u,hl,⟨b,c,h,hu⟩=>⟨b,c,by rw[Env.below];simp only;rw[if_pos (dr hl)];exact h,hu⟩
 | .s o sz off len,u,hl,⟨A,c,b,k,h,hu⟩=>⟨A,c,b,k,by rw[Env.below];simp only;rw[if_pos (dr hl)];exact h,hu⟩
 | .p o k,u,hl,⟨b,c,h,hu⟩=>⟨b,c,by rw[Env.below];simp only;rw[if_pos (dr hl)];exact h,hu⟩
 | .e o sz i j,u,hl,⟨b,c,h,hu⟩=>⟨b,c,by rw[Env.below];simp only;rw[if_pos (dr hl)];exact h,hu⟩
 | .q g y j,u,_,h=>h
 | .fn f,u,_,h=>h
 | .nil,u,_,h=>h
 | .any,u,_,_=>trivial
 | .r l d,u,hl,h=>cW (F':=(E.below n).T l) (λ_ _=>rfl) (λb hb=>⟨dr hl,hb⟩) d u h
 | .z d,u,_,h=>h
 | .zq y j,u,_,h=>h
 | .wn o m,u,_,.inl h=>.inl h
 | .wn o m,u,hl,.inr ⟨h0,b,c,h,hu⟩=>.inr ⟨h0,b,c,by rw[Env.below];simp only;rw[if_pos (dr hl)];exact h,hu⟩
theorem ST {E:Env} {w:World} {n:Nat}:∀{cs:List C} {us:Lae},cs.all (C.lt n)=true->CV E w cs us->CV (E.below n) w cs us
 |[],[],_,_=>trivial
 |c::cs,u::us,hl,h=>by
  simp only[aaK,hV] at hl
  exact⟨TC hl.1 h.1,ST hl.2 h.2⟩
 |[],_::_,_,h=>h.elim
 |_::_,[],_,h=>h.elim
theorem TF {v:V} (hl:v.lt n=true) (h:cvV E w v u):cvV (E.below n) w v u:=by
 cases v with
 |c c=>exact TC hl h
 |agg cs=>obtain⟨arr,hu,h⟩:=h;exact⟨arr,hu,ST hl h⟩
theorem YI {E:Env} {w:World} {n:Nat}:∀{cs:List V} {us:Lae},cs.all (V.lt n)=true->VV E w cs us->VV (E.below n) w cs us
 |[],[],_,_=>trivial
 |c::cs,u::us,hl,h=>by
  simp only[aaK,hV] at hl
  exact⟨TF hl.1 h.1,YI hl.2 h.2⟩
 |[],_::_,_,h=>h.elim
 |_::_,[],_,h=>h.elim
theorem Zu {t:T} (hl:t.lt n=true) (h:cvT E w t u):cvT (E.below n) w t u:=by
 cases t with
 |v v=>exact TF hl h
 |tup ts=>obtain⟨arr,hu,h⟩:=h;exact⟨arr,hu,YI hl h⟩
 |any=>trivial
theorem Vu {o:Nat} {ob:Ob} (ho:o<n) (hl:ob.lt n=true) (h:dm E w o ob):dm (E.below n) w o ob:=by
 cases ob with
 |var ty cs=>
  obtain⟨b,c,arr,hr,hh,hc,hF⟩:=h
  exact⟨b,c,arr,by simp only[Env.below];rw[if_pos ho];exact hr,hh,ST hl hc,hF⟩
 |row ty sz els g m=>
  obtain⟨b,c,arr,hr,h⟩:=h
  exact⟨b,c,arr,by simp only[Env.below];rw[if_pos ho];exact hr,h⟩
 |rown ty sz els g=>
  rcases h with h|⟨h0,b,c,arr,hr,h⟩
  .exact .inl h
  exact .inr ⟨h0,b,c,arr,by simp only[Env.below];rw[if_pos ho];exact hr,h⟩
 |abs l y=>
  rcases h with h|⟨h0,b,c,hr,h1,h2⟩
  .exact .inl h
  exact .inr ⟨h0,b,c,by simp only[Env.below];rw[if_pos ho];exact hr,y.st b c _ _ w w h1 (λk hk=>⟨dr hl,hk⟩) rfl (λ_ _=>rfl),h2⟩
theorem dJ.below {cx:Cx} (ok:dJ cx E w) (n:Nat):dJ cx (E.below n) w:=by
 have hr:∀o x,(E.below n).r o=some x->E.r o=some x:=λo x h=>by
  simp only[Env.below] at h;split at h
  .exact h
  cases h
 refine⟨ok.fb,ok.gf,ok.gn,λo b c h=>ok.rb o b c (hr o _ h),λo o' b c c' h h'=>ok.inj o o' b c c' (hr _ _ h) (hr _ _ h'),ok.os,ok.tape,ok.output,ok.size,ok.block,λo x hv h=>ok.pin o x hv (hr o _ h),ok.ff,ok.gc,⟨λl b h=>?_,λl l' b h h'=>ok.sf.tt l l' b h.2 h'.2,λb h=>?_,ok.sf.zs,ok.sf.ze⟩⟩
 .obtain⟨h1,h2,h3,h4⟩:=ok.sf.tb l b h.2
  exact⟨h1,h2,λo c ho=>h3 o c (hr o _ ho),h4⟩
 obtain⟨h1,h2,h3,h4⟩:=ok.sf.zc b h
 exact⟨h1,h2,λo c ho=>h3 o c (hr o _ ho),h4⟩
theorem eV (h1:LeS st.sl st'.nx st'.sl) (h2:LeO st.ob st'.nx st'.ob):dS N st st':=by
 intro cx E a w hR
 refine⟨E.below st'.nx,hR.ok.below _,λo x h=>?_,λo ob h=>?_,λk=>?_,hR.dfr,hR.size,λl b h=>h.1⟩
 .simp only[Env.below] at h;split at h
  .assumption
  cases h
 .obtain⟨h1,h2,h3⟩:=h2.go h
  exact Vu h2 h3 (hR.obs o ob h1)
 obtain⟨h1,h2⟩:=h1.gt k
 rcases h1 with h1|h1
 .rw[h1];trivial
 rw[h1] at h2 ⊢;exact Zu h2 (hR.sl k)
theorem Tq {c:Code} (I:σ->Prop) (S:σ->St) (μ:σ->Nat) (x0:σ) (i0:I x0) (h0:dS N st (S x0))
 (round:∀x,I x->AWC P N c (S x) (uF (λs=>∃x',I x'/\dS N s (S x')/\μ x'<μ x) AQ)):AWC P N (.loop c) st AQ:=by
 intro cx E a w hR b k cs
 have key:∀n x,μ x=n->I x->∀E a w,Rel N cx E (S x) a w->
  ∃e a' w',Fm N cx AQ e a' w'/\Arrives P (lone (b.at a (.code c:: .inLoop c::k)) cs w) b k cs e a' w':=by
  intro n
  induction n using aa3 with
  |_ n ih=>
   intro x hn hI E a w hR
   obtain⟨e,a₁,w₁,⟨E₁,s₁,hR₁,hq⟩,harr⟩:=round x hI cx E a w hR b (.inLoop c::k) cs
   cases e with
   |normal=>
    obtain⟨x',hI',hW,hlt⟩:=hq
    obtain⟨E',hR'⟩:=hW cx E₁ a₁ w₁ hR₁
    obtain⟨e₂,a₂,w₂,hq₂,harr₂⟩:=ih (μ x') (hn▸hlt) x' rfl hI' E' a₁ w₁ hR'
    exact⟨e₂,a₂,w₂,hq₂,.of_steps (Steps.trans harr (.one step_inLoop)) harr₂⟩
   |exit id=>exact⟨_,a₁,w₁,⟨E₁,s₁,hR₁,hq⟩,.pass (x:=.inLoop c) rfl (λ_ _=>.inl (by simp)) harr⟩
   |goto l=>exact⟨_,a₁,w₁,⟨E₁,s₁,hR₁,hq⟩,.pass (x:=.inLoop c) rfl (λ_ _=>.inl (by simp)) harr⟩
   |ret=>exact⟨_,a₁,w₁,⟨E₁,s₁,hR₁,hq⟩,.pass (x:=.inLoop c) rfl (λ_ _=>.inl (by simp)) harr⟩
   |panic ch=>exact⟨_,a₁,w₁,⟨E₁,s₁,hR₁,hq⟩,.pass (x:=.inLoop c) rfl (λ_ _=>.inl (by simp)) harr⟩
   |outgrown=>exact⟨_,a₁,w₁,⟨E₁,s₁,hR₁,hq⟩,.pass (x:=.inLoop c) rfl (λ_ _=>.inl (by simp)) harr⟩
 obtain⟨E',hR'⟩:=h0 cx E a w hR
 obtain⟨e,a',w',hq,harr⟩:=key _ x0 rfl i0 E' a w hR'
 exact⟨e,a',w',hq,.of_steps (.one step_loop) harr⟩
end
class TyU (P:Program) (t:TypeId) (d:outParam TypeDesc):Prop where
 h:P.underlying t=some d
class TyI (P:Program) (t:TypeId) (z:outParam Value) (n:outParam Nat) (b:outParam Nat):Prop where
 h:(P.info? t).map (λi=>(i.zero,i.size,i.bytes))=some (some z,n,b)
class jN (P:Program) (t:TypeId):Prop where
 h:∀w,(isAgg t).run P w= .ok false w
 n:∃i,P.info? t=some i/\i.size=1
class hP (P:Program) (t:TypeId) (n:outParam Nat):Prop where
 h:∀w,(isAgg t).run P w= .ok true w
 n:∃i,P.info? t=some i/\i.size=n
class eB (P:Program) (t:TypeId) (e:outParam TypeId) (sz:outParam Nat) (by_:outParam Nat):Prop where
 u:P.underlying t=some (.slice e)
 i:∃i z,P.info? e=some i/\i.size=sz/\i.bytes=by_/\i.zero=some z/\z.cells.size=sz
 p:0<sz
class TyF (P:Program) (t:TypeId) (f:Nat) (off:outParam Nat) (ft:outParam TypeId):Prop where
 h:∃fs fd,P.underlying t=some (.struct fs)/\fs[f]?=some fd/\fd.offset=off/\fd.type=ft/\∃i,P.info? ft=some i/\i.size≠0
class TyZ (P:Program) (t:TypeId) (zs:outParam (List C)):Prop where
 h:∃i z,P.info? t=some i/\i.zero=some z/\z.cells.toList.map zZ=zs
theorem fm {i:TypeInfo} (h:P.info? t=some i) (w:World):(sizeOf t).run P w= .ok i.size w:=by
 simp[sizeOf,typeInfo,h]
section
variable {P:Program} {d:Option Tmp} {ty:TypeId} {ps:String} {af:Array Edge} {gd:Option (Nat×Bool)} {x y z:Operand}
theorem NH {t:T}:AWN P ⟨d,.move x,ty,ps,af,gd⟩ [(x,t)] [] t []:=
 cM λE a w hn _=>⟨a.eval x,by simp[execOp],hn x t (.head _)⟩
theorem Fs {t:T}:AWN P ⟨d,.assign x,ty,ps,af,gd⟩ [(x,t)] [] t []:=
 cM λE a w hn _=>⟨a.eval x,by simp[execOp],hn x t (.head _)⟩
theorem iY {k:IntKind} {n:Int} (h:cvT E w (.v (.c (.d g (.i k n)))) u):u= .int k n:=by simpa [cvT,cvV,cvC,rdD] using h
theorem vZ (h:cvT E w (.v (.c (.d g (.b b)))) u):u= .bool b:=by simpa [cvT,cvV,cvC,rdD] using h
theorem Ey {s:ByteArray} (h:cvT E w (.v (.c (.d g (.str s)))) u):u= .string s:=by simpa [cvT,cvV,cvC,rdD] using h
theorem LR {t:T}:AWN P ⟨d,.pick x y z,ty,ps,af,gd⟩ [(x,.v (.c (.d g (.b true)))),(y,t)] [] t []:=
 cM λE a w hn _=>⟨a.eval y,by
  have h:=vZ (hn x _ (.head _))
  simp[execOp,asBool,h],hn y t (.tail _ (.head _))⟩
theorem JP {t:T}:AWN P ⟨d,.pick x y z,ty,ps,af,gd⟩ [(x,.v (.c (.d g (.b false)))),(z,t)] [] t []:=
 cM λE a w hn _=>⟨a.eval z,by
  have h:=vZ (hn x _ (.head _))
  simp[execOp,asBool,h],hn z t (.tail _ (.head _))⟩
@[irreducible] def ltB (a b:Int):Bool:=decide (a<b)
@[irreducible] def leB (a b:Int):Bool:=decide (a<=b)
@[irreducible] def eqB (a b:Int):Bool:=decide (a=b)
@[irreducible] def strB (a b:ByteArray):Bool:=a.toList==b.toList
@[simp] theorem ltB_t {a b:Int}:ltB a b=true↔a<b:=by simp[ltB]
@[simp] theorem ltB_f {a b:Int}:ltB a b=false↔b<=a:=by simp[ltB]
@[simp] theorem leB_t {a b:Int}:leB a b=true↔a<=b:=by simp[leB]
@[simp] theorem leB_f {a b:Int}:leB a b=false↔b<a:=by simp[leB]
@[simp] theorem eqB_t {a b:Int}:eqB a b=true↔a=b:=by simp[eqB]
@[simp] theorem eqB_f {a b:Int}:eqB a b=false↔a≠b:=by simp[eqB]
theorem Ow {a b:ByteArray} (h:a.toList=b.toList):a=b:=by
 have:=congrArg List.toArray h
 simp only[ByteArray.toList_eq,aaV] at this
 exact ByteArray.ext this
@[simp] theorem strB_t {a b:ByteArray}:strB a b=true↔a=b:=by simp[strB];exact⟨Ow,λh=>by rw[h]⟩
@[simp] theorem strB_f {a b:ByteArray}:strB a b=false↔a≠b:=by
 rw[<-Bool.not_eq_true,strB_t]
theorem ZZ (a b:Int):decide (a<b)=ltB a b:=by simp[ltB]
theorem ZW (a b:Int):decide (a<=b)=leB a b:=by simp[leB]
theorem Ns (a b:Int):decide (a=b)=eqB a b:=by simp[eqB]
theorem OR (a b:Int):(a==b)=eqB a b:=by rw[<-Ns];rfl
def Ut (op:BinOp) (k:IntKind) (a b:Int):Option D:=
 match op with
 | .add=>some (.i k (k.wrap (a+b)))
 | .sub=>some (.i k (k.wrap (a-b)))
 | .mul=>some (.i k (k.wrap (a*b)))
 | .eql=>some (.b (eqB a b))
 | .neq=>some (.b (!eqB a b))
 | .lss=>some (.b (ltB a b))
 | .leq=>some (.b (leB a b))
 | .gtr=>some (.b (ltB b a))
 | .geq=>some (.b (leB b a))
 |_=>none
theorem n_int {op:BinOp} {k:IntKind} {a b:Int} {r:D} (h:Ut op k a b=some r):
 AWN P ⟨d,.binOp op t x y t',ty,ps,af,gd⟩ [(x,.v (.c (.d g (.i k a)))),(y,.v (.c (.d g' (.i k b))))] [] (.v (.c (.d false r))) []:=
 cM λE ac w hn _=>by
  have h1:=iY (hn x _ (.head _))
  have h2:=iY (hn y _ (.tail _ (.head _)))
  cases op<;>simp only[Ut,Option.some.injEq,reduceCtorEq] at h<;>subst h<;>
   exact⟨_,by simp[execOp,h1,h2,eqGuard,binOp,Op.intArith,Op.intCmp];rfl,by simp[cvT,cvV,cvC,rdD,bne,OR,ZZ,ZW]⟩
theorem n_rem {k:IntKind} {a b:Int} (h:b≠0):
 AWN P ⟨d,.binOp .rem t x y t',ty,ps,af,gd⟩ [(x,.v (.c (.d g (.i k a)))),(y,.v (.c (.d g' (.i k b))))] [] (.v (.c (.d false (.i k (a.tmod b))))) []:=
 cM λE ac w hn _=>by
  have h1:=iY (hn x _ (.head _))
  have h2:=iY (hn y _ (.tail _ (.head _)))
  exact⟨_,by simp[execOp,h1,h2,eqGuard,binOp,Op.intDiv,h];rfl,by simp[cvT,cvV,cvC,rdD]⟩
theorem n_quo {k:IntKind} {a b:Int} (h:b≠0):
 AWN P ⟨d,.binOp .quo t x y t',ty,ps,af,gd⟩ [(x,.v (.c (.d g (.i k a)))),(y,.v (.c (.d g' (.i k b))))] [] (.v (.c (.d false (.i k (k.wrap (a.tdiv b)))))) []:=
 cM λE ac w hn _=>by
  have h1:=iY (hn x _ (.head _))
  have h2:=iY (hn y _ (.tail _ (.head _)))
  exact⟨_,by simp[execOp,h1,h2,eqGuard,binOp,Op.intDiv,h];rfl,by simp[cvT,cvV,cvC,rdD]⟩
theorem UV {a b:ByteArray}:
 AWN P ⟨d,.binOp .eql t x y t',ty,ps,af,gd⟩ [(x,.v (.c (.d g (.str a)))),(y,.v (.c (.d g' (.str b))))] [] (.v (.c (.d false (.b (strB a b))))) []:=
 cM λE ac w hn _=>by
  have h1:=Ey (hn x _ (.head _))
  have h2:=Ey (hn y _ (.tail _ (.head _)))
  exact⟨_,by simp[execOp,h1,h2,eqGuard,binOp,Op.stringOp];rfl,by simp[cvT,cvV,cvC,rdD,strB]⟩
theorem UW {a b:ByteArray}:
 AWN P ⟨d,.binOp .neq t x y t',ty,ps,af,gd⟩ [(x,.v (.c (.d g (.str a)))),(y,.v (.c (.d g' (.str b))))] [] (.v (.c (.d false (.b (!strB a b))))) []:=
 cM λE ac w hn _=>by
  have h1:=Ey (hn x _ (.head _))
  have h2:=Ey (hn y _ (.tail _ (.head _)))
  exact⟨_,by simp[execOp,h1,h2,eqGuard,binOp,Op.stringOp];rfl,by simp[cvT,cvV,cvC,rdD,strB]⟩
theorem n_not:AWN P ⟨d,.unOp .not t x,ty,ps,af,gd⟩ [(x,.v (.c (.d g (.b b))))] [] (.v (.c (.d false (.b (!b))))) []:=
 cM λE ac w hn _=>by
  have h1:=vZ (hn x _ (.head _))
  exact⟨_,by simp[execOp,h1,Op.unary];rfl,by simp[cvT,cvV,cvC,rdD]⟩
theorem n_neg {k:IntKind} {n:Int}:AWN P ⟨d,.unOp .neg t x,ty,ps,af,gd⟩ [(x,.v (.c (.d g (.i k n))))] [] (.v (.c (.d false (.i k (k.wrap (0-n)))))) []:=
 cM λE ac w hn _=>by
  have h1:=iY (hn x _ (.head _))
  exact⟨_,by simp[execOp,h1,Op.unary,Op.intArith];rfl,by simp[cvT,cvV,cvC,rdD]⟩
theorem Z9 {ds:TypeDesc} {k k':IntKind} {n:Int} [hs:TyU P t ds] [hd:TyU P t' (.int k')]:
 AWN P ⟨d,.convert t t' x,ty,ps,af,gd⟩ [(x,.v (.c (.d g (.i k n))))] [] (.v (.c (.d false (.i k' (k'.wrap n))))) []:=
 cM λE ac w hn _=>by
  have h1:=iY (hn x _ (.head _))
  refine⟨.int k' (k'.wrap n),?_,by simp[cvT,cvV,cvC,rdD]⟩
  simp only[execOp,h1,convert]
  simp[underlying,hs.h,hd.h,Conv.intToInt]
theorem Rk {ts:List V} {v:V} (h:ts[i]?=some v):AWN P ⟨d,.extract x i,ty,ps,af,gd⟩ [(x,.tup ts)] [] (.v v) []:=
 cM λE ac w hn _=>by
  obtain⟨arr,h1,h2⟩:=hn x _ (.head _)
  have key:∀(ts:List V) (us:Lae) (i:Nat),VV E w ts us->ts[i]?=some v->∃u,us[i]?=some u/\cvV E w v u:=by
   intro ts
   induction ts with
   |nil=>intro us i h9 hi;simp at hi
   |cons t ts ih=>
    intro us i h9 hi
    cases us with
    |nil=>exact h9.elim
    |cons u us=>
     cases i with
     |zero=>simp at hi;subst hi;exact⟨u,rfl,h9.1⟩
     |succ i=>exact ih us i h9.2 (by simpa using hi)
  obtain⟨u,hu,hv⟩:=key ts arr.toList i h2 h
  exact⟨u,by simp[execOp,h1,Instr.extract,show arr[i]?=some u by simpa using hu],hv⟩
theorem JO {o:Nat}:AWN P ⟨d,.nilCheck x,ty,ps,af,gd⟩ [(x,.v (.c (.p o k)))] [] (.v (.c (.p o k))) []:=
 cM λE ac w hn _=>by
  have h:=hn x _ (.head _)
  obtain⟨b,c,hr,hu⟩:=h
  exact⟨.pointer (some ⟨b,k,none⟩),by simp[execOp,hu],b,c,hr,rfl⟩
theorem XK {o:Nat} [ht:eB P t e sz by_]:AWN P ⟨d,.call ⟨.builtin .len,#[x],#[t]⟩,ty,ps,af,gd⟩ [(x,.v (.c (.w o n)))] [] (tI n) []:=
 cM λE ac w hn _=>by
  obtain⟨b,c,hr,hu⟩:=hn x _ (.head _)
  exact⟨_,by simp[execOp,resolve,invoke,builtin,hu,Builtin.len_,underlying,ht.u,goInt];rfl,by simp[cvT,cvV,cvC,rdD]⟩
theorem XJ {o z:Nat} [ht:eB P t e sz by_]:AWN P ⟨d,.call ⟨.builtin .len,#[x],#[t]⟩,ty,ps,af,gd⟩ [(x,.v (.c (.s o z off n)))] [] (tI n) []:=
 cM λE ac w hn _=>by
  obtain⟨A,c,b,k,hr,hu,_⟩:=hn x _ (.head _)
  exact⟨_,by simp[execOp,resolve,invoke,builtin,hu,Builtin.len_,underlying,ht.u,goInt];rfl,by simp[cvT,cvV,cvC,rdD]⟩
theorem XI {xs:Lad} [ht:eB P t e sz by_]:AWN P ⟨d,.call ⟨.builtin .len,#[x],#[t]⟩,ty,ps,af,gd⟩ [(x,.v (.c (.d g (.l xs))))] [] (tI xs.length) []:=
 cM λE ac w hn _=>by
  have h:=hn x _ (.head _)
  simp only[cvT,cvV,cvC,rdD] at h
  obtain⟨A,c,hu,_⟩:=h
  exact⟨_,by simp[execOp,resolve,invoke,builtin,hu,Builtin.len_,underlying,ht.u,goInt];rfl,by simp[cvT,cvV,cvC,rdD]⟩
theorem Rr [ht:eB P t e sz by_]:AWN P ⟨d,.call ⟨.builtin .len,#[x],#[t]⟩,ty,ps,af,gd⟩ [(x,.v (.c .nil))] [] (tI 0) []:=
 cM λE ac w hn _=>by
  have hu:ac.eval x= .slice none 0 0:=hn x _ (.head _)
  exact⟨_,by simp[execOp,resolve,invoke,builtin,hu,Builtin.len_,underlying,ht.u,goInt];rfl,by simp[cvT,cvV,cvC,rdD]⟩
theorem Rs {s:ByteArray} [ht:TyU P t .string]:AWN P ⟨d,.call ⟨.builtin .len,#[x],#[t]⟩,ty,ps,af,gd⟩ [(x,.v (.c (.d g (.str s))))] [] (tI s.size) []:=
 cM λE ac w hn _=>by
  have hu:=Ey (hn x _ (.head _))
  exact⟨_,by simp[execOp,resolve,invoke,builtin,hu,Builtin.len_,underlying,ht.h,goInt];rfl,by simp[cvT,cvV,cvC,rdD]⟩
theorem vS (b k j:Nat):(⟨b,k,none⟩:Addr).add j=⟨b,k+j,none⟩:=by
 unfold Addr.add;split
 .rename_i h;subst h;rfl
 rfl
theorem tL [h:TyF P t f off ft] (b k:Nat) (w:World):(Instr.fieldAt t (.pointer (some ⟨b,k,none⟩)) f).run P w= .ok (.pointer (some ⟨b,k+off,none⟩)) w:=by
 obtain⟨fs,fd,h1,h2,rfl,rfl,i,h3,h4⟩:=h.h
 simp[Instr.fieldAt,underlying,h1,h2,Instr.sureAddr,fieldPlace,fm h3,h4,vS]
theorem Rm {o:Nat} [h:TyF P t f off ft]:AWN P ⟨d,.fieldAddr t x f,ty,ps,af,gd⟩ [(x,.v (.c (.p o k)))] [] (.v (.c (.p o (k+off)))) []:=
 cM λE ac w hn _=>by
  obtain⟨b,c,hr,hu⟩:=hn x _ (.head _)
  exact⟨.pointer (some ⟨b,k+off,none⟩),by simp[execOp,hu,tL],b,c,hr,rfl⟩
theorem Rl {o:Nat} [h:TyF P t f off ft]:AWN P ⟨d,.fieldAddr t x f,ty,ps,af,gd⟩ [(x,.v (.c (.e o sz i j)))] [] (.v (.c (.e o sz i (j+off)))) []:=
 cM λE ac w hn _=>by
  obtain⟨b,c,hr,hu⟩:=hn x _ (.head _)
  exact⟨_,by simp[execOp,hu,tL];rfl,b,c,hr,by rw[aaX]⟩
theorem Rn {e:List D} [h:TyF P t f off ft]:AWN P ⟨d,.fieldAddr t x f,ty,ps,af,gd⟩ [(x,.v (.c (.q g e j)))] [] (.v (.c (.q g e (j+off)))) []:=
 cM λE ac w hn _=>by
  obtain⟨b,k,hu,hr⟩:=hn x _ (.head _)
  exact⟨_,by simp[execOp,hu,tL];rfl,b,k,by rw[aaX],hr⟩
theorem xS [ht:eB P t e sz by_] {b len cap:Nat} {i:Int} (h0:0<=i) (h1:i<len) (w:World):
 (Instr.indexAt t (.slice (some ⟨b,k,none⟩) len cap) (.int kd i)).run P w= .ok (.pointer (some ⟨b,k+i.toNat*sz,none⟩)) w:=by
 obtain⟨ii,z,h2,h3,_⟩:=ht.i
 have:=fm h2 w
 simp[Instr.indexAt,asIntOf,underlying,ht.u,h0,h1,this,h3,vS]
theorem HW {o:Nat} {i:Int} [ht:eB P t e sz by_] (h0:0<=i) (h1:i<n):
 AWN P ⟨d,.indexAddr t x y,ty,ps,af,gd⟩ [(x,.v (.c (.w o n))),(y,.v (.c (.d g (.i kd i))))] [] (.v (.c (.e o sz i.toNat 0))) []:=
 cM λE ac w hn _=>by
  obtain⟨b,c,hr,hu⟩:=hn x _ (.head _)
  have h2:=iY (hn y _ (.tail _ (.head _)))
  exact⟨_,by simp[execOp,hu,h2,xS h0 h1];rfl,b,c,hr,by simp⟩
theorem Rq {o:Nat} {i:Int} [ht:eB P t e sz by_] (h0:0<=i) (h1:i<n):
 AWN P ⟨d,.indexAddr t x y,ty,ps,af,gd⟩ [(x,.v (.c (.s o sz off n))),(y,.v (.c (.d g (.i kd i))))] [] (.v (.c (.e o sz (off+i.toNat) 0))) []:=
 cM λE ac w hn _=>by
  obtain⟨A,c,b,k,hr,hu,_,hA⟩:=hn x _ (.head _)
  have h2:=iY (hn y _ (.tail _ (.head _)))
  obtain rfl:A=some ⟨b,off*sz,none⟩:=hA.resolve_left oaa
  exact⟨_,by simp[execOp,hu,h2,xS h0 h1];rfl,b,k,hr,by simp[aaP]⟩
theorem Rp {xs:Lad} {i:Int} [ht:eB P t e sz by_] (h0:0<=i) (he:xs[i.toNat]?=some el) (hs:∀e∈xs,e.length=sz):
 AWN P ⟨d,.indexAddr t x y,ty,ps,af,gd⟩ [(x,.v (.c (.d g (.l xs)))),(y,.v (.c (.d g' (.i kd i))))] [] (.v (.c (.q g el 0))) []:=
 cM λE ac w hn _=>by
  have h:=hn x _ (.head _)
  simp only[cvT,cvV,cvC,rdD] at h
  obtain⟨A,c,hu,_,h⟩:=h
  have h2:=iY (hn y _ (.tail _ (.head _)))
  have hl:i.toNat<xs.length:=(aaa.1 he).1
  rcases h with h|⟨b,off,rfl,hb,h⟩
  .subst h;simp at he
  exact⟨_,by simp[execOp,hu,h2,xS (kd:=kd) h0 (by omega:i<(xs.length:Int))];rfl,b,off+i.toNat*sz,by simp,hb,rI h hs he⟩
def ldC (g:Bool):D->C
 | .l xs=>.d g (.l xs)
 |x=>.d false x
theorem Fl {x:D} (h:rdD w (E.H g) x u):cvC E w (ldC g x) u:=by
 cases x<;>simp only[ldC,cvC]<;>first|exact h|(simp only[rdD] at h ⊢;exact h)
theorem nN [h:jN P t] {b:Nat} (hc:w.cell? ⟨b,k,none⟩=some u):(Instr.loadAt t (.pointer (some ⟨b,k,none⟩))).run P w= .ok u w:=by
 simp[Instr.loadAt,Instr.sureAddr,loadVar,h.h,load,Sem.run,hc]
theorem lu {b k:Nat} {w:World}:∀(us:Lae) (i:Nat) (acc:Array Value),(∀j u,us[j]?=some u->w.cell? ⟨b,k+(i+j),none⟩=some u)->
 (loadCellsFrom ⟨b,k,none⟩ i us.length acc).run P w= .ok (acc++us.toArray) w
 |[],i,acc,_=>by simp[loadCellsFrom]
 |u::us,i,acc,h=>by
  have h0:=h 0 u rfl
  have ih:=lu us (i+1) (acc.push u) (λj v hj=>by have:=h (j+1) v (by simpa using hj);rwa [show i+1+j=i+(j+1) from by omega])
  simp only[aai,loadCellsFrom,load,vS]
  simp[Sem.run,show w.cell? ⟨b,k+i,none⟩=some u by simpa using h0,ih]
theorem sX [h:hP P t n] {b:Nat} {us:Lae} (hl:us.length=n) (hc:∀j u,us[j]?=some u->w.cell? ⟨b,k+j,none⟩=some u):
 (Instr.loadAt t (.pointer (some ⟨b,k,none⟩))).run P w= .ok (.agg us.toArray) w:=by
 obtain⟨i,hi,hn⟩:=h.n
 have:=lu (P:=P) (b:=b) (k:=k) (w:=w) us 0 #[] (λj u hj=>by simpa using hc j u hj)
 simp[Instr.loadAt,Instr.sureAddr,loadVar,h.h,fm hi,hn,<-hl,loadCells,this]
theorem Ho {E:Env} {w:World}:∀{cs:List C} {us:Lae} {k:Nat} {c:C},CV E w cs us->cs[k]?=some c->∃u,us[k]?=some u/\cvC E w c u
 |c::cs,u::us,0,c',h,hk=>by simp at hk;subst hk;exact⟨u,rfl,h.1⟩
 |c::cs,u::us,k+1,c',h,hk=>by
  obtain⟨v,hv,h'⟩:=Ho (k:=k) h.2 (by simpa using hk)
  exact⟨v,by simpa using hv,h'⟩
 |[],_,_,_,_,hk=>by simp at hk
 |_::_,[],_,_,h,_=>h.elim
theorem jK {E:Env} {w:World}:∀{cs:List C} {us:Lae},CV E w cs us->us.length=cs.length
 |[],[],_=>rfl
 |c::cs,u::us,h=>by simp[jK h.2]
 |[],_::_,h=>h.elim
 |_::_,[],h=>h.elim
theorem IB {E:Env} {w:World}:∀{cs:List C} {us:Lae} (k:Nat),CV E w cs us->CV E w (cs.drop k) (us.drop k)
 |cs,us,0,h=>by simpa using h
 |[],[],k+1,h=>by simpa using h
 |c::cs,u::us,k+1,h=>by simpa using IB k h.2
 |[],_::_,_+1,h=>h.elim
 |_::_,[],_+1,h=>h.elim
theorem IF {E:Env} {w:World}:∀{cs:List C} {us:Lae} (k:Nat),CV E w cs us->CV E w (cs.take k) (us.take k)
 |cs,us,0,h=>by simp[CV]
 |[],[],k+1,h=>by simp[CV]
 |c::cs,u::us,k+1,h=>by rw[aaI,aaI];exact⟨h.1,IF k h.2⟩
 |[],_::_,_+1,h=>h.elim
 |_::_,[],_+1,h=>h.elim
theorem fa {b:Nat} {arr:Array Value} {ty':TypeId} (h:w.heap[b]?=some (.cells arr ty' (0,0))):w.cell? ⟨b,k,none⟩=arr[k]?:=by
 simp[World.cell?,h]
theorem US {o:Nat} {c:C} [ht:jN P t] (hc:cs[k]?=some c):
 AWN P ⟨d,.load t x,ty,ps,af,gd⟩ [(x,.v (.c (.p o k)))] [(o,.var vt cs)] (.v (.c c)) []:=
 cM λE ac w hn hb=>by
  obtain⟨b,c',hr,hu⟩:=hn x _ (.head _)
  obtain⟨b',c'',arr,hr',hh,hcv,_⟩:=hb o _ (.head _)
  rw[hr] at hr';cases hr'
  obtain⟨u,hu',hcu⟩:=Ho hcv hc
  exact⟨u,by simp[execOp,hu,nN (P:=P) (show w.cell? ⟨b,k,none⟩=some u by rw[fa hh];simpa using hu')],hcu⟩
theorem JK {o:Nat} [ht:hP P t n] (hk:k+n<=cs.length):
 AWN P ⟨d,.load t x,ty,ps,af,gd⟩ [(x,.v (.c (.p o k)))] [(o,.var vt cs)] (.v (.agg ((cs.drop k).take n))) []:=
 cM λE ac w hn hb=>by
  obtain⟨b,c',hr,hu⟩:=hn x _ (.head _)
  obtain⟨b',c'',arr,hr',hh,hcv,_⟩:=hb o _ (.head _)
  rw[hr] at hr';cases hr'
  have hl:=jK hcv
  refine⟨.agg ((arr.toList.drop k).take n).toArray,by
   simp[execOp,hu,sX (P:=P) (t:=t) (n:=n) (b:=b) (k:=k) (us:=(arr.toList.drop k).take n) (w:=w) (by simp[hl] at*;omega) (λj u hj=>by
    rw[fa hh]
    rw[aat] at hj
    split at hj
    .simpa [aaQ] using hj
    cases hj)],_,rfl,IF n (IB k hcv)⟩
theorem UT {e:List D} {xd:D} [ht:jN P t] (hc:e[j]?=some xd):AWN P ⟨d,.load t x,ty,ps,af,gd⟩ [(x,.v (.c (.q g e j)))] [] (.v (.c (ldC g xd))) []:=
 cM λE ac w hn hb=>by
  obtain⟨b,k,hu,hF,hr⟩:=hn x _ (.head _)
  obtain⟨u,hc,hd⟩:=nO hr hc
  exact⟨u,by simp[execOp,hu,nN (P:=P) hc],Fl hd⟩
theorem By {w:World} {F:Nat->Prop}:∀{e:List D} {b k:Nat},rdL w F e b k->∃us:Lae,us.length=e.length/\(∀(j:Nat) (u:Value),us[j]?=some u->w.cell? ⟨b,k+j,none⟩=some u)/\∀(j:Nat) (xd:D),e[j]?=some xd->∃u,us[j]?=some u/\rdD w F xd u
 |[],b,k,_=>⟨[],rfl,by simp,by simp⟩
 |x::e,b,k,h=>by
  rw[rdL] at h
  obtain⟨⟨u,hc,hd⟩,h⟩:=h
  obtain⟨us,h1,h2,h3⟩:=By h
  refine⟨u::us,by simp[h1],λj v hj=>?_,λj xd hj=>?_⟩
  .cases j with
   |zero=>simp at hj;subst hj;exact hc
   |succ j=>have:=h2 j v (by simpa using hj);rwa [show k+1+j=k+(j+1) from by omega] at this
  cases j with
  |zero=>simp at hj;subst hj;exact⟨u,rfl,hd⟩
  |succ j=>obtain⟨v,h4,h5⟩:=h3 j xd (by simpa using hj);exact⟨v,by simpa using h4,h5⟩
theorem BX {E:Env} {w:World} {g:Bool}:∀{e:List D} {us:Lae},us.length=e.length->(∀(j:Nat) (xd:D),e[j]?=some xd->∃u,us[j]?=some u/\rdD w (E.H g) xd u)->CV E w (e.map (ldC g)) us
 |[],[],_,_=>trivial
 |x::e,u::us,hl,h=>by
  obtain⟨v,h1,h2⟩:=h 0 x rfl
  simp at h1;subst h1
  exact⟨Fl h2,BX (by simpa using hl) λj xd hj=>by
   obtain⟨v,h3,h4⟩:=h (j+1) xd (by simpa using hj)
   exact⟨v,by simpa using h3,h4⟩⟩
 |[],_::_,hl,_=>by simp at hl
 |_::_,[],hl,_=>by simp at hl
theorem L6 {F:Nat->Prop} {e:List D} {b:Nat} (h:rdL w F e b k) (j n:Nat):rdL w F ((e.drop j).take n) b (k+j):=
 oT λi xd hi=>by
  rw[aat] at hi
  split at hi
  .rw[aaQ] at hi
   have:=nO h hi
   rwa [<-aaX] at this
  cases hi
theorem JL {e:List D} [ht:hP P t n] (hj:j+n<=e.length):
 AWN P ⟨d,.load t x,ty,ps,af,gd⟩ [(x,.v (.c (.q g e j)))] [] (.v (.agg (((e.drop j).take n).map (ldC g)))) []:=
 cM λE ac w hn hb=>by
  obtain⟨b,k,hu,hF,hr⟩:=hn x _ (.head _)
  obtain⟨us,h1,h2,h3⟩:=By (L6 hr j n)
  exact⟨.agg us.toArray,by simp[execOp,hu,sX (P:=P) (t:=t) (n:=n) (us:=us) (by rw[h1];simp;omega) h2],_,rfl,BX h1 h3⟩
theorem UR {o:Nat} {rt:TypeId} {xd:D} [ht:jN P t] (he:els[i]?=some el) (hc:el[j]?=some xd):
 AWN P ⟨d,.load t x,ty,ps,af,gd⟩ [(x,.v (.c (.e o sz i j)))] [(o,.row rt sz els g m)] (.v (.c (ldC g xd))) []:=
 cM λE ac w hn hb=>by
  obtain⟨b,c',hr,hu⟩:=hn x _ (.head _)
  obtain⟨b',c'',arr,hr',hh,h1,h2,h3,h4,h5,_⟩:=hb o _ (.head _)
  rw[hr] at hr';cases hr'
  obtain⟨u,hc,hd⟩:=nO (rI h5 h4 he) hc
  exact⟨u,by simp[execOp,hu,nN (P:=P) (t:=t) (show w.cell? ⟨b,i*sz+j,none⟩=some u by simpa using hc)],Fl hd⟩
theorem JJ {o:Nat} {rt:TypeId} [ht:hP P t n] (he:els[i]?=some el) (hj:j+n<=el.length):
 AWN P ⟨d,.load t x,ty,ps,af,gd⟩ [(x,.v (.c (.e o sz i j)))] [(o,.row rt sz els g m)] (.v (.agg (((el.drop j).take n).map (ldC g)))) []:=
 cM λE ac w hn hb=>by
  obtain⟨b,c',hr,hu⟩:=hn x _ (.head _)
  obtain⟨b',c'',arr,hr',hh,h1,h2,h3,h4,h5,_⟩:=hb o _ (.head _)
  rw[hr] at hr';cases hr'
  obtain⟨us,h6,h7,h8⟩:=By (L6 (rI h5 h4 he) j n)
  exact⟨.agg us.toArray,by simp[execOp,hu,sX (P:=P) (t:=t) (n:=n) (b:=b) (k:=i*sz+j) (us:=us) (by rw[h6];simp;omega) (λj' u hj'=>by have:=h7 j' u hj';simpa using this)],_,rfl,BX h6 h8⟩
theorem UP {c:C} [h:TyF P t f off ft] [ht:jN P ft] (hc:cs[off]?=some c):AWN P ⟨d,.field t x f,ty,ps,af,gd⟩ [(x,.v (.agg cs))] [] (.v (.c c)) []:=
 cM λE ac w hn hb=>by
  obtain⟨arr,hu,hcv⟩:=hn x _ (.head _)
  obtain⟨u,hu',hcu⟩:=Ho hcv hc
  obtain⟨fs,fd,h1,h2,rfl,rfl,i,h3,h4⟩:=h.h
  exact⟨u,by simp[execOp,hu,Instr.field,underlying,h1,h2,asAgg,part,ht.h,show arr[fd.offset]?=some u by simpa using hu'],hcu⟩
theorem JI [h:TyF P t f off ft] [ht:hP P ft n]:AWN P ⟨d,.field t x f,ty,ps,af,gd⟩ [(x,.v (.agg cs))] [] (.v (.agg ((cs.drop off).take n))) []:=
 cM λE ac w hn hb=>by
  obtain⟨arr,hu,hcv⟩:=hn x _ (.head _)
  obtain⟨fs,fd,h1,h2,rfl,rfl,i,h3,h4⟩:=h.h
  obtain⟨i',h5,h6⟩:=ht.n
  refine⟨.agg (arr.extract fd.offset (fd.offset+n)),by simp[execOp,hu,Instr.field,underlying,h1,h2,asAgg,part,ht.h,fm h5,h6],_,rfl,?_⟩
  have:=IF n (IB fd.offset hcv)
  rw[Array.toList_extract,List.extract_eq_take_drop]
  simpa using this
end
def tkO {α:Type}:Nat->List α->Option (List α)
 |0,_=>some []
 |n+1,x::xs=>match tkO n xs with|some r=>some (x::r)|none=>none
 |_+1,[]=>none
def drO {α:Type}:Nat->List α->Option (List α)
 |0,xs=>some xs
 |n+1,_::xs=>drO n xs
 |_+1,[]=>none
def Bu (k n:Nat) (xs:List α):Option (List α):=match drO k xs with|some r=>tkO n r|none=>none
def uW {α:Type}:Nat->List α->List α->Option (List α)
 |0,[],cs=>some cs
 |0,n::ns,_::cs=>match uW 0 ns cs with|some r=>some (n::r)|none=>none
 |0,_::_,[]=>none
 |k+1,ns,c::cs=>match uW k ns cs with|some r=>some (c::r)|none=>none
 |_+1,_,[]=>none
theorem V7 {α:Type}:∀{n:Nat} {xs r:List α},tkO n xs=some r->r=xs.take n/\n<=xs.length
 |0,xs,r,h=>by simp[tkO] at h;subst h;simp
 |n+1,[],r,h=>by simp[tkO] at h
 |n+1,x::xs,r,h=>by
  simp only[tkO] at h
  cases h1:tkO n xs with
  |none=>simp[h1] at h
  |some s=>simp[h1] at h;obtain⟨h2,h3⟩:=V7 h1;subst h;subst h2;simp[h3]
theorem TR {α:Type}:∀{n:Nat} {xs r:List α},drO n xs=some r->r=xs.drop n/\n<=xs.length
 |0,xs,r,h=>by simp[drO] at h;subst h;simp
 |n+1,[],r,h=>by simp[drO] at h
 |n+1,x::xs,r,h=>by simp only[drO] at h;obtain⟨h2,h3⟩:=TR h;subst h2;simp[h3]
theorem Bv {xs r:List α} (h:Bu k n xs=some r):r=(xs.drop k).take n/\k+n<=xs.length:=by
 unfold Bu at h
 cases h1:drO k xs with
 |none=>simp[h1] at h
 |some s=>
  simp[h1] at h
  obtain⟨h2,h3⟩:=TR h1
  obtain⟨h4,h5⟩:=V7 h
  subst h2
  simp at h5
  exact⟨h4,by omega⟩
theorem uD {α:Type}:∀{k:Nat} {ns cs r:List α},uW k ns cs=some r->r=cs.take k++ns++cs.drop (k+ns.length)/\k+ns.length<=cs.length
 |0,[],cs,r,h=>by simp[uW] at h;subst h;simp
 |0,n::ns,[],r,h=>by simp[uW] at h
 |0,n::ns,c::cs,r,h=>by
  simp only[uW] at h
  cases h1:uW 0 ns cs with
  |none=>simp[h1] at h
  |some s=>simp[h1] at h;obtain⟨h2,h3⟩:=uD h1;subst h;subst h2;simp at h3;simp[h3]
 |k+1,ns,[],r,h=>by cases ns<;>simp[uW] at h
 |k+1,ns,c::cs,r,h=>by
  have h':(match uW k ns cs with|some r=>some (c::r)|none=>none)=some r:=by cases ns<;>simpa [uW] using h
  cases h1:uW k ns cs with
  |none=>simp[h1] at h'
  |some s=>
   simp[h1] at h';obtain⟨h2,h3⟩:=uD h1;subst h';subst h2
   refine⟨by simp[Nat.add_right_comm],by simp;omega⟩
theorem MB {ns cs r:List α} (h:uW k ns cs=some r) (i:Nat):r[i]?=if k<=i/\i<k+ns.length then ns[i-k]? else cs[i]?:=by
 obtain⟨h1,h2⟩:=uD h
 subst h1
 have hk:(cs.take k).length=k:=by simp;omega
 by_cases hi:i<k
 .rw[if_neg oaa,aaR,aal oaa,aat,if_pos hi]
 rw[aaR,aan oaa,hk]
 by_cases hj:i<k+ns.length
 .rw[if_pos ⟨by omega,hj⟩,aal oaa]
 rw[if_neg oaa,aan oaa,aaQ]
 congr 1
 omega
theorem YF {E:Env} {w:World}:∀{cs:List C} {us:Lae},us.length=cs.length->(∀(k:Nat) (c:C),cs[k]?=some c->∃u,us[k]?=some u/\cvC E w c u)->CV E w cs us
 |[],[],_,_=>trivial
 |c::cs,u::us,hl,h=>by
  obtain⟨v,h1,h2⟩:=h 0 c rfl
  simp at h1;subst h1
  exact⟨h2,YF (by simpa using hl) λk c' hk=>by
   obtain⟨v,h3,h4⟩:=h (k+1) c' (by simpa using hk)
   exact⟨v,by simpa using h3,h4⟩⟩
 |[],_::_,hl,_=>by simp at hl
 |_::_,[],hl,_=>by simp at hl
section
variable {P:Program} {N:Nat} {d:Option Tmp} {ty:TypeId} {ps:String} {af:Array Edge} {gd:Option (Nat×Bool)} {x y z:Operand}
theorem GY {o:Nat} {r:List C} [ht:hP P t n] (hk:Bu k n cs=some r):
 AWN P ⟨d,.load t x,ty,ps,af,gd⟩ [(x,.v (.c (.p o k)))] [(o,.var vt cs)] (.v (.agg r)) []:=by
 obtain⟨h1,h2⟩:=Bv hk
 subst h1
 exact JK h2
def ldO (g:Bool):List D->Option (List C)
 |[]=>some []
 | .i k n::r=>match ldO g r with|some cs=>some (.d false (.i k n)::cs)|none=>none
 | .b x::r=>match ldO g r with|some cs=>some (.d false (.b x)::cs)|none=>none
 | .str s::r=>match ldO g r with|some cs=>some (.d false (.str s)::cs)|none=>none
 | .l xs::r=>match ldO g r with|some cs=>some (.d g (.l xs)::cs)|none=>none
 | .k A n c::r=>match ldO g r with|some cs=>some (.d false (.k A n c)::cs)|none=>none
theorem Jy {g:Bool}:∀{xs:List D} {cs:List C},ldO g xs=some cs->cs=xs.map (ldC g)
 |[],cs,h=>by simp[ldO] at h;subst h;rfl
 |x::xs,cs,h=>by
  cases h1:ldO g xs with
  |none=>cases x<;>simp[ldO,h1] at h
  |some r=>have:=Jy h1;subst this;cases x<;>simp[ldO,h1] at h<;>subst h<;>rfl
def GV (g:Bool) (j n:Nat) (e:List D):Option (List C):=match Bu j n e with|some r=>ldO g r|none=>none
theorem Jz {e:List D} (h:GV g j n e=some cs):cs=((e.drop j).take n).map (ldC g)/\j+n<=e.length:=by
 unfold GV at h
 cases h1:Bu j n e with
 |none=>simp[h1] at h
 |some r=>simp[h1] at h;obtain⟨h2,h3⟩:=Bv h1;subst h2;exact⟨Jy h,h3⟩
def ld1 (g:Bool) (j:Nat) (e:List D):Option C:=match GV g j 1 e with|some [c]=>some c|_=>none
theorem UE {e:List D} {c:C} (h:ld1 g j e=some c):∃xd,e[j]?=some xd/\c=ldC g xd:=by
 unfold ld1 at h
 split at h
 .rename_i c' h1
  simp at h;subst h
  obtain⟨h2,h3⟩:=Jz h1
  have hj:j<e.length:=by omega
  refine⟨e[j],v0 hj,?_⟩
  rw[aaZ hj,aaI] at h2
  injection h2
 cases h
theorem GZ {e:List D} [ht:hP P t n] (hj:GV g j n e=some cs):
 AWN P ⟨d,.load t x,ty,ps,af,gd⟩ [(x,.v (.c (.q g e j)))] [] (.v (.agg cs)) []:=by
 obtain⟨h1,h2⟩:=Jz hj
 subst h1
 exact JL h2
theorem Rv {e:List D} {c:C} [ht:jN P t] (hc:ld1 g j e=some c):AWN P ⟨d,.load t x,ty,ps,af,gd⟩ [(x,.v (.c (.q g e j)))] [] (.v (.c c)) []:=by
 obtain⟨xd,h1,rfl⟩:=UE hc
 exact UT h1
theorem HX {o:Nat} {rt:TypeId} {c:C} [ht:jN P t] (he:els[i]?=some el) (hc:ld1 g j el=some c):
 AWN P ⟨d,.load t x,ty,ps,af,gd⟩ [(x,.v (.c (.e o sz i j)))] [(o,.row rt sz els g m)] (.v (.c c)) []:=by
 obtain⟨xd,h1,rfl⟩:=UE hc
 exact UR he h1
theorem zJ {o:Nat} {rt:TypeId} [ht:hP P t n] (he:els[i]?=some el) (hj:GV g j n el=some cs):
 AWN P ⟨d,.load t x,ty,ps,af,gd⟩ [(x,.v (.c (.e o sz i j)))] [(o,.row rt sz els g m)] (.v (.agg cs)) []:=by
 obtain⟨h1,h2⟩:=Jz hj
 subst h1
 exact JJ he h2
theorem GW {r:List C} [h:TyF P t f off ft] [ht:hP P ft n] (hr:Bu off n cs=some r):AWN P ⟨d,.field t x f,ty,ps,af,gd⟩ [(x,.v (.agg cs))] [] (.v (.agg r)) []:=by
 obtain⟨h1,h2⟩:=Bv hr
 subst h1
 exact JI
def Env.new (E:Env) (l b c:Nat):Env:={E with r:=λo=>if o=l then some (b,c) else E.r o}
theorem Xf {cx:Cx} (ok:dJ cx E w) (hl:E.r l=none) (hv:rsv l=false) (o:Obj) (c:Nat):
 dJ cx (E.new l w.heap.size c) (w.alloc o)/\Ext E w (E.new l w.heap.size c) (w.alloc o):=by
 have hne:∀o' x,E.r o'=some x->o'≠l:=λo' x h e=>by subst e;rw[hl] at h;cases h
 refine⟨⟨λb hb=>?_,ok.gf,ok.gn,λo' b c' h=>?_,λo1 o2 b c1 c2 h1 h2=>?_,ok.os,ok.tape,ok.output,?_,λb hb hW=>?_,λo' x hx h=>?_,ok.ff,λb h h'=>(ok.gc b h h').of_eq (Below.heap_alloc w o b (ok.fb b h)),ok.sf.grow rfl rfl (λ_ h=>.inl h) (λo' b c' h=>?_) (by simp) (λb hb=>Below.heap_alloc w o b hb)⟩,⟨λo' x h=>?_,λ_ h=>h,λ_ h=>h,λ_ h=>.inl h,λb hb=>Below.heap_alloc w o b hb,rfl,rfl,rfl⟩⟩
 .have:=ok.fb b hb;simp;omega
 .simp only[Env.new] at h
  split at h
  .cases h;have:=ok.size;simp;omega
  obtain⟨h3,h4⟩:=ok.rb o' b c' h;exact⟨by simp;omega,h4⟩
 .simp only[Env.new] at h1 h2
  split at h1<;>split at h2
  .omega
  .cases h1;have:=ok.rb o2 _ _ h2;omega
  .cases h2;have:=ok.rb o1 _ _ h1;omega
  exact ok.inj o1 o2 b c1 c2 h1 h2
 .have:=ok.size;simp;omega
 .have:=ok.size;rw[Below.heap_alloc w o b oaa];exact ok.block b hb hW
 .simp only[Env.new] at h
  split at h
  .rename_i e;subst e;rw[rJ hv] at hx;cases hx
  exact ok.pin o' x hx h
 .simp only[Env.new] at h
  split at h
  .cases h;exact .inr (aah _)
  exact .inl ⟨o',c',h⟩
 simp only[Env.new];rw[if_neg (hne o' x h)];exact h
theorem Jj {cx:Cx} (ok:dJ cx E w) (hl:E.r l=none) (o:Obj) (c:Nat):Ext E w (E.new l w.heap.size c) (w.alloc o):=
 ⟨λo' x h=>by
  have hne:o'≠l:=λe=>by subst e;rw[hl] at h;cases h
  simp only[Env.new];rw[if_neg hne];exact h,λ_ h=>h,λ_ h=>h,λ_ h=>.inl h,λb hb=>Below.heap_alloc w o b hb,rfl,rfl,rfl⟩
theorem zK (E:Env) (l b c:Nat):(E.new l b c).r l=some (b,c):=by simp[Env.new]
theorem sZ (w:World) (o:Obj):(w.alloc o).heap[w.heap.size]?=some o:=heap_alloc_new w o
theorem AL {o:Oper} {needs:List (Operand×T)} {nb:Ob}
 (h:∀(cx:Cx) (E:Env) (a:Act) (w:World),dJ cx E w->(∀x t,(x,t)∈needs->cvT E w t (a.eval x))->(∀l ob,(l,ob)∈nob->dm E w l ob)->E.r l=none->
 ∃v ob c,(execOp a.eval o).run P w= .ok (.value v) (w.alloc ob)/\cvT (E.new l w.heap.size c) (w.alloc ob) out v/\dm (E.new l w.heap.size c) (w.alloc ob) l nb):AWN P o needs nob out [(l,nb)]:=by
 intro cx E a w ok hn hb hl
 obtain⟨v,ob,c,hr,hv,ho⟩:=h cx E a w ok hn hb (hl l nb (by simp)).1
 obtain⟨ok',ext⟩:=Xf ok (hl l nb (by simp)).1 (hl l nb (by simp)).2 ob c
 unfold Oper.wp
 rw[hr]
 refine⟨v,_,rfl,ok',ext,hv,λl' ob' hm=>?_,λl' x hx=>?_⟩
 .simp at hm;obtain⟨rfl,rfl⟩:=hm;exact ho
 simp only[Env.new] at hx
 split at hx
 .rename_i e;subst e;exact .inr ⟨nb,by simp⟩
 exact .inl hx
theorem yb {cx:Cx} (ok:dJ cx E w) (l c:Nat):¬(E.new l w.heap.size c).F w.heap.size:=λh=>by have:=ok.fb _ h;omega
theorem XF {zs:List C} [hz:TyZ P t zs]:AWN P ⟨d,.alloc t,ty,ps,af,gd⟩ [] [] (.v (.c (.p l 0))) [(l,.var t zs)]:=
 AL λcx E a w ok _ _ hl=>by
  obtain⟨i,z,h1,h2,h3⟩:=hz.h
  refine⟨.pointer (some ⟨w.heap.size,0,none⟩),.cells z.cells t,0,by simp[execOp,Instr.alloc,zeroValue,typeInfo,h1,h2,newVar,newRow],?_,?_⟩
  .exact⟨_,_,zK _ _ _ _,rfl⟩
  refine⟨_,_,z.cells,zK _ _ _ _,sZ _ _,?_,yb ok _ _⟩
  rw[<-h3];exact uY _ _ _
theorem Rj:AWN P ⟨d,.box t x,ty,ps,af,gd⟩ [(x,.v (.agg cs))] [] (.v (.c (.p l 0))) [(l,.var t cs)]:=
 AL λcx E a w ok hn _ hl=>by
  obtain⟨arr,hu,hcv⟩:=hn x _ (.head _)
  refine⟨.pointer (some ⟨w.heap.size,0,none⟩),.cells arr t,0,by simp[execOp,Instr.box,hu,newVar,newRow,Value.cells],⟨_,_,zK _ _ _ _,rfl⟩,?_⟩
  exact⟨_,_,arr,zK _ _ _ _,sZ _ _,sq (.of_ext ok (Jj ok hl _ 0)) hcv,yb ok _ _⟩
def C.sto:C->Bool
 | .any=>false
 |_=>true
theorem Ou {c:C} (hs:c.sto=true) (h:cvC E w c u):u.oneCell'=true/\u.cells= #[u]:=by
 cases c with
 |d g x=>exact⟨wv h,Cq h⟩
 |w o n=>obtain⟨b,c,_,rfl⟩:=h;exact⟨rfl,rfl⟩
 |wn o n=>
  rcases h with⟨_,_,rfl⟩|⟨_,b,c,_,rfl⟩
  .exact⟨rfl,rfl⟩
  exact⟨rfl,rfl⟩
 |s o sz off len=>obtain⟨A,c,b,k,_,rfl,_⟩:=h;exact⟨rfl,rfl⟩
 |p o k=>obtain⟨b,c,_,rfl⟩:=h;exact⟨rfl,rfl⟩
 |e o sz i j=>obtain⟨b,c,_,rfl⟩:=h;exact⟨rfl,rfl⟩
 |q g x j=>obtain⟨b,k,rfl,_⟩:=h;exact⟨rfl,rfl⟩
 |fn f=>subst h;exact⟨rfl,rfl⟩
 |nil=>subst h;exact⟨rfl,rfl⟩
 |any=>cases hs
 |r l x=>exact⟨wv h,Cq h⟩
 |z x=>exact NZ h
 |zq x j=>obtain⟨b,k,rfl,_⟩:=h;exact⟨rfl,rfl⟩
theorem XG {c:C} (hs:c.sto=true):AWN P ⟨d,.box t x,ty,ps,af,gd⟩ [(x,.v (.c c))] [] (.v (.c (.p l 0))) [(l,.var t [c])]:=
 AL λcx E a w ok hn _ hl=>by
  have hu:cvC E w c (a.eval x):=hn x _ (.head _)
  obtain⟨h1,h2⟩:=Ou hs hu
  refine⟨.pointer (some ⟨w.heap.size,0,none⟩),.cells #[a.eval x] t,0,by simp[execOp,Instr.box,h2,newVar,newRow],⟨_,_,zK _ _ _ _,rfl⟩,?_⟩
  exact⟨_,_,#[a.eval x],zK _ _ _ _,sZ _ _,⟨u5 (.of_ext ok (Jj ok hl _ 0)) hu,trivial⟩,yb ok _ _⟩
def cD:C->Option (D×Bool)
 | .d g (.l xs)=>some (.l xs,g)
 | .d _ (.i k n)=>some (.i k n,true)
 | .d _ (.b b)=>some (.b b,true)
 | .d _ (.str s)=>some (.str s,true)
 | .d _ (.k A n c)=>some (.k A n c,true)
 | .nil=>some (.l [],true)
 |_=>none
def csD:List C->Option (List D×Bool)
 |[]=>some ([],true)
 |c::cs=>match cD c,csD cs with
  |some (x,g),some (xs,g')=>some (x::xs,g&&g')
  |_,_=>none
def vD:V->Option (List D×Bool)
 | .c c=>match cD c with
  |some (x,g)=>some ([x],g)
  |none=>none
 | .agg cs=>csD cs
theorem YL {cx:Cx} (ok:dJ cx E w) {c:C} {x:D} (h:cD c=some (x,g)) (hc:cvC E w c u):rdD w (E.H g) x u/\u.oneCell'=true/\u.cells= #[u]:=by
 cases c with
 |d g' x'=>
  refine⟨?_,wv hc,Cq hc⟩
  cases x'<;>simp[cD] at h<;>obtain⟨rfl,rfl⟩:=h<;>first|exact hc|(simp only[cvC,rdD] at hc ⊢;exact hc)
 |nil=>
  simp[cD] at h
  obtain⟨rfl,rfl⟩:=h
  have hu:u= .slice none 0 0:=hc
  subst hu
  exact⟨by rw[rdD];exact⟨none,0,rfl,aah _,.inl rfl⟩,rfl,rfl⟩
 |_=>simp[cD] at h
theorem pF {cx:Cx} (ok:dJ cx E w) {x:D} (h:rdD w (E.H (g)) x u) (hg:g'=true->g=true):rdD w (E.H g') x u:=by
 cases g' with
 |true=>rwa [hg rfl] at h
 |false=>
  cases g with
  |false=>exact h
  |true=>exact cW (λ_ _=>rfl) (λb hb=>ok.gf b hb) x u h
theorem Tx {cx:Cx} {E:Env} {w:World} (ok:dJ cx E w):∀{cs:List C} {xs:List D} {g:Bool} {us:Lae},csD cs=some (xs,g)->CV E w cs us->
 xs.length=us.length/\(∀u∈us,u.oneCell'=true)/\∀(j:Nat) (xd:D),xs[j]?=some xd->∃u,us[j]?=some u/\rdD w (E.H g) xd u
 |[],xs,g,us,h,hc=>by
  simp[csD] at h;obtain⟨rfl,rfl⟩:=h
  cases us with
  |nil=>exact⟨rfl,by simp,by simp⟩
  |cons _ _=>exact hc.elim
 |c::cs,xs,g,us,h,hc=>by
  cases us with
  |nil=>exact hc.elim
  |cons u us=>
   cases h1:cD c with
   |none=>simp[csD,h1] at h
   |some p=>
    obtain⟨x,g1⟩:=p
    cases h2:csD cs with
    |none=>simp[csD,h1,h2] at h
    |some p=>
     obtain⟨xs',g2⟩:=p
     simp[csD,h1,h2] at h
     obtain⟨rfl,rfl⟩:=h
     obtain⟨k1,k2,k3⟩:=YL ok h1 hc.1
     obtain⟨m1,m2,m3⟩:=Tx ok h2 hc.2
     refine⟨by simp[m1],by simpa using⟨k2,m2⟩,λj xd hj=>?_⟩
     cases j with
     |zero=>simp at hj;subst hj;exact⟨u,rfl,pF ok k1 (by simp;intro a _;exact a)⟩
     |succ j=>
      obtain⟨v,n1,n2⟩:=m3 j xd (by simpa using hj)
      exact⟨v,by simpa using n1,pF ok n2 (by simp)⟩
theorem Wh {cx:Cx} (ok:dJ cx E w) {v:V} {xs:List D} (h:vD v=some (xs,g)) (hv:cvV E w v u):
 u.cells.size=xs.length/\(∀c∈u.cells.toList,c.oneCell'=true)/\∀(j:Nat) (xd:D),xs[j]?=some xd->∃c,u.cells[j]?=some c/\rdD w (E.H g) xd c:=by
 cases v with
 |c c=>
  cases h1:cD c with
  |none=>simp[vD,h1] at h
  |some p=>
   obtain⟨x,g1⟩:=p
   simp[vD,h1] at h
   obtain⟨rfl,rfl⟩:=h
   obtain⟨k1,k2,k3⟩:=YL ok h1 hv
   rw[k3]
   refine⟨rfl,by simpa using k2,λj xd hj=>?_⟩
   cases j with
   |zero=>simp at hj;subst hj;exact⟨u,rfl,k1⟩
   |succ j=>simp at hj
 |agg cs=>
  obtain⟨arr,rfl,hc⟩:=hv
  obtain⟨m1,m2,m3⟩:=Tx ok h hc
  refine⟨by simpa [Value.cells] using m1.symm,by simpa [Value.cells] using m2,λj xd hj=>?_⟩
  obtain⟨c,n1,n2⟩:=m3 j xd hj
  exact⟨c,by simpa [Value.cells] using n1,n2⟩
end
class TyB (P:Program) (t:TypeId) (pl:outParam Lac):Prop where
 h:∃fs,P.underlying t=some (.struct fs)/\∀w,(fs.mapM (λf=>Prod.mk f.offset<$>sizeOf f.type):Sem (Array (Nat×Nat))).run P w= .ok pl.toArray w
def ro:Lae->Option (List D)
 |[]=>some []
 | .int k n::r=>match ro r with|some xs=>some (.i k n::xs)|none=>none
 | .bool b::r=>match ro r with|some xs=>some (.b b::xs)|none=>none
 | .string s::r=>match ro r with|some xs=>some (.str s::xs)|none=>none
 | .slice none 0 0::r=>match ro r with|some xs=>some (.l []::xs)|none=>none
 |_=>none
class TyE (P:Program) (e:TypeId) (zd:outParam (List D)):Prop where
 h:∃i z,P.info? e=some i/\i.zero=some z/\ro z.cells.toList=some zd
theorem z0 {w:World} {F:Nat->Prop}:∀{us:Lae} {xs:List D},ro us=some xs->us.length=xs.length/\∀(j:Nat) (xd:D),xs[j]?=some xd->∃u,us[j]?=some u/\rdD w F xd u
 |[],xs,h=>by simp[ro] at h;subst h;exact⟨rfl,by simp⟩
 |u::us,xs,h=>by
  have key:∃x xs',xs=x::xs'/\ro us=some xs'/\rdD w F x u:=by
   unfold ro at h
   split at h
   .simp at*
   .rename_i e;injection e with e1 e2;subst e1;subst e2;split at h
    .rename_i r h1;simp at h;exact⟨_,r,h.symm,h1,by simp[rdD]⟩
    cases h
   .rename_i e;injection e with e1 e2;subst e1;subst e2;split at h
    .rename_i r h1;simp at h;exact⟨_,r,h.symm,h1,by simp[rdD]⟩
    cases h
   .rename_i e;injection e with e1 e2;subst e1;subst e2;split at h
    .rename_i r h1;simp at h;exact⟨_,r,h.symm,h1,by simp[rdD]⟩
    cases h
   .rename_i e;injection e with e1 e2;subst e1;subst e2;split at h
    .rename_i r h1;simp at h;exact⟨_,r,h.symm,h1,by rw[rdD];exact⟨none,0,rfl,aah _,.inl rfl⟩⟩
    cases h
   cases h
  obtain⟨x,xs',rfl,h1,h2⟩:=key
  obtain⟨k1,k2⟩:=z0 (w:=w) (F:=F) h1
  refine⟨by simp[k1],λj xd hj=>?_⟩
  cases j with
  |zero=>simp at hj;subst hj;exact⟨u,rfl,h2⟩
  |succ j=>obtain⟨v,m1,m2⟩:=k2 j xd (by simpa using hj);exact⟨v,by simpa using m1,m2⟩
def vcs:V->Option (List C)
 | .c c=>match c.sto with|true=>some [c]|false=>none
 | .agg cs=>some cs
theorem Kv {v:V} (h:vcs v=some cs) (hv:cvV E w v u):CV E w cs u.cells.toList:=by
 cases v with
 |c c=>
  simp only[vcs] at h
  cases hs:c.sto with
  |false=>simp[hs] at h
  |true=>simp[hs] at h;subst h;obtain⟨_,h2⟩:=Ou hs hv;rw[h2];exact⟨hv,trivial⟩
 |agg cs'=>simp[vcs] at h;subst h;obtain⟨arr,rfl,hc⟩:=hv;exact hc
def Eo (pl:Lac):List C->List (Nat×V)->Option (List C)
 |cs,[]=>some cs
 |cs,(i,v)::r=>match pl[i]?,vcs v with
  |some (off,n),some ns=>match d0 ns.length n,uW off ns cs with
   |true,some cs'=>Eo pl cs' r
   |_,_=>none
  |_,_=>none
def PV (E:Env) (w:World):List (Nat×V)->List (Nat×Value)->Prop
 |[],[]=>True
 |(i,v)::r,(j,u)::s=>i=j/\cvV E w v u/\PV E w r s
 |_,_=>False
theorem BZ {ns r:List C} {us vs ws:Lae} (h:uW off ns cs=some r) (hn:CV E w ns us) (hc:CV E w cs vs) (hl:ws.length=vs.length)
 (hw:∀k,ws[k]?=if off<=k/\k<off+us.length then us[k-off]? else vs[k]?):CV E w r ws:=by
 have hln:=jK hn
 have hlc:=jK hc
 refine YF ?_ λk c hk=>?_
 .obtain⟨h1,h2⟩:=uD h;subst h1;simp;omega
 rw[MB h k] at hk
 rw[hw k,hln]
 split at hk
 .rename_i hi;rw[if_pos hi];exact Ho hn hk
 rename_i hi;rw[if_neg hi];exact Ho hc hk
theorem O4 {E:Env} {w:World} {pl:Lac}:∀{ps:List (Nat×V)} {us:List (Nat×Value)} {cs r:List C} {arr:Array Value},PV E w ps us->CV E w cs arr.toList->Eo pl cs ps=some r->
 ∃arr',Instr.fill (pl.toArray[·]?) arr us=some arr'/\CV E w r arr'.toList
 |[],[],cs,r,arr,_,hc,h=>by simp[Eo] at h;subst h;exact⟨arr,rfl,hc⟩
 |(i,v)::ps,(j,u)::us,cs,r,arr,hp,hc,h=>by
  obtain⟨rfl,hv,hp⟩:=hp
  simp only[Eo] at h
  split at h
  .rename_i off n ns h1 h2
   split at h
   .rename_i cs' h3 h4
    have h3':=aad h3
    have hcn:=Kv h2 hv
    have hl:=jK hcn
    have hlc:=jK hc
    obtain⟨g1,g2⟩:=Go.Great.foldl_set off u.cells.toList 0 arr
    have hsz:u.cells.size=n:=by simp at hl;omega
    have hle:=(uD h4).2
    have hsp:CV E w cs' ((u.cells.toList.zipIdx 0).foldl (λcs (x:Value×Nat)=>cs.setIfInBounds (off+x.2) x.1) arr).toList:=by
     refine BZ h4 hcn hc (by simp[g1]) λk=>?_
     rw[Array.getElem?_toList,g2 k]
     simp only[aaT]
     by_cases hk:off<=k/\k<off+u.cells.toList.length
     .rw[if_pos hk,if_pos ⟨hk.1,hk.2,by simp at hlc hk;omega⟩]
     rw[if_neg hk,if_neg oaa];simp
    obtain⟨arr',k1,k2⟩:=O4 (pl:=pl) hp hsp h
    refine⟨arr',?_,k2⟩
    rw[<-k1]
    conv=>lhs;unfold Instr.fill
    have hpl:pl.toArray[i]?=some (off,n):=by simpa using h1
    simp only[hpl]
    rw[if_neg (by simp at hlc;simp[hsz];omega)]
    congr 1
    rw[<-Array.foldl_toList,Array.toList_zipIdx]
   cases h
  cases h
 |[],_::_,_,_,_,hp,_,_=>hp.elim
 |_::_,[],_,_,_,hp,_,_=>hp.elim
section
variable {P:Program} {N:Nat} {d:Option Tmp} {ty:TypeId} {ps:String} {af:Array Edge} {gd:Option (Nat×Bool)} {x y z:Operand}
theorem SX {E:Env} {a:Act} {w:World}:∀{parts:List (Nat×Operand)} {vs:List V},vs.length=parts.length->(∀x t,(x,t)∈(parts.map (·.2)).zip (vs.map T.v)->cvT E w t (a.eval x))->
 PV E w ((parts.map (·.1)).zip vs) (parts.map λp=>(p.1,a.eval p.2))
 |[],[],_,_=>trivial
 |(i,x)::ps,v::vs,hl,h=>⟨rfl,h x (.v v) (by simp),SX (by simpa using hl) λx t hm=>h x t (by simp only[aaB,List.zip_cons_cons];exact .tail _ hm)⟩
 |[],_::_,hl,_=>by simp at hl
 |_::_,[],hl,_=>by simp at hl
theorem PD {zs:List C} {pl:Lac} {parts:List (Nat×Operand)} [hz:TyZ P t zs] [hb:TyB P t pl] (hv:vs.length=parts.length)
 (h:Eo pl zs ((parts.map (·.1)).zip vs)=some cs):AWN P ⟨d,.build t parts.toArray,ty,ps,af,gd⟩ ((parts.map (·.2)).zip (vs.map T.v)) [] (.v (.agg cs)) []:=
 cM λE a w hn _=>by
  obtain⟨i,z,h1,h2,h3⟩:=hz.h
  obtain⟨fs,h4,h5⟩:=hb.h
  obtain⟨arr',k1,k2⟩:=O4 (arr:=z.cells) (SX hv hn) (by rw[<-h3];exact uY _ _ _) h
  refine⟨.agg arr',?_,arr',rfl,k2⟩
  have k1':Instr.fill (λx=>pl[x]?) z.cells (List.map (λp=>(p.fst,a.eval p.snd)) parts)=some arr':=by simpa using k1
  simp[execOp,Instr.build,zeroValue,typeInfo,h1,h2,underlying,h4,h5,k1']
def vsD:List V->Option (Lad×Bool)
 |[]=>some ([],true)
 |v::vs=>match vD v,vsD vs with
  |some (e,g),some (es,g')=>some (e::es,g&&g')
  |_,_=>none
theorem Wi {cx:Cx} {E:Env} {w:World} (ok:dJ cx E w):∀{vs:List V} {els:Lad} {g:Bool},vsD vs=some (els,g)->els.length=vs.length/\
 ∀(i:Nat) (e:List D),els[i]?=some e->∃v g',vs[i]?=some v/\vD v=some (e,g')/\(g=true->g'=true)
 |[],els,g,h=>by simp[vsD] at h;obtain⟨rfl,rfl⟩:=h;exact⟨rfl,by simp⟩
 |v::vs,els,g,h=>by
  cases h1:vD v with
  |none=>simp[vsD,h1] at h
  |some p=>
   obtain⟨e,g1⟩:=p
   cases h2:vsD vs with
   |none=>simp[vsD,h1,h2] at h
   |some p=>
    obtain⟨es,g2⟩:=p
    simp[vsD,h1,h2] at h
    obtain⟨rfl,rfl⟩:=h
    obtain⟨k1,k2⟩:=Wi ok h2
    refine⟨by simp[k1],λi e' hi=>?_⟩
    cases i with
    |zero=>simp at hi;subst hi;exact⟨v,g1,rfl,h1,by simp;intro a _;exact a⟩
    |succ i=>obtain⟨v',g',m1,m2,m3⟩:=k2 i e' (by simpa using hi);exact⟨v',g',by simpa using m1,m2,λhg=>m3 (by simp at hg;exact hg.2)⟩
def UF (sz:Nat):Lad->Bool
 |[]=>true
 |e::es=>d0 e.length sz&&UF sz es
theorem Pt {sz:Nat}:∀{els:Lad},UF sz els=true->∀e∈els,e.length=sz
 |e::es,h,e',hm=>by
  simp only[UF,hV] at h
  rcases aae.1 hm with rfl|hm
  .exact aad h.1
  exact Pt h.2 e' hm
theorem JH {len:Nat} {parts:List (Nat×Operand)} [ht:eB P t e sz by_] (hlen:len=parts.length) (hv:vs.length=parts.length)
 (hi:parts.map (·.1)=f4 len) (he:vsD vs=some (els,g)) (hs:UF sz els=true) (h24:len*sz<=16777216):
 AWN P ⟨d,.buildSlice t len parts.toArray,ty,ps,af,gd⟩ ((parts.map (·.2)).zip (vs.map T.v)) [] (.v (.c (.w l len))) [(l,.row e sz els g true)]:=
 AL λcx E a w ok hn _ hl=>by
  subst hlen
  have hsz:=Pt hs
  obtain⟨ii,zz,i1,i2,i3,i4,i5⟩:=ht.i
  obtain⟨m1,m2⟩:=Wi ok he
  have hval:∀(i:Nat) (v:V),vs[i]?=some v->∃p,parts[i]?=some p/\cvV E w v (a.eval p.2):=by
   intro i v hi
   have hlt:i<vs.length:=(aaa.1 hi).1
   have hp:i<parts.length:=by omega
   refine⟨parts[i],v0 hp,hn parts[i].2 (.v v) ?_⟩
   refine aab (i:=i) ?_
   rw[List.getElem?_zip_eq_some]
   simp[hi,hp]
  have hcell:∀p∈parts,(a.eval p.2).cells.size=sz:=by
   intro p hp
   obtain⟨i,hi⟩:=aap hp
   have hlt:i<parts.length:=(aaa.1 hi).1
   obtain⟨v,hv'⟩:∃v,vs[i]?=some v:=⟨_,v0 oaa⟩
   obtain⟨e',he'⟩:∃e',els[i]?=some e':=⟨_,v0 oaa⟩
   obtain⟨v2,g',n1,n2,n3⟩:=m2 i e' he'
   rw[hv'] at n1;cases n1
   obtain⟨p',q1,q2⟩:=hval i v hv'
   rw[hi] at q1;cases q1
   rw[(Wh ok n2 q2).1];exact hsz e' (aab he')
  have hparts:(parts.map λp=>(p.1,a.eval p.2))=(((parts.map λp=>a.eval p.2).zipIdx 0).map λx=>(x.2,x.1)):=by
   apply List.ext_getElem?
   intro i
   simp only[aaH,List.getElem?_zipIdx]
   cases hp:parts[i]? with
   |none=>simp
   |some p=>
    have:(parts.map (·.1))[i]?=some p.1:=by simp[hp]
    rw[hi] at this
    have hpi:p.1=i:=by
     have hlt:i<parts.length:=(aaa.1 hp).1
     simp[hlt] at this;omega
    simp[hpi]
  obtain⟨r,f1,f2,f3⟩:=Go.Great.fill_dense (s:=sz) ht.p (parts.map λp=>a.eval p.2) 0 ((Array.range (parts.length*sz)).map ((if parts.length*sz=0 then #[] else zz.cells)[· %(if parts.length*sz=0 then #[] else zz.cells).size]!))
   (by intro v hv;simp at hv;obtain⟨i,x,hm,rfl⟩:=hv;exact hcell (i,x) hm) (by simp)
  refine⟨.slice (some ⟨w.heap.size,0,none⟩) parts.length parts.length,.cells r e,parts.length,?_,⟨_,_,zK _ _ _ _,rfl⟩,?_⟩
  .have hroom:¬parts.length*ii.size>2^24:=by rw[i2];omega
   by_cases h0:parts.length*sz=0
   .simp only[execOp,Instr.buildSlice]
    simp[underlying,ht.u,fm i1,i2,h0,newRow]
    simp[h0] at f1
    have:parts=[]:=by
     have:=ht.p
     rcases Nat.mul_eq_zero.1 h0 with h|h
     .exact aaL h
     omega
    subst this
    simp at f1 ⊢
    simp[Instr.fill] at f1 ⊢
    subst f1
    simp
   simp only[execOp,Instr.buildSlice]
   have hroom':¬16777216<parts.length*sz:=by omega
   simp only[h0,if_false] at f1
   rw[<-hparts] at f1
   simp[underlying,ht.u,fm i1,i2,h0,hroom',newRow,zeroValue,typeInfo,i1,i4,f1]
  refine⟨_,_,r,zK _ _ _ _,sZ _ _,by simp[f2],by rw[m1,hv];exact aah _,?_,hsz,?_,λ_=>yb ok _ _,λh=>by cases h⟩
  .have:=ht.p
   have:parts.length<=parts.length*sz:=Nat.le_mul_of_pos_right _ this
   unfold maxLen;omega
  refine ww hsz λi e' hi'=>oT λj xd hj=>?_
  obtain⟨v,g',n1,n2,n3⟩:=m2 i e' hi'
  obtain⟨p,q1,q2⟩:=hval i v n1
  obtain⟨r1,r2,r3⟩:=Wh ok n2 q2
  obtain⟨c,s1,s2⟩:=r3 j xd hj
  have hjs:j<sz:=by rw[<-hsz e' (aab hi')];exact(aaa.1 hj).1
  have hil:i<parts.length:=(aaa.1 q1).1
  refine⟨c,?_,?_⟩
  .rw[fa (sZ w _),f3]
   have hlt:0+i*sz+j<(0+(parts.map λp=>a.eval p.2).length)*sz:=by
    simp only[aay,aaj]
    calc i*sz+j<i*sz+sz:=by omega
     _=(i+1)*sz:=by rw[aaP];omega
     _<=parts.length*sz:=aaS _ hil
   rw[if_pos ⟨by simp,hlt⟩]
   have hdiv:(0+i*sz+j)/sz=i:=by
    rw[aaj,aa2,Nat.add_mul_div_right _ _ ht.p,Nat.div_eq_of_lt hjs];omega
   have hmod:(0+i*sz+j)%sz=j:=by
    rw[aaj,aa2,aa4];exact aa6 hjs
   rw[hdiv,hmod]
   simp[q1,s1]
  have h9:=pF ok s2 n3
  exact cW (λb hb=>Below.heap_alloc _ _ b (ok.hb hb)) (λb hb=>(Jj ok hl (.cells r e) parts.length).H hb) _ _ h9
theorem n_make {zd:List D} {k k':IntKind} {c:Int} [ht:eB P t e sz by_] [he:TyE P e zd] (hc:n<=c) (hb:(by_:Int)*c<=281474976710656) (h63:c<=9223372036854775807):
 AWN P ⟨d,.makeSlice t x y,ty,ps,af,gd⟩ [(x,.v (.c (.d g (.i k n)))),(y,.v (.c (.d g' (.i k' c))))] [] (.v (.c (.w l n))) [(l,.row e sz (aaf n zd) true true)]:=
 AL λcx E a w ok hn _ hl=>by
  obtain⟨ii,zz,i1,i2,i3,i4,i5⟩:=ht.i
  obtain⟨i',z',j1,j2,j3⟩:=he.h
  rw[i1] at j1;cases j1
  rw[i4] at j2;cases j2
  have h1:=iY (hn x _ (.head _))
  have h2:=iY (hn y _ (.tail _ (.head _)))
  have hzl:=(z0 (w:=w) (F:=λ_=>True) j3).1
  have hzd:zd.length=sz:=by rw[<-hzl];simpa using i5
  have hsz:∀x∈aaf n zd,x.length=sz:=λx hx=>by rw[aa5 hx];exact hzd
  refine⟨.slice (some ⟨w.heap.size,0,none⟩) n c.toNat,.cells (madeCells zz.cells (c.toNat*sz)) e,c.toNat,?_,⟨_,_,zK _ _ _ _,rfl⟩,?_⟩
  .have:=run_make (P:=P) w t e ii zz ht.u i1 i4 k k' n c oaa hc (by rw[i3];exact hb) h63
   simp[execOp,h1,h2,this,i2]
  refine⟨_,_,_,zK _ _ _ _,sZ _ _,by simp[size_madeCells],by simp;omega,by unfold maxLen;omega,hsz,?_,λ_=>yb ok _ _,λh=>by cases h⟩
  refine ww hsz λi e' hi'=>oT λj xd hj=>?_
  have hin:i<n:=by simpa using(aaa.1 hi').1
  have he':e'=zd:=aa5 (aab hi')
  subst he'
  obtain⟨u,u1,u2⟩:=(z0 (w:=w.alloc (.cells (madeCells zz.cells (c.toNat*sz)) e)) (F:=(E.new l w.heap.size c.toNat).H true) j3).2 j xd hj
  have hjs:j<sz:=by rw[<-hzd];exact(aaa.1 hj).1
  refine⟨u,?_,u2⟩
  rw[fa (sZ w _)]
  have hlt:0+i*sz+j<c.toNat*sz:=by
   calc 0+i*sz+j<i*sz+sz:=by omega
    _=(i+1)*sz:=by rw[aaP];omega
    _<=c.toNat*sz:=aaS _ oaa
  have hmod:(0+i*sz+j)%zz.cells.size=j:=by
   rw[i5,aaj,aa2,aa4];exact aa6 hjs
  have hzj:zz.cells[j]?=some u:=by simpa using u1
  have hzs:j<zz.cells.size:=by rw[i5];exact hjs
  simp only[madeCells,Array.getElem?_map,Array.getElem?_range,if_pos hlt,Option.map_some,hmod]
  rw[getElem!_pos zz.cells j hzs]
  rw[aar hzs] at hzj
  simpa using hzj
end
class TyN (P:Program) (t:TypeId) (n:outParam Nat):Prop where
 n:∃i,P.info? t=some i/\i.size=n
theorem ea (w:World) (b k:Nat) (cs:Array Value) (h:k≠b):(w.setRow b cs).heap[k]?=w.heap[k]?:=by
 simp only[World.setRow,Array.getElem?_modify]
 grind
theorem jm {b:Nat} {arr:Array Value} (cs:Array Value) (h:w.heap[b]?=some (.cells arr t (0,0))):(w.setRow b cs).heap[b]?=some (.cells cs t (0,0)):=
 setRow_heap w b arr cs t (0,0) h
section
variable {P:Program} {N:Nat} {d:Option Tmp} {ty:TypeId} {ps:String} {af:Array Edge} {gd:Option (Nat×Bool)} {x y z:Operand} {st:St}
theorem ku {cx:Cx} {o b c:Nat} {cs:Array Value} (ok:dJ cx E w) (hr:E.r o=some (b,c)) (hF:¬E.F b):lf E w E (w.setRow b cs):=
 ⟨λ_ _ h=>h,λ_ _ h=>h,λg k hk=>ea w b k cs (λe=>by
  subst e
  cases g
  .exact hF hk
  .exact hF (ok.gf _ hk)),λl k hk=>⟨hk,ea w b k cs (λe=>by subst e;exact(ok.sf.tb l k hk).2.2.1 o c hr)⟩,
  λk hk=>⟨hk,.of_eq (ea w b k cs (λe=>by subst e;exact(ok.sf.zb k hk).2.2.1 o c hr))⟩,rfl⟩
theorem Dk.setRow {cx:Cx} {o b c:Nat} {cs:Array Value} (s:Dk cx E w) (hr:E.r o=some (b,c)):Dk cx E (w.setRow b cs):=by
 have hsz:(w.setRow b cs).heap.size=w.heap.size:=by simp
 refine⟨λl k h=>?_,s.tt,λk h=>?_,λk h=>?_,s.ze⟩
 .obtain⟨h1,h2,h3,h4⟩:=s.tb l k h
  exact⟨by omega,h2,h3,h4.of_eq (ea w b k cs (λe=>by simp_all))⟩
 .obtain⟨h1,h2,h3,h4⟩:=s.zc k h
  exact⟨by simp_all,h2,h3,h4.of_eq (ea w b k cs (λe=>by simp_all))⟩
 obtain⟨h1,h2,h3,h4⟩:=s.zc k h
 exact(s.zs k h).trans (.of_eq (ea w b k cs (λe=>by simp_all)))
theorem wx {cx:Cx} {o b c:Nat} {ob':Ob} {cs:Array Value} (hR:Rel N cx E st a w) (hr:E.r o=some (b,c)) (hF:¬E.F b)
 (h':dm E (w.setRow b cs) o ob'):Rel N cx E ⟨st.sl,(o,ob')::st.ob,st.nx⟩ a (w.setRow b cs):=by
 have hk:=ku (cs:=cs) (w:=w) hR.ok hr hF
 have hsz:(w.setRow b cs).heap.size=w.heap.size:=by simp
 refine⟨⟨λk hk=>by rw[hsz];exact hR.ok.fb k hk,hR.ok.gf,hR.ok.gn,λo b c h=>by rw[hsz];exact hR.ok.rb o b c h,hR.ok.inj,hR.ok.os,hR.ok.tape,hR.ok.output,by rw[hsz];exact hR.ok.size,λk hk hW=>?_,hR.ok.pin,hR.ok.ff,λk hg hk'=>(hR.ok.gc k hg hk').of_eq (ea w b k cs (λe=>hF (by simp_all))),hR.ok.sf.setRow hr⟩,hR.dom,λl ob hl=>?_,λk=>kT hk (hR.sl k),hR.dfr,hR.size,hR.td⟩
 .rw[ea _ _ _ _ (λe=>by
   subst e
   rcases(hR.ok.rb o k c hr).2 with h|h
   .omega
   simp_all)]
  exact hR.ok.block k hk hW
 by_cases ho:o=l
 .subst ho;rw[cU] at hl;simp_all
 rw[b7 _ _ ho] at hl
 exact gU hk (λb' c' h=>ea _ _ _ _ (λe=>ho (by subst e;exact hR.ok.inj _ _ _ _ _ hr h))) (λ_ _ _ h=>h) (hR.obs l ob hl)
theorem uE {b:Nat} {arr:Array Value} [ht:TyN P t n] (hu:u.cells.size=n) (h1:∀c∈u.cells.toList,c.oneCell'=true) (hh:w.heap[b]?=some (.cells arr vt (0,0))) (hk:k+n<=arr.size):
 (Instr.storeAt t (.pointer (some ⟨b,k,none⟩)) u).run P w= .ok () (w.setRow b (arr.toList.take k++u.cells.toList++arr.toList.drop (k+n)).toArray):=by
 obtain⟨i,hi,hn⟩:=ht.n
 have:=run_storeCells_at (P:=P) b k vt u.cells.toList 0 arr w hh (by simp_all) h1
 simp only[aaT,Array.length_toList,hu] at this
 simp[Instr.storeAt,Instr.sureAddr,storeVar,fm hi,hn,hu,this]
theorem SU {v:V} {ns:List C} (h:vcs v=some ns) (hs:ns.all C.sto=true) (hv:cvV E w v u):∀c∈u.cells.toList,c.oneCell'=true:=by
 have hc:=Kv h hv
 have key:∀(ns:List C) (us:Lae),ns.all C.sto=true->CV E w ns us->∀c∈us,c.oneCell'=true:=by
  intro ns
  induction ns with
  |nil=>intro us _ hc;cases us with
   |nil=>simp
   |cons _ _=>exact hc.elim
  |cons n ns ih=>
   intro us hs hc
   cases us with
   |nil=>exact hc.elim
   |cons u us=>
    simp only[aaK,hV] at hs
    intro c hm
    rcases aae.1 hm with rfl|hm
    .exact(Ou hs.1 hc.1).1
    exact ih us hs.2 hc.2 c hm
 grind
theorem nq {us vs:Lae} (hn:us.length=n) (hk:k+n<=vs.length) (i:Nat):(vs.take k++us++vs.drop (k+n))[i]?=if k<=i/\i<k+us.length then us[i-k]? else vs[i]?:=by
 subst hn
 have hk':(vs.take k).length=k:=by simp;omega
 grind
theorem Rz {o:Nat} {cs' ns:List C} {v:V} [ht:TyN P t n] (hx:opT st.sl x= .v (.c (.p o k))) (hy:opT st.sl y= .v v) (ho:go st.ob o=some (.var vt cs)) (hv:vcs v=some ns)
 (hn:d0 ns.length n=true) (hst:ns.all C.sto=true) (hs:uW k ns cs=some cs'):AWO P N ⟨none,.store t x y,ty,ps,af,gd⟩ st ⟨st.sl,(o,.var vt cs')::st.ob,st.nx⟩:=by
 intro cx E a w hR
 have h1:=hR.op x;rw[hx] at h1
 have h2:=hR.op y;rw[hy] at h2
 obtain⟨b,c,hr,hu⟩:=h1
 obtain⟨b',c',arr,hr',hh,hcv,hF⟩:=hR.obs o _ ho
 rw[hr] at hr';cases hr'
 have hvc:=Kv hv h2
 have hl1:=jK hvc
 have hl2:=jK hcv
 have hnn:=aad hn
 have hle:=(uD hs).2
 have hsz:(a.eval y).cells.size=n:=by simp at hl1;omega
 have hrun:=uE (P:=P) (t:=t) (n:=n) (k:=k) hsz (SU hv hst h2) hh (by simp_all)
 unfold Oper.wp
 simp only[execOp,hu,Sem.run_bind,hrun,Result.andThen_ok,Sem.run_pure,Oper.upon_skip,Act.put]
 refine⟨E,wx hR hr hF ⟨b,c,_,hr,jm _ hh,?_,hF⟩⟩
 have hk:=ku (cs:=(arr.toList.take k++(a.eval y).cells.toList++arr.toList.drop (k+n)).toArray) (w:=w) hR.ok hr hF
 refine sq hk (BZ hs hvc hcv ?_ λi=>?_)
 .grind
 rw[show(arr.toList.take k++(a.eval y).cells.toList++arr.toList.drop (k+n)).toArray.toList=arr.toList.take k++(a.eval y).cells.toList++arr.toList.drop (k+n) from rfl]
 exact nq oaa oaa i
theorem fF {w:World} {F:Nat->Prop}:∀{xs:Lad} {b k:Nat},rdLL w F xs b k↔rdL w F xs.flatten b k
 |[],b,k=>by rfl
 |e::es,b,k=>by
  rw[rdLL,fF,List.flatten_cons]
  constructor
  .rintro⟨h1,h2⟩
   refine oT λj d hj=>?_
   by_cases hje:j<e.length
   .rw[aal hje] at hj;exact nO h1 hj
   rw[aan oaa] at hj
   have:=nO h2 hj
   grind
  intro h
  refine⟨oT λj d hj=>?_,oT λj d hj=>?_⟩
  .have hje:j<e.length:=(aaa.1 hj).1
   exact nO h (by grind)
  have:=nO (j:=e.length+j) h (by rw[aan oaa];simpa using hj)
  grind
theorem gO {xs:Lad} (h:∀e∈xs,e.length=sz):xs.flatten.length=xs.length*sz:=by
 rw[List.length_flatten];exact Qn h
theorem Ry {o:Nat} {rt:TypeId} {el' ns:List D} {v:V} [ht:TyN P t n] (hx:opT st.sl x= .v (.c (.e o sz i j))) (hy:opT st.sl y= .v v)
 (ho:go st.ob o=some (.row rt sz els g true)) (hv:vD v=some (ns,g')) (hn:d0 ns.length n=true) (he:els[i]?=some el) (hs:uW j ns el=some el'):
 AWO P N ⟨none,.store t x y,ty,ps,af,gd⟩ st ⟨st.sl,(o,.row rt sz (els.set i el') (g&&g') true)::st.ob,st.nx⟩:=by
 intro cx E a w hR
 have h1:=hR.op x;rw[hx] at h1
 have h2:=hR.op y;rw[hy] at h2
 obtain⟨b,c,hr,hu⟩:=h1
 obtain⟨b',c',arr,hr',hh,ha,hlc,hmx,hes,hrd,hFm,_⟩:=hR.obs o _ ho
 rw[hr] at hr';cases hr'
 have hF:=hFm rfl
 obtain⟨v1,v2,v3⟩:=Wh hR.ok hv h2
 have hnn:=aad hn
 have hil:i<els.length:=(aaa.1 he).1
 have hel:el.length=sz:=hes el (aab he)
 obtain⟨hsp,hle⟩:=uD hs
 have hel':el'.length=sz:=by rw[hsp];simp;omega
 have hbound:i*sz+j+n<=arr.size:=by
  rw[ha]
  calc i*sz+j+n<=i*sz+sz:=by omega
   _=(i+1)*sz:=by grind
   _<=c*sz:=aaS _ oaa
 have hrun:=uE (P:=P) (t:=t) (n:=n) (k:=i*sz+j) oaa v2 hh hbound
 unfold Oper.wp
 simp only[execOp,hu,Sem.run_bind,hrun,Result.andThen_ok,Sem.run_pure,Oper.upon_skip,Act.put]
 have hk:=ku (cs:=(arr.toList.take (i*sz+j)++(a.eval y).cells.toList++arr.toList.drop (i*sz+j+n)).toArray) (w:=w) hR.ok hr hF
 have hes':∀e∈els.set i el',e.length=sz:=λe hm=>by
  grind
 refine⟨E,wx hR hr hF ⟨b,c,_,hr,jm _ hh,?_,by simp_all,hmx,hes',?_,λ_=>hF,λh=>by cases h⟩⟩
 .grind
 refine ww hes' λi' e' hi'=>oT λj' xd hj'=>?_
 rw[fa (jm _ hh)]
 have hj'l:j'<sz:=by rw[<-hes' e' (aab hi')];exact(aaa.1 hj').1
 rw[List.getElem?_toArray,nq (by simp;omega) (by simp;omega)]
 have hlen:(a.eval y).cells.toList.length=n:=by simp;omega
 rw[hlen,aaj]
 rw[List.getElem?_set] at hi'
 by_cases hii:i=i'
 .subst hii
  rw[if_pos rfl,if_pos hil] at hi'
  cases hi'
  rw[MB hs] at hj'
  by_cases hin:j<=j'/\j'<j+ns.length
  .rw[if_pos hin] at hj'
   obtain⟨u,u1,u2⟩:=v3 _ _ hj'
   refine⟨u,?_,?_⟩
   .grind
   exact cW (hk.heap _) (hk.H _) _ _ (pF hR.ok u2 (by simp))
  rw[if_neg hin] at hj'
  obtain⟨u,u1,u2⟩:=nO (rI hrd hes he) hj'
  refine⟨u,?_,?_⟩
  .rw[if_neg oaa];rw[fa hh] at u1;simp_all
  exact cW (hk.heap _) (hk.H _) _ _ (pF hR.ok u2 (by simp_all))
 rw[if_neg hii] at hi'
 obtain⟨u,u1,u2⟩:=nO (rI hrd hes hi') hj'
 refine⟨u,?_,?_⟩
 .have hel'':j'<sz:=hj'l
  rw[if_neg ?_]
  .rw[fa hh] at u1;simp_all
  rintro⟨k1,k2⟩
  rcases Nat.lt_or_gt_of_ne hii with h|h
  .have:(i+1)*sz<=i'*sz:=aaS _ h
   grind
  have:(i'+1)*sz<=i*sz:=aaS _ h
  grind
 exact cW (hk.heap _) (hk.H _) _ _ (pF hR.ok u2 (by simp_all))
end
def C.has (o:Nat):C->Bool
 | .w l _| .s l _ _ _| .p l _| .e l _ _ _| .wn l _=>d0 l o
 |_=>false
def CR (o:Nat):List C->Bool
 |[]=>false
 |c::cs=>c.has o||CR o cs
def V.has (o:Nat):V->Bool
 | .c x=>x.has o
 | .agg cs=>CR o cs
def HR (o:Nat):List V->Bool
 |[]=>false
 |c::cs=>c.has o||HR o cs
def T.has (o:Nat):T->Bool
 | .v x=>x.has o
 | .tup ts=>HR o ts
 | .any=>false
def oO (o:Nat):Lab->Option Lab
 |[]=>some []
 |(k,t)::r=>match oO o r,t.has o with
  |some r',true=>some ((k,.any)::r')
  |some r',false=>some ((k,t)::r')
  |none,_=>none
def CX (o:Nat):List C->Option (List C)
 |[]=>some []
 |c::r=>match CX o r,c.has o with
  |some r',true=>some (.any::r')
  |some r',false=>some (c::r')
  |none,_=>none
def mC (o:Nat):Laa->Option Laa
 |[]=>some []
 |(k,.var t cs)::r=>match mC o r,CX o cs with
  |some r',some cs'=>some ((k,.var t cs')::r')
  |_,_=>none
 |(k,.row t sz els g m)::r=>match mC o r with
  |some r'=>some ((k,.row t sz els g m)::r')
  |none=>none
 |(k,.rown t sz els g)::r=>match mC o r with
  |some r'=>some ((k,.rown t sz els g)::r')
  |none=>none
 |(k,.abs l y)::r=>match mC o r with
  |some r'=>some ((k,.abs l y)::r')
  |none=>none
theorem xX {o:Nat}:∀{sl sl':Lab},oO o sl=some sl'->∀k,gt sl' k= .any\/(gt sl' k=gt sl k/\(gt sl k).has o=false)
 |[],sl',h,k=>by simp[oO] at h;subst h;exact .inl rfl
 |(j,t)::r,sl',h,k=>by
  simp only[oO] at h
  cases h1:oO o r with
  |none=>simp[h1] at h
  |some r'=>
   have ih:=xX h1 k
   cases h2:t.has o with
   |true=>
    simp[h1,h2] at h;subst h
    by_cases hj:j=k
    .subst hj;rw[d4];exact .inl rfl
    rw[di _ _ hj,di _ _ hj];exact ih
   |false=>
    simp[h1,h2] at h;subst h
    by_cases hj:j=k
    .subst hj;rw[d4,d4];exact .inr ⟨rfl,h2⟩
    rw[di _ _ hj,di _ _ hj];exact ih
def Env.upd (E:Env) (o b c:Nat):Env:={E with r:=λl=>if l=o then some (b,c) else E.r l}
structure og (o:Nat) (E:Env) (w:World) (E':Env) (w':World):Prop where
 r:∀l x,l≠o->E.r l=some x->E'.r l=some x
 H:∀g b,E.H g b->E'.H g b
 heap:∀g b,E.H g b->w'.heap[b]?=w.heap[b]?
 T:∀l b,E.T l b->E'.T l b/\w'.heap[b]?=w.heap[b]?
 Z:∀b,E.Z b->E'.Z b/\sv w w' b
 n:∀l,l≠o->(E'.n l↔E.n l)
theorem Dk.turn {cx:Cx} (s:Dk cx E w) {o b c:Nat} (h0:E.r o=some (b,c)) (hT:E'.T=E.T) (hZ:E'.Z=E.Z) (hF:∀b,E'.F b->E.F b\/w.heap.size<=b) (hr:∀o b c,E'.r o=some (b,c)->(∃o' c',E.r o'=some (b,c'))\/w.heap.size<=b)
 (hs:w.heap.size<=w'.heap.size) (hh:∀k,k<w.heap.size->k≠b->w'.heap[k]?=w.heap[k]?):Dk cx E' w':=by
 refine⟨λl k h=>?_,λl l' k h h'=>?_,λk h=>?_,λk h=>?_,λk h=>s.ze k (hZ▸h)⟩
 .rw[hT] at h
  obtain⟨⟨h1,h2⟩,h3,h4,h5⟩:=s.tb l k h
  refine⟨⟨by omega,h2⟩,λhf=>?_,λo c ho=>?_,h5.of_eq (hh k h1 (λe=>by subst e;exact h4 o c h0))⟩
  .rcases hF k hf with k|k
   .exact h3 k
   omega
  rcases hr o k c ho with⟨o',c',k⟩|k
  .exact h4 o' c' k
  omega
 .rw[hT] at h h';exact s.tt l l' k h h'
 .obtain⟨⟨h1,h2,h2'⟩,h3,h4,h5⟩:=s.zc k h
  refine⟨⟨h1,by omega,h2'⟩,λhf=>?_,λo c ho=>?_,h5.of_eq (hh k h2 (λe=>by subst e;exact h4 o c h0))⟩
  .rcases hF k hf with k|k
   .exact h3 k
   omega
  rcases hr o k c ho with⟨o',c',k⟩|k
  .exact h4 o' c' k
  omega
 obtain⟨⟨h1,h2,h2'⟩,h3,h4,h5⟩:=s.zc k h
 exact(s.zs k h).trans (.of_eq (hh k h2 (λe=>by subst e;exact h4 o c h0)))
theorem jD {o:Nat} (h:d0 l o=false):l≠o:=λe=>by subst e;simp at h
theorem IZ {o:Nat} (x:og o E w E' w'):∀{c:C} {u:Value},c.has o=false->cvC E w c u->cvC E' w' c u
 | .d g d,u,_,h=>cW (x.heap g) (x.H g) d u h
 | .w l n,u,hl,⟨b,c,h,hu⟩=>⟨b,c,x.r _ _ (jD hl) h,hu⟩
 | .s l sz off len,u,hl,⟨A,c,b,k,h,hu⟩=>⟨A,c,b,k,x.r _ _ (jD hl) h,hu⟩
 | .p l k,u,hl,⟨b,c,h,hu⟩=>⟨b,c,x.r _ _ (jD hl) h,hu⟩
 | .e l sz i j,u,hl,⟨b,c,h,hu⟩=>⟨b,c,x.r _ _ (jD hl) h,hu⟩
 | .q g y j,u,_,⟨b,k,hu,hb,h⟩=>⟨b,k,hu,x.H g b hb,rdL_mono (x.heap g) (x.H g) y b k hb h⟩
 | .fn f,u,_,h=>h
 | .nil,u,_,h=>h
 | .any,u,_,_=>trivial
 | .r l d,u,_,h=>cW (λb hb=>(x.T l b hb).2) (λb hb=>(x.T l b hb).1) d u h
 | .z d,u,_,h=>vy (λb hb=>(x.Z b hb).2) (λb hb=>(x.Z b hb).1) d u h
 | .zq y j,u,_,⟨b,k,hu,hb,h⟩=>⟨b,k,hu,(x.Z b hb).1,rsL_mono (λb hb=>(x.Z b hb).2) (λb hb=>(x.Z b hb).1) y b k hb h⟩
 | .wn l n,u,hl,.inl ⟨h1,h2⟩=>.inl ⟨(x.n l (jD hl)).2 h1,h2⟩
 | .wn l n,u,hl,.inr ⟨h1,b,c,h,hu⟩=>.inr ⟨λk=>h1 ((x.n l (jD hl)).1 k),b,c,x.r _ _ (jD hl) h,hu⟩
theorem M7 {o:Nat} {E E':Env} {w w':World} (x:og o E w E' w'):∀{cs:List C} {us:Lae},CR o cs=false->CV E w cs us->CV E' w' cs us
 |[],[],_,_=>trivial
 |c::cs,u::us,hl,h=>by
  simp only[CR,aaq] at hl
  exact⟨IZ x hl.1 h.1,M7 x hl.2 h.2⟩
 |[],_::_,_,h=>h.elim
 |_::_,[],_,h=>h.elim
theorem OV {o:Nat} (x:og o E w E' w') {v:V} (hl:v.has o=false) (h:cvV E w v u):cvV E' w' v u:=by
 cases v with
 |c c=>exact IZ x hl h
 |agg cs=>obtain⟨arr,hu,h⟩:=h;exact⟨arr,hu,M7 x hl h⟩
theorem Tb {o:Nat} {E E':Env} {w w':World} (x:og o E w E' w'):∀{cs:List V} {us:Lae},HR o cs=false->VV E w cs us->VV E' w' cs us
 |[],[],_,_=>trivial
 |c::cs,u::us,hl,h=>by
  simp only[HR,aaq] at hl
  exact⟨OV x hl.1 h.1,Tb x hl.2 h.2⟩
 |[],_::_,_,h=>h.elim
 |_::_,[],_,h=>h.elim
theorem Ja {o:Nat} (x:og o E w E' w') {t:T} (hl:t.has o=false) (h:cvT E w t u):cvT E' w' t u:=by
 cases t with
 |v v=>exact OV x hl h
 |tup ts=>obtain⟨arr,hu,h⟩:=h;exact⟨arr,hu,Tb x hl h⟩
 |any=>trivial
theorem yW {o:Nat} {E E':Env} {w w':World} (x:og o E w E' w'):∀{cs cs':List C} {us:Lae},CX o cs=some cs'->CV E w cs us->CV E' w' cs' us
 |[],cs',us,h,hc=>by simp[CX] at h;subst h;cases us with
  |nil=>trivial
  |cons _ _=>exact hc.elim
 |c::cs,cs',us,h,hc=>by
  cases us with
  |nil=>exact hc.elim
  |cons u us=>
   simp only[CX] at h
   cases h1:CX o cs with
   |none=>simp[h1] at h
   |some r=>
    cases h2:c.has o with
    |true=>simp[h1,h2] at h;subst h;exact⟨trivial,yW x h1 hc.2⟩
    |false=>simp[h1,h2] at h;subst h;exact⟨IZ x h2 hc.1,yW x h1 hc.2⟩
theorem vj {o:Nat}:∀{ob ob':Laa},mC o ob=some ob'->∀{l:Nat} {x:Ob},go ob' l=some x->
 (∃t cs cs',go ob l=some (.var t cs)/\CX o cs=some cs'/\x= .var t cs')\/(∃t sz els g m,go ob l=some (.row t sz els g m)/\x= .row t sz els g m)\/(∃t sz els g,go ob l=some (.rown t sz els g)/\x= .rown t sz els g)\/(∃k y,go ob l=some (.abs k y)/\x= .abs k y)
 |[],ob',h,l,x,hl=>by simp[mC] at h;subst h;cases hl
 |(k,.var t cs)::r,ob',h,l,x,hl=>by
  simp only[mC] at h
  cases h1:mC o r with
  |none=>simp[h1] at h
  |some r'=>
   cases h2:CX o cs with
   |none=>simp[h1,h2] at h
   |some cs'=>
    simp[h1,h2] at h;subst h
    by_cases hk:k=l
    .subst hk;rw[cU] at hl ⊢;cases hl;exact .inl ⟨t,cs,cs',rfl,h2,rfl⟩
    rw[b7 _ _ hk] at hl ⊢;exact vj h1 hl
 |(k,.row t sz els g m)::r,ob',h,l,x,hl=>by
  simp only[mC] at h
  cases h1:mC o r with
  |none=>simp[h1] at h
  |some r'=>
   simp[h1] at h;subst h
   by_cases hk:k=l
   .subst hk;rw[cU] at hl ⊢;cases hl;exact .inr (.inl ⟨t,sz,els,g,m,rfl,rfl⟩)
   rw[b7 _ _ hk] at hl ⊢;exact vj h1 hl
 |(k,.rown t sz els g)::r,ob',h,l,x,hl=>by
  simp only[mC] at h
  cases h1:mC o r with
  |none=>simp[h1] at h
  |some r'=>
   simp[h1] at h;subst h
   by_cases hk:k=l
   .subst hk;rw[cU] at hl ⊢;cases hl;exact .inr (.inr (.inl ⟨t,sz,els,g,rfl,rfl⟩))
   rw[b7 _ _ hk] at hl ⊢;exact vj h1 hl
 |(k,.abs j y)::r,ob',h,l,x,hl=>by
  simp only[mC] at h
  cases h1:mC o r with
  |none=>simp[h1] at h
  |some r'=>
   simp[h1] at h;subst h
   by_cases hk:k=l
   .subst hk;rw[cU] at hl ⊢;cases hl;exact .inr (.inr (.inr ⟨j,y,rfl,rfl⟩))
   rw[b7 _ _ hk] at hl ⊢;exact vj h1 hl
section
variable {P:Program} {N:Nat} {d:Tmp} {ty:TypeId} {ps:String} {af:Array Edge} {gd:Option (Nat×Bool)} {x y z:Operand} {st:St}
inductive Src (ob:Laa):C->Lad->Bool->Prop
 |d {g:Bool} {ys:Lad}:Src ob (.d g (.l ys)) ys g
 |nil:Src ob .nil [] true
 |w {o n:Nat} {t sz:Nat} {els:Lad} {g m:Bool} (h:go ob o=some (.row t sz els g m)) (hn:els.length=n):Src ob (.w o n) els g
 |s {o off len:Nat} {t sz:Nat} {els:Lad} {g m:Bool} (h:go ob o=some (.row t sz els g m)) (hn:off+len<=els.length):Src ob (.s o sz off len) ((els.drop off).take len) g
 |wn {o n:Nat} {t sz:Nat} {els:Lad} {g:Bool} (h:go ob o=some (.rown t sz els g)) (hn:els.length=n):Src ob (.wn o n) els g
theorem D3 (hob:∀l x,go nob l=some x->dm E w l x) {c:C} (h:Src nob c ys g) (hu:cvC E w c u):
 ∃A k,u= .slice A ys.length k/\ys.length<=k/\(ys=[]\/∃b off,A=some ⟨b,off,none⟩/\rdLL w (E.H g) ys b off):=by
 cases h with
 |d=>
  simp only[cvC,rdD] at hu
  obtain⟨A,c,rfl,h1,h2⟩:=hu
  refine⟨A,c,rfl,h1,?_⟩
  rcases h2 with h2|⟨b,off,h3,_,h4⟩
  .exact .inl h2
  exact .inr ⟨b,off,h3,h4⟩
 |nil=>have:u= .slice none 0 0:=hu;subst this;exact⟨none,0,rfl,aah _,.inl rfl⟩
 |w h hn=>
  obtain⟨b,c,hr,rfl⟩:=hu
  obtain⟨b',c',arr,hr',hh,ha,hlc,hmx,hes,hrd,_⟩:=hob _ _ h
  rw[hr] at hr';cases hr'
  exact⟨_,_,by rw[hn],hlc,.inr ⟨b,0,rfl,hrd⟩⟩
 |s h hn=>
  rename_i o off len t sz els m
  obtain⟨A,c,b,k,hr,rfl,hlc',hA⟩:=hu
  obtain⟨b',c',arr,hr',hh,ha,hlc,hmx,hes,hrd,_⟩:=hob _ _ h
  rw[hr] at hr';cases hr'
  have hl:((els.drop off).take len).length=len:=by simp;omega
  refine⟨A,c,by rw[hl],by rw[hl];exact hlc',?_⟩
  rcases hA with h0|h0
  .left;exact aaL (by rw[hl];exact h0)
  right;exact⟨b,off*sz,h0,by simpa using pS len (Cr hrd hes off)⟩
 |wn h hn=>
  rcases hu with⟨h0,rfl,rfl⟩|⟨h0,b,c,hr,rfl⟩
  .exact⟨none,0,by rw[hn],by omega,.inl (aaL hn)⟩
  rcases hob _ _ h with⟨h1,_⟩|⟨_,b',c',arr,hr',hh,ha,hlc,hmx,hes,hrd,_⟩
  .exact absurd h1 h0
  rw[hr] at hr';cases hr'
  exact⟨_,_,by rw[hn],hlc,.inr ⟨b,0,rfl,hrd⟩⟩
theorem Ot {cx:Cx} (hR:Rel N cx E st a w) {c:C} (h:Src st.ob c ys g) (hu:cvC E w c u):
 ∃A k,u= .slice A ys.length k/\ys.length<=k/\(ys=[]\/∃b off,A=some ⟨b,off,none⟩/\rdLL w (E.H g) ys b off):=
 D3 (λl x h=>hR.obs l x h) h hu
theorem s6 {base:Nat} {ty e:TypeId} {i:TypeInfo} {size:Nat} (w:World) (ht:P.underlying t=some (.slice e)) (hi:P.info? e=some i)
 {v:Value} {xs:Lae} (hown:w.ownsRow base e size v n xs) (c:Nat):(Builtin.append_ #[t,t] ty #[v,.slice none 0 c]).run P w= .ok v w:=by
 rcases hown.2 with⟨rfl,rfl⟩|⟨g,cap,cur,rfl,_,_,hnc,_⟩
 .simp[Builtin.append_,run_underlying ht,sizeOf,typeInfo,hi,Builtin.lenOf,Builtin.firstCells]
 simp[Builtin.append_,run_underlying ht,sizeOf,typeInfo,hi,Builtin.lenOf,Builtin.firstCells,hnc,storeCells]
theorem vw {F:Nat->Prop} {e:List D} {b:Nat} (h:rdL w F e b k):∃us:Lae,us.length=e.length/\(∀(j:Nat) (u:Value),us[j]?=some u->w.cell? ((⟨b,k,none⟩:Addr).add j)=some u)/\
 (∀u∈us,u.oneCell'=true)/\∀(j:Nat) (xd:D),e[j]?=some xd->∃u,us[j]?=some u/\rdD w F xd u:=by
 obtain⟨us,h1,h2,h3⟩:=By h
 refine⟨us,h1,λj u hj=>by rw[vS];exact h2 j u hj,λu hu=>?_,h3⟩
 obtain⟨j,hj⟩:=aap hu
 have hjl:j<us.length:=(aaa.1 hj).1
 obtain⟨v,k1,k2⟩:=h3 j e[j] (v0 oaa)
 rw[hj] at k1;cases k1
 exact wv k2
theorem CM {cx:Cx} (hR:Rel N cx E st a w) {o:Nat} {gy:Bool} {c:C} [ht:eB P t e sz by_] (hrv:rsp o=false) (hd:d<N)
 {b cc:Nat} {arr:Array Value} (hr:E.r o=some (b,cc)) (hu:a.eval x= .slice (some ⟨b,0,none⟩) n cc) (hh:w.heap[b]?=some (.cells arr e (0,0))) (ha:arr.size=cc*sz) (hlc:els.length<=cc) (hmx:cc<=maxLen) (hes:∀e∈els,e.length=sz) (hrd:rdLL w (E.H g) els b 0) (hF:¬E.F b)
 (hy:opT st.sl y= .v (.c c)) (hs:Src st.ob c ys gy) (hk:oO o st.sl=some sl') (hkb:mC o st.ob=some ob')
 (hn:els.length=n) (hsz:∀e∈ys,e.length=sz) (hb:(n+ys.length)*by_<=140737488355328) (h63:n+ys.length<=9223372036854775807):
 Oper.wp P ⟨some d,.call ⟨.builtin .append,#[x,y],#[t,t]⟩,ty,ps,af,gd⟩ a w (λa' w'=>∃E',Rel N cx E' ⟨(d,.v (.c (.w o (n+ys.length))))::sl',(o,.row e sz (els++ys) (g&&gy) true)::ob',st.nx⟩ a' w') (λ_ _ _=>False):=by
 have h2:=hR.op y;rw[hy] at h2
 obtain⟨A,k,hv,hyk,hA⟩:=Ot hR hs h2
 obtain⟨ii,zz,i1,i2,i3,i4,i5⟩:=ht.i
 have hbl:=(hR.ok.rb o b cc hr)
 have hown:w.ownsRow 0 e sz (.slice (some ⟨b,0,none⟩) n cc) n (arr.toList.take (n*sz)):=
  ⟨by simp[ha];rw[aaF oaa],.inr ⟨b,cc,arr,rfl,aas _,hh,by omega,hmx,ha,rfl⟩⟩
 have hsrc:∃news:Lae,news.length=ys.length*sz/\(∀u∈news,u.oneCell'=true)/\(∀(j:Nat) (xd:D),ys.flatten[j]?=some xd->∃u,news[j]?=some u/\rdD w (E.H gy) xd u)/\
  ∃v' w',(Builtin.append_ #[t,t] ty #[.slice (some ⟨b,0,none⟩) n cc,.slice A ys.length k]).run P w= .ok v' w'/\w'.ownsRow 0 e sz v' (n+ys.length) (arr.toList.take (n*sz)++news)/\w.grownBy w' (some b)/\v'≠.slice none 0 0/\(v'.ownBlock=some b\/v'.ownBlock=some w.heap.size):=by
  have hgood:∀ad,A=some ad->∀news:Lae,news.length=ys.length*sz->(∀(j:Nat) (u:Value),news[j]?=some u->w.cell? (ad.add j)=some u)->(∀u∈news,u.oneCell'=true)->
   ∃v' w',(Builtin.append_ #[t,t] ty #[.slice (some ⟨b,0,none⟩) n cc,.slice A ys.length k]).run P w= .ok v' w'/\w'.ownsRow 0 e sz v' (n+ys.length) (arr.toList.take (n*sz)++news)/\w.grownBy w' (some b)/\v'≠.slice none 0 0/\(v'.ownBlock=some b\/v'.ownBlock=some w.heap.size):=by
   intro ad hAd news n1 n2 n3
   obtain⟨v',w',r1,r2,r3,r4,r5⟩:=run_append_own_at (P:=P) w 0 t ty e ii zz sz by_ ht.u i1 i4 i2 i3 i5 ht.p _ n _ hown ad ys.length k news n1 n2 n3 (by unfold maxLen;omega) hb (aas _)
   exact⟨v',w',by rw[hAd];exact r1,r2,r3,(λh=>by have h9:=(r4.1 h).1;simp at h9),r5⟩
  rcases hA with h0|⟨b2,off,rfl,hrd2⟩
  .subst h0
   refine⟨[],by simp,by simp,by simp,?_⟩
   cases A with
   |none=>exact⟨_,w,s6 w ht.u i1 hown k,by simpa using hown,⟨rfl,rfl,rfl,aah _,λ_ _ _=>rfl⟩,by simp,.inl rfl⟩
   |some ad=>exact hgood ad rfl [] (by simp) (by simp) (by simp)
  obtain⟨us,q1,q2,q3,q4⟩:=vw (fF.1 hrd2)
  exact⟨us,by rw[q1,gO hsz],q3,q4,hgood _ rfl us (by rw[q1,gO hsz]) q2 q3⟩
 obtain⟨news,n1,n2,n3,v',w',r1,r2,r3,r4,r5⟩:=hsrc
 obtain⟨_,r2⟩:=r2
 rcases r2 with⟨rfl,_⟩|⟨bn,cap,cur,rfl,_,hhn,hcap,hcapm,hcur,htk⟩
 .exact absurd rfl r4
 unfold Oper.wp
 simp only[execOp,resolve,invoke,builtin,Sem.run_bind,Sem.run_pure,Result.andThen_ok,List.map_toArray,aaB,List.map_nil,hu,hv,r1,Oper.upon_value]
 have hbn:bn=b\/bn=w.heap.size:=by simpa [Value.ownBlock] using r5
 have hsame:∀k,k<w.heap.size->k≠b->w'.heap[k]?=w.heap[k]?:=λk hk hne=>r3.block k hk (λe=>hne (by injection e))
 have hnF:¬E.F bn:=by
  rcases hbn with rfl|rfl
  .exact hF
  exact λh=>by have:=hR.ok.fb _ h;omega
 have hbig:bn<w'.heap.size:=by
  rcases aao bn w'.heap.size with h|h
  .exact h
  rw[aaw h] at hhn;cases hhn
 have hnew:∀l bl cl,l≠o->E.r l=some (bl,cl)->bl≠bn:=by
  intro l bl cl hne hl e
  subst e
  rcases hbn with h|h
  .subst h;exact hne (hR.ok.inj l o _ _ _ hl hr)
  have:=(hR.ok.rb l bl cl hl).1;omega
 have hHb:∀g k,E.H g k->k≠b/\k<w.heap.size:=λg k hk=>⟨λe=>by subst e;cases g;exact hF hk;exact hF (hR.ok.gf _ hk),hR.ok.hb hk⟩
 have kb:og o E w (E.upd o bn cap) w':=⟨λl x hne hl=>by simp only[Env.upd];rw[if_neg hne];exact hl,λ_ _ h=>h,λg k hk=>hsame k (hHb g k hk).2 (hHb g k hk).1,λl k hk=>⟨hk,hsame k (hR.ok.sf.tb l k hk).1.1 (λe=>by subst e;exact(hR.ok.sf.tb l k hk).2.2.1 o _ hr)⟩,λk hk=>⟨hk,.of_eq (hsame k (hR.ok.sf.zb k hk).1.2.1 (λe=>by subst e;exact(hR.ok.sf.zb k hk).2.2.1 o _ hr))⟩,λ_ _=>Iff.rfl⟩
 refine⟨E.upd o bn cap,⟨λk hk=>aau (hR.ok.fb k hk) r3.size,hR.ok.gf,hR.ok.gn,λl bl cl hl=>?_,λl l' bl cl cl' hl hl'=>?_,by rw[r3.os];exact hR.ok.os,by rw[r3.tape];exact hR.ok.tape,by rw[r3.output];exact hR.ok.output,Nat.le_trans hR.ok.size r3.size,λk hk hW=>?_,λl xx hv hl=>by
  simp only[Env.upd] at hl
  split at hl
  .rename_i e;rw[e,hrv] at hv;cases hv
  exact hR.ok.pin l xx hv hl,hR.ok.ff,λk hk hk'=>(hR.ok.gc k hk hk').of_eq (hsame k (hHb false k hk).2 (hHb false k hk).1),hR.ok.sf.turn hr rfl rfl (λ_ h=>.inl h) (λl bl cl hl=>by
  simp only[Env.upd] at hl
  split at hl
  .cases hl
   rcases hbn with h|h
   .left;exact⟨o,_,h▸hr⟩
   right;omega
  exact .inl ⟨l,cl,hl⟩) r3.size hsame⟩,λl xx hl=>?_,λl ob hl=>?_,λk=>?_,hR.dfr,by simpa [Act.put] using hR.size,hR.td⟩
 .simp only[Env.upd] at hl
  split at hl
  .rename_i elo
   cases hl
   refine⟨hbig,?_⟩
   rcases hbn with h|h
   .rw[h,elo];exact hbl.2
   left;rw[h];exact hR.ok.size
  have:=hR.ok.rb l bl cl hl;exact⟨aau this.1 r3.size,this.2⟩
 .simp only[Env.upd] at hl hl'
  split at hl<;>split at hl'
  .omega
  .cases hl;rename_i e1 e2;exact absurd rfl (hnew l' _ _ e2 hl')
  .cases hl';rename_i e1 e2;exact absurd rfl (hnew l _ _ e1 hl)
  exact hR.ok.inj l l' bl cl cl' hl hl'
 .have hkb':k≠b:=λe=>by
   subst e
   rcases hbl.2 with h|h
   .omega
   exact hW h.1
  rw[hsame k (by have:=hR.ok.size;omega) hkb'];exact hR.ok.block k hk hW
 .simp only[Env.upd] at hl
  split at hl
  .rename_i e;subst e;exact hR.dom _ _ hr
  exact hR.dom l _ hl
 .by_cases hlo:o=l
  .subst hlo
   rw[cU] at hl;cases hl
   have hall:∀e'∈els++ys,e'.length=sz:=λe' he'=>by
    rcases aac.1 he' with h|h
    .exact hes e' h
    exact hsz e' h
   refine⟨bn,cap,cur,by simp[Env.upd],hhn,hcur,by simp;omega,hcapm,hall,?_,λ_=>hnF,λh=>by cases h⟩
   rw[fF]
   refine oT λj xd hj=>?_
   rw[aaj,fa hhn]
   rw[List.flatten_append] at hj
   have hfl:els.flatten.length=n*sz:=by rw[gO hes,hn]
   have hxs:(arr.toList.take (n*sz)).length=n*sz:=by simp[ha];rw[aaF oaa]
   have hcurj:∀u,(arr.toList.take (n*sz)++news)[j]?=some u->cur[j]?=some u:=by
    intro u hu
    rw[<-htk,aat] at hu
    split at hu
    .simpa using hu
    cases hu
   by_cases hjn:j<n*sz
   .rw[aal oaa] at hj
    obtain⟨u,u1,u2⟩:=nO (fF.1 hrd) hj
    rw[aaj,fa hh] at u1
    refine⟨u,hcurj u ?_,cW (kb.heap _) (kb.H _) _ _ (pF hR.ok u2 (by simp;intro a _;exact a))⟩
    rw[aal oaa,aat,if_pos hjn]
    simpa using u1
   rw[aan oaa,hfl] at hj
   obtain⟨u,u1,u2⟩:=n3 _ _ hj
   refine⟨u,hcurj u ?_,cW (kb.heap _) (kb.H _) _ _ (pF hR.ok u2 (by simp))⟩
   rw[aan oaa,hxs]
   exact u1
  rw[b7 _ _ hlo] at hl
  rcases vj hkb hl with⟨t',cs,cs',k1,k2,rfl⟩|⟨t',sz',els',g',m',k1,rfl⟩|⟨t',sz',els',g',k1,rfl⟩|⟨j',y',k1,rfl⟩
  .obtain⟨bl,cl,arrl,l1,l2,l3,l4⟩:=hR.obs l _ k1
   have hne:bl≠b:=λe=>hlo (by subst e;exact hR.ok.inj _ _ _ _ _ hr l1)
   exact⟨bl,cl,arrl,kb.r _ _ (Ne.symm hlo) l1,(hsame bl (hR.ok.rb _ _ _ l1).1 hne).trans l2,yW kb k2 l3,l4⟩
  .obtain⟨bl,cl,arrl,l1,l2,l3,l4,l5,l6,l7,l8,l9⟩:=hR.obs l _ k1
   have hne:bl≠b:=λe=>hlo (by subst e;exact hR.ok.inj _ _ _ _ _ hr l1)
   have hb2:=hsame bl (hR.ok.rb _ _ _ l1).1 hne
   exact⟨bl,cl,arrl,kb.r _ _ (Ne.symm hlo) l1,hb2.trans l2,l3,l4,l5,l6,cX (kb.heap _) (kb.H _) hb2 _ _ l7,l8,l9⟩
  .rcases hR.obs l _ k1 with h|⟨l0,bl,cl,arrl,l1,l2,l3,l4,l5,l6,l7,l8⟩
   .exact .inl h
   have hne:bl≠b:=λe=>hlo (by subst e;exact hR.ok.inj _ _ _ _ _ hr l1)
   have hb2:=hsame bl (hR.ok.rb _ _ _ l1).1 hne
   exact .inr ⟨l0,bl,cl,arrl,kb.r _ _ (Ne.symm hlo) l1,hb2.trans l2,l3,l4,l5,l6,cX (kb.heap _) (kb.H _) hb2 _ _ l7,l8⟩
  rcases hR.obs l _ k1 with h|⟨l0,bl,cl,l1,l2,l3⟩
  .exact .inl h
  have hne:bl≠b:=λe=>hlo (by subst e;exact hR.ok.inj _ _ _ _ _ hr l1)
  have hb2:=hsame bl (hR.ok.rb _ _ _ l1).1 hne
  exact .inr ⟨l0,bl,cl,kb.r _ _ (Ne.symm hlo) l1,y'.st _ _ _ _ _ _ l2 (λk hk=>(kb.T _ k hk).1) hb2 (λk hk=>(kb.T _ k hk).2),l3⟩
 rw[iJ (by rw[hR.size];exact hd)]
 by_cases hdk:d=k
 .subst hdk;rw[d4,if_pos rfl];exact⟨bn,cap,by simp[Env.upd],rfl⟩
 rw[di _ _ hdk,if_neg hdk]
 rcases xX hk k with h|⟨h,h'⟩
 .rw[h];trivial
 rw[h];exact Ja kb h' (hR.sl k)
theorem NM {o:Nat} {gy:Bool} {c:C} [ht:eB P t e sz by_] (hrv:rsp o=false) (hd:d<N)
 (hx:opT st.sl x= .v (.c (.w o n))) (hy:opT st.sl y= .v (.c c)) (ho:go st.ob o=some (.row e sz els g true)) (hs:Src st.ob c ys gy) (hk:oO o st.sl=some sl') (hkb:mC o st.ob=some ob')
 (hn:els.length=n) (hsz:∀e∈ys,e.length=sz) (hb:(n+ys.length)*by_<=140737488355328) (h63:n+ys.length<=9223372036854775807):
 AWO P N ⟨some d,.call ⟨.builtin .append,#[x,y],#[t,t]⟩,ty,ps,af,gd⟩ st ⟨(d,.v (.c (.w o (n+ys.length))))::sl',(o,.row e sz (els++ys) (g&&gy) true)::ob',st.nx⟩:=by
 intro cx E a w hR
 have h1:=hR.op x;rw[hx] at h1
 obtain⟨b,cc,hr,hu⟩:=h1
 obtain⟨b',c',arr,hr',hh,ha,hlc,hmx,hes,hrd,hFm,_⟩:=hR.obs o _ ho
 rw[hr] at hr';cases hr'
 exact CM hR hrv hd hr hu hh ha hlc hmx hes hrd (hFm rfl) hy hs hk hkb hn hsz hb h63
end
inductive AV where
 |c (x:D)
 |agg (xs:List D)
inductive RC where
 |d (x:D)
 |own (ty sz:Nat) (els:Lad) (n:Nat)
 |nil
inductive RV where
 |c (x:RC)
 |agg (xs:List RC)
variable {res:List Go.AM.RV}
abbrev aI (n:Int):AV:=.c (.i .i64 n)
abbrev aB (b:Bool):AV:=.c (.b b)
abbrev aL (xs:Lad):AV:=.c (.l xs)
abbrev rB (b:Bool):RV:=.c (.d (.b b))
def DV (w:World) (F:Nat->Prop):List D->Lae->Prop
 |[],[]=>True
 |x::xs,u::us=>rdD w F x u/\DV w F xs us
 |_,_=>False
def avR (w:World) (F:Nat->Prop):AV->Value->Prop
 | .c x,u=>rdD w F x u
 | .agg xs,u=>∃arr,u= .agg arr/\DV w F xs arr.toList
def AR (w:World) (F:Nat->Prop):List AV->Lae->Prop
 |[],[]=>True
 |x::xs,u::us=>avR w F x u/\AR w F xs us
 |_,_=>False
def rcR (w:World) (G:Nat->Prop) (base:Nat):RC->Value->Lac->Prop
 | .d x,u,bs=>bs=[]/\rdD w G x u
 | .own ty sz els n,u,bs=>∃b c arr,bs=[(b,c)]/\u= .slice (some ⟨b,0,none⟩) n c/\w.heap[b]?=some (.cells arr ty (0,0))/\arr.size=c*sz/\els.length<=c/\c<=maxLen/\
  (∀e∈els,e.length=sz)/\rdLL w G els b 0/\¬G b/\base<=b
 | .nil,u,bs=>bs=[]/\u= .slice none 0 0
def G4 (w:World) (G:Nat->Prop) (base:Nat):List RC->Lae->Lac->Prop
 |[],[],bs=>bs=[]
 |r::rs,u::us,bs=>∃b1 b2,bs=b1++b2/\rcR w G base r u b1/\G4 w G base rs us b2
 |_,_,_=>False
def rvR (w:World) (G:Nat->Prop) (base:Nat):RV->Value->Lac->Prop
 | .c r,u,bs=>rcR w G base r u bs
 | .agg rs,u,bs=>∃arr,u= .agg arr/\G4 w G base rs arr.toList bs
def DA (w:World) (G:Nat->Prop) (base:Nat):List RV->Lae->Lac->Prop
 |[],[],bs=>bs=[]
 |r::rs,u::us,bs=>∃b1 b2,bs=b1++b2/\rvR w G base r u b1/\DA w G base rs us b2
 |_,_,_=>False
def An (w:World) (G:Nat->Prop) (base:Nat):List RV->Value->Lac->Prop
 |[r],v,bs=>rvR w G base r v bs
 |rs,v,bs=>∃arr,v= .tuple arr/\DA w G base rs arr.toList bs
structure IK (w w':World) (W:Nat->Prop):Prop where
 os:w'.os=w.os
 tape:w'.tape=w.tape
 output:w'.output=w.output
 size:w.heap.size<=w'.heap.size
 block:∀b,b<w.heap.size->¬W b->w'.heap[b]?=w.heap[b]?
structure Fn (P:Program) (f:FuncId) (args:List AV) (res:List RV):Prop where
 enters:∀(vs:Array Value) (w:World),(callFunc f vs).run P w= .ok (.enter f vs) w
 calls:∀(F:Nat->Prop) (w:World) (vals:Array Value),(∀b,F b->b<w.heap.size)->TabsIn w->AR w F args vals.toList->
  Calls P f vals w λe w'=>∃v G bs,e= .returned v/\IK w w' (λ_=>False)/\(∀b,G b->w.heap.size<=b/\b<w'.heap.size/\jL w' b)/\An w' G w.heap.size res v bs/\(bs.map (·.1)).Nodup
inductive SY (P:Program) (st:St):ResultVar->V->Prop
 |tmp {k:Tmp} {v:V} (h:gt st.sl k= .v v):SY P st (.tmp k) v
 |cell {p:Tmp} {t n o:Nat} {vt:TypeId} {cs:List C} [ht:hP P t n] (h:gt st.sl p= .v (.c (.p o 0))) (ho:go st.ob o=some (.var vt cs)) (hn:d0 cs.length n=true):SY P st (.cell p t) (.agg cs)
 |cell1 {p:Tmp} {t o:Nat} {vt:TypeId} {c:C} [ht:jN P t] (h:gt st.sl p= .v (.c (.p o 0))) (ho:go st.ob o=some (.var vt [c])):SY P st (.cell p t) (.c c)
inductive pD (P:Program) (st:St):List ResultVar->List V->Prop
 |nil:pD P st [] []
 |cons {r:ResultVar} {rs:List ResultVar} {v:V} {vs:List V} (h:SY P st r v) (h':pD P st rs vs):pD P st (r::rs) (v::vs)
def xF (ob:Laa):C->Option (RC×List Nat)
 | .d _ (.i k n)=>some (.d (.i k n),[])
 | .d _ (.b x)=>some (.d (.b x),[])
 | .d _ (.str s)=>some (.d (.str s),[])
 | .d true (.l xs)=>some (.d (.l xs),[])
 | .w o n=>match go ob o,rsv o with
  |some (.row ty sz els true true),false=>some (.own ty sz els n,[o])
  |_,_=>none
 | .nil=>some (.nil,[])
 |_=>none
def CQ (ob:Laa):List C->Option (List RC×List Nat)
 |[]=>some ([],[])
 |c::cs=>match xF ob c,CQ ob cs with
  |some (r,l),some (rs,ls)=>some (r::rs,l++ls)
  |_,_=>none
def Nt (ob:Laa):V->Option (RV×List Nat)
 | .c c=>match xF ob c with
  |some (r,l)=>some (.c r,l)
  |none=>none
 | .agg cs=>match CQ ob cs with
  |some (r,l)=>some (.agg r,l)
  |none=>none
def xG (ob:Laa):List V->Option (List RV×List Nat)
 |[]=>some ([],[])
 |c::cs=>match Nt ob c,xG ob cs with
  |some (r,l),some (rs,ls)=>some (r::rs,l++ls)
  |_,_=>none
def oR:List Nat->Bool
 |[]=>true
 |x::xs=>!(xs.any (d0 x))&&oR xs
theorem kW:∀{l:List Nat},oR l=true->l.Nodup
 |[],_=>List.nodup_nil
 |x::xs,h=>by
  simp only[oR,hV,aax] at h
  refine aaY.2 ⟨λhm=>?_,kW h.2⟩
  have:xs.any (d0 x)=true:=aaD.2 ⟨x,hm,by simp⟩
  rw[this] at h;exact absurd h.1 (by simp)
def Fin (P:Program) (rs:List ResultVar) (res:List RV) (s:St):Prop:=∃vs ls,pD P s rs vs/\xG s.ob vs=some (res,ls)/\oR ls=true
theorem O3 {cx:Cx} (hR:Rel N cx E st a w) {c:C} {r:RC} {ls:List Nat} (h:xF st.ob c=some (r,ls)) (hc:cvC E w c u):
 ∃bs,rcR w E.G cx.w0.heap.size r u bs/\bs.length=ls.length/\∀(i:Nat) (l:Nat),ls[i]?=some l->∃p,bs[i]?=some p/\E.r l=some p:=by
 cases c with
 |d g x=>
  cases x with
  |i k n=>simp[xF] at h;obtain⟨rfl,rfl⟩:=h;exact⟨[],⟨rfl,by simp_all[cvC,rdD]⟩,rfl,by simp⟩
  |b k=>simp[xF] at h;obtain⟨rfl,rfl⟩:=h;exact⟨[],⟨rfl,by simp_all[cvC,rdD]⟩,rfl,by simp⟩
  |str k=>simp[xF] at h;obtain⟨rfl,rfl⟩:=h;exact⟨[],⟨rfl,by simp_all[cvC,rdD]⟩,rfl,by simp⟩
  |l xs=>
   cases g with
   |false=>grind[xF]
   |true=>simp[xF] at h;obtain⟨rfl,rfl⟩:=h;exact⟨[],⟨rfl,hc⟩,rfl,by simp⟩
  |k A n c=>grind[xF]
 |w o n=>
  simp only[xF] at h
  split at h
  .rename_i ty sz els ho hrv
   simp at h;obtain⟨rfl,rfl⟩:=h
   obtain⟨b,c,hr,rfl⟩:=hc
   obtain⟨b',c',arr,hr',hh,ha,hlc,hmx,hes,hrd,hFm,_⟩:=hR.obs o _ ho
   rw[hr] at hr';cases hr'
   refine⟨[(b,c)],⟨b,c,arr,rfl,rfl,hh,ha,hlc,hmx,hes,hrd,λhg=>hFm rfl (hR.ok.gf b hg),((hR.ok.rb o b c hr).2).resolve_right (λh=>by simp_all)⟩,rfl,λi l hi=>?_⟩
   grind
  cases h
 |nil=>simp[xF] at h;obtain⟨rfl,rfl⟩:=h;exact⟨[],⟨rfl,hc⟩,rfl,by simp⟩
 |_=>grind[xF]
theorem Pq {b1 b2:Lac} {l1 l2:List Nat} (h1:b1.length=l1.length) (k1:∀(i:Nat) (l:Nat),l1[i]?=some l->∃p,b1[i]?=some p/\E.r l=some p)
 (k2:∀(i:Nat) (l:Nat),l2[i]?=some l->∃p,b2[i]?=some p/\E.r l=some p):∀(i:Nat) (l:Nat),(l1++l2)[i]?=some l->∃p,(b1++b2)[i]?=some p/\E.r l=some p:=by
 grind
theorem Lb {N:Nat} {cx:Cx} {E:Env} {st:St} {a:Act} {w:World} (hR:Rel N cx E st a w):∀{cs:List C} {rs:List RC} {ls:List Nat} {us:Lae},CQ st.ob cs=some (rs,ls)->CV E w cs us->
 ∃bs,G4 w E.G cx.w0.heap.size rs us bs/\bs.length=ls.length/\∀(i:Nat) (l:Nat),ls[i]?=some l->∃p,bs[i]?=some p/\E.r l=some p
 |[],rs,ls,us,h,hc=>by
  simp[CQ] at h;obtain⟨rfl,rfl⟩:=h
  cases us with
  |nil=>exact⟨[],rfl,rfl,by simp⟩
  |cons _ _=>exact hc.elim
 |c::cs,rs,ls,us,h,hc=>by
  cases us with
  |nil=>exact hc.elim
  |cons u us=>
   simp only[CQ] at h
   split at h
   .rename_i r l rs' ls' h1 h2
    simp at h;obtain⟨rfl,rfl⟩:=h
    obtain⟨b1,k1,k2,k3⟩:=O3 hR h1 hc.1
    obtain⟨b2,m1,m2,m3⟩:=Lb hR h2 hc.2
    exact⟨b1++b2,⟨b1,b2,rfl,k1,m1⟩,by simp[k2,m2],Pq k2 k3 m3⟩
   cases h
theorem Xi {cx:Cx} (hR:Rel N cx E st a w) {v:V} {r:RV} {ls:List Nat} (h:Nt st.ob v=some (r,ls)) (hv:cvV E w v u):
 ∃bs,rvR w E.G cx.w0.heap.size r u bs/\bs.length=ls.length/\∀(i:Nat) (l:Nat),ls[i]?=some l->∃p,bs[i]?=some p/\E.r l=some p:=by
 cases v with
 |c c=>
  simp only[Nt] at h
  split at h
  .rename_i r' l' h1;simp at h;obtain⟨rfl,rfl⟩:=h;exact O3 hR h1 hv
  cases h
 |agg cs=>
  simp only[Nt] at h
  split at h
  .rename_i r' l' h1;simp at h;obtain⟨rfl,rfl⟩:=h
   obtain⟨arr,hu,hc⟩:=hv
   obtain⟨bs,k1,k2,k3⟩:=Lb hR h1 hc
   exact⟨bs,⟨arr,hu,k1⟩,k2,k3⟩
  cases h
theorem EH {N:Nat} {cx:Cx} {E:Env} {st:St} {a:Act} {w:World} (hR:Rel N cx E st a w):∀{vs:List V} {rs:List RV} {ls:List Nat} {us:Lae},xG st.ob vs=some (rs,ls)->VV E w vs us->
 ∃bs,DA w E.G cx.w0.heap.size rs us bs/\bs.length=ls.length/\∀(i:Nat) (l:Nat),ls[i]?=some l->∃p,bs[i]?=some p/\E.r l=some p
 |[],rs,ls,us,h,hc=>by
  simp[xG] at h;obtain⟨rfl,rfl⟩:=h
  cases us with
  |nil=>exact⟨[],rfl,rfl,by simp⟩
  |cons _ _=>exact hc.elim
 |c::cs,rs,ls,us,h,hc=>by
  cases us with
  |nil=>exact hc.elim
  |cons u us=>
   simp only[xG] at h
   split at h
   .rename_i r l rs' ls' h1 h2
    simp at h;obtain⟨rfl,rfl⟩:=h
    obtain⟨b1,k1,k2,k3⟩:=Xi hR h1 hc.1
    obtain⟨b2,m1,m2,m3⟩:=EH hR h2 hc.2
    exact⟨b1++b2,⟨b1,b2,rfl,k1,m1⟩,by simp[k2,m2],Pq k2 k3 m3⟩
   cases h
def nQ (tmps:Array Value):ResultVar->Sem Value
 | .tmp t=>pure (tmps.getD t undef)
 | .cell p t=>do loadVar t (<-asAddr (tmps.getD p undef))
theorem WJ {cx:Cx} (hR:Rel N cx E st a w) {r:ResultVar} {v:V} (h:SY P st r v):
 ∃u,(nQ a.tmps r).run P w= .ok u w/\cvV E w v u:=by
 cases h with
 |tmp h=>rename_i k;have:=hR.sl k;rw[h] at this;exact⟨_,by simp[nQ],this⟩
 |cell h ho hn=>
  rename_i p t n o vt cs ht
  have h1:=hR.sl p;rw[h] at h1
  obtain⟨b,c,hr,hu⟩:=h1
  obtain⟨b',c',arr,hr',hh,hcv,_⟩:=hR.obs o _ ho
  rw[hr] at hr';cases hr'
  have hl:=jK hcv
  have hnn:=aad hn
  have:=sX (P:=P) (t:=t) (n:=n) (b:=b) (k:=0) (us:=arr.toList) (w:=w) oaa (λj u hj=>by grind[fa])
  refine⟨.agg arr.toList.toArray,?_,arr,by simp,hcv⟩
  simp_all[Instr.loadAt,Instr.sureAddr,nQ,asAddr]
 |cell1 h ho=>
  rename_i p t o vt c ht
  have h1:=hR.sl p;rw[h] at h1
  obtain⟨b,c',hr,hu⟩:=h1
  obtain⟨b',c'',arr,hr',hh,hcv,_⟩:=hR.obs o _ ho
  rw[hr] at hr';cases hr'
  obtain⟨u,hu',hcu⟩:=Ho (k:=0) hcv rfl
  have:=nN (P:=P) (t:=t) (b:=b) (k:=0) (u:=u) (w:=w) (by grind[fa])
  refine⟨u,?_,hcu⟩
  simp_all[Instr.loadAt,Instr.sureAddr,nQ,asAddr]
theorem xv {P:Program} {N:Nat} {cx:Cx} {E:Env} {st:St} {a:Act} {w:World} (hR:Rel N cx E st a w):∀{rs:List ResultVar} {vs:List V},pD P st rs vs->
 ∃us,(rs.mapM (nQ a.tmps)).run P w= .ok us w/\VV E w vs us
 |_,_,.nil=>⟨[],by simp,trivial⟩
 |_,_,.cons (r:=r) h h'=>by
  obtain⟨u,k1,k2⟩:=WJ hR h
  obtain⟨us,m1,m2⟩:=xv hR h'
  refine⟨u::us,?_,k2,m2⟩
  simp_all
theorem ZF {cx:Cx} (hR:Rel N cx E st a w) {fn:Func} (h:Fin P fn.results.toList res st):
 ∃v bs,(results fn a.tmps).run P w= .ok v w/\An w E.G cx.w0.heap.size res v bs/\(bs.map (·.1)).Nodup:=by
 obtain⟨vs,ls,h1,h2,h3⟩:=h
 obtain⟨us,k1,k2⟩:=xv hR h1
 obtain⟨bs,m1,m2,m3⟩:=EH hR h2 k2
 have hnd:(bs.map (·.1)).Nodup:=by
  have hnl:=kW h3
  refine aaG.2 λi j hi hj hij he=>?_
  simp only[aay] at hi hj
  obtain⟨p,p1,p2⟩:=m3 i ls[i] (v0 oaa)
  obtain⟨q,q1,q2⟩:=m3 j ls[j] (v0 oaa)
  rw[v0 hi] at p1
  rw[v0 hj] at q1
  cases p1;cases q1
  simp only[List.getElem_map] at he
  rcases hbi:bs[i] with⟨b1,c1⟩
  rcases hbj:bs[j] with⟨b2,c2⟩
  rw[hbi,hbj] at he
  rw[hbi] at p2;rw[hbj] at q2
  have hb:b1=b2:=he
  subst hb
  exact aaG.1 hnl i j oaa oaa hij (hR.ok.inj _ _ _ _ _ p2 q2)
 have hm:(fn.results.mapM (nQ a.tmps)).run P w= .ok us.toArray w:=by
  rw[<-aaV (xs:=fn.results),List.mapM_toArray]
  simp only[Sem.run_map,k1]
  rfl
 have hres:results fn a.tmps=(fn.results.mapM (nQ a.tmps))>>= λvs=>pure (if h:vs.size=1 then vs[0] else .tuple vs):=rfl
 have hlen:us.length=vs.length:=by
  have key:∀(vs:List V) (us:Lae),VV E w vs us->us.length=vs.length:=by
   intro vs
   induction vs with
   |nil=>intro us h;cases us with
    |nil=>rfl
    |cons _ _=>exact h.elim
   |cons v vs ih=>intro us h;cases us with
    |nil=>exact h.elim
    |cons u us=>simp[ih us h.2]
  exact key vs us k2
 have hlen2:us.length=res.length:=by
  have key:∀(rs:List RV) (us:Lae) (bs:Lac),DA w E.G cx.w0.heap.size rs us bs->us.length=rs.length:=by
   intro rs
   induction rs with
   |nil=>intro us bs h;cases us with
    |nil=>rfl
    |cons _ _=>exact h.elim
   |cons v vs ih=>intro us bs h;cases us with
    |nil=>exact h.elim
    |cons u us=>obtain⟨b1,b2,_,_,h⟩:=h;grind
  exact key res us bs m1
 match res,us,m1,hlen2 with
 |[],[],m1,_=>exact⟨.tuple #[],bs,by simp_all,⟨#[],rfl,m1⟩,hnd⟩
 |[r],[u],m1,_=>
  obtain⟨b1,b2,rfl,h4,h5⟩:=m1
  have:b2=[]:=h5
  subst this
  exact⟨u,b1++[],by simp_all,by simp_all[An],hnd⟩
 |r1::r2::rs,u1::u2::us,m1,_=>
  exact⟨.tuple (u1::u2::us).toArray,bs,by simp_all,⟨_,rfl,m1⟩,hnd⟩
def argT:AV->T
 | .c x=>.v (.c (ldC false x))
 | .agg xs=>.v (.agg (xs.map (ldC false)))
def xb:Nat->List AV->Lab
 |_,[]=>[]
 |k,a::as=>(k,argT a)::xb (k+1) as
def zV (N:Nat) (P:Program) (rs:List ResultVar) (res:List RV):Exit->St->Prop
 | .normal,s| .ret,s=>∃s',dS N s s'/\Fin P rs res s'
 |_,_=>False
theorem Vg {rs:List ResultVar} (h:Fin P rs res s):zV N P rs res .ret s:=⟨s,λ_ E _ _ h=>⟨E,h⟩,h⟩
theorem SV {E:Env} {w:World} {F:Nat->Prop} (hF:E.F=F):∀{xs:List D} {us:Lae},DV w F xs us->CV E w (xs.map (ldC false)) us
 |[],[],_=>trivial
 |x::xs,u::us,h=>⟨Fl (g:=false) (by subst hF;exact h.1),SV hF h.2⟩
 |[],_::_,h=>h.elim
 |_::_,[],h=>h.elim
theorem Eh {E:Env} {w:World} {F:Nat->Prop} (hF:E.F=F):∀{as:List AV} {us:Lae} (k0:Nat),AR w F as us->us.length=as.length/\∀k,(k0<=k/\k<k0+as.length->∃u,us[k-k0]?=some u/\cvT E w (gt (xb k0 as) k) u)/\(¬(k0<=k/\k<k0+as.length)->gt (xb k0 as) k= .any)
 |[],[],k0,_=>⟨rfl,λk=>⟨λh=>by grind,λ_=>rfl⟩⟩
 |a::as,u::us,k0,h=>by
  obtain⟨h1,h2⟩:=Eh hF (k0+1) h.2
  refine⟨by simp[h1],λk=>?_⟩
  by_cases hk:k0=k
  .subst hk
   refine⟨λ_=>⟨u,by simp,?_⟩,λhn=>absurd ⟨aah _,by simp⟩ hn⟩
   rw[xb,d4]
   cases a with
   |c x=>exact Fl (g:=false) (by subst hF;exact h.1)
   |agg xs=>obtain⟨arr,hu,hd⟩:=h.1;exact⟨arr,hu,SV hF hd⟩
  rw[xb,di _ _ hk]
  refine⟨λhr=>?_,λhr=>(h2 k).2 (λh=>hr ⟨by omega,by simp;omega⟩)⟩
  obtain⟨v,h3,h4⟩:=(h2 k).1 ⟨by omega,by grind⟩
  grind
 |[],_::_,_,h=>h.elim
 |_::_,[],_,h=>h.elim
theorem fn_of  {f:FuncId} {fn:Func} {c:Code}  {args:List AV} {rs:List ResultVar}  (hf:P.funcs[f]?=some fn) (hb:fn.body=some c) (hnm:(fn.name== "runtime.NumGoroutine")=false) (hN:fn.ntmps=N) (hrs:fn.results.toList=rs)
 (ha:aaz args.length N=true) (h:AWC P N c ⟨xb 0 args,[],0⟩ (zV N P rs res)):Fn P f args res:=by
 refine⟨λvs w=>by simp_all[callFunc],λF w vals hF hT hA=>?_⟩
 subst hrs
 refine calls_of_wp hf hb ?_
 let E:Env:={r:=λ_=>none,F:=F,G:=λ_=>False}
 obtain⟨h1,h2⟩:=Eh (E:=E) (F:=F) rfl 0 hA
 have hle:args.length<=N:=aaO ha
 have hsz:vals.size=args.length:=by simpa using h1
 have hR:Rel N ⟨w,λ_=>False,λ_=>none,λ_=>True,λ_=>False,⟨hT,λ_ _ h=>h⟩,λ_=>False⟩ E ⟨xb 0 args,[],0⟩ {tmps:=vals++aak (fn.ntmps-vals.size) undef,defers:=[]} w:=by
  refine⟨⟨hF,λ_ h=>h.elim,λ_ h=>h.elim,(λ_ _ _ h=>by cases h),(λ_ _ _ _ _ h=>by cases h),rfl,rfl,rfl,aah _,λ_ _ _=>rfl,(λ_ _ _ h=>by cases h),λ_ _=>.inl trivial,λb h h'=>absurd (hF b h) (by simp_all),⟨λ_ _ h=>h.elim,λ_ _ _ h=>h.elim,λ_ h=>h.elim,λ_ h=>h.elim,λ_ h=>h.elim⟩⟩,(λ_ _ h=>by cases h),(λ_ _ h=>by cases h),λk=>?_,rfl,by simp;omega,λ_ _ h=>h.elim⟩
  by_cases hk:k<args.length
  .obtain⟨u,h3,h4⟩:=(h2 k).1 ⟨aas _,by omega⟩
   have:(vals++aak (fn.ntmps-vals.size) undef).getD k undef=u:=by
    have h5:vals[k]?=some u:=by simpa using h3
    have h6:(vals++aak (fn.ntmps-vals.size) undef)[k]?=some u:=by rw[Array.getElem?_append_left oaa];exact h5
    simp[h6]
   simp_all
  simp_all[cvT,gt,xb,trivial]
 refine wp_mono (h _ E _ w hR) ?_
 rintro e a' w' ⟨E',s',hR',hq⟩
 have fin:∀s',Rel N ⟨w,λ_=>False,λ_=>none,λ_=>True,λ_=>False,⟨hT,λ_ _ h=>h⟩,λ_=>False⟩ E' s' a' w'->(∃s'',dS N s' s''/\Fin P fn.results.toList res s'')->
  a'.defers=[]/\∃v,(results fn a'.tmps).run P w'= .ok v w'/\∃v' G bs,Ending.returned v= .returned v'/\IK w w' (λ_=>False)/\(∀b,G b->w.heap.size<=b/\b<w'.heap.size/\jL w' b)/\An w' G w.heap.size res v' bs/\(bs.map (·.1)).Nodup:=by
  rintro s' hR' ⟨s'',hw,hfin⟩
  obtain⟨E'',hR''⟩:=hw _ _ _ _ hR'
  obtain⟨v,bs,k1,k2,k3⟩:=ZF hR'' hfin
  have ok:=hR''.ok
  exact⟨hR''.dfr,v,k1,v,E''.G,bs,rfl,⟨ok.os,ok.tape,ok.output,ok.size,ok.block⟩,λb hb=>⟨(ok.gn b hb).resolve_right id,ok.fb b (ok.gf b hb),ok.gc b (ok.gf b hb) ((ok.gn b hb).resolve_right id)⟩,k2,k3⟩
 cases e with
 |normal=>exact fin s' hR' hq
 |ret=>exact fin s' hR' hq
 |_=>exact hq.elim
def labC:C->List Nat
 | .w o _=>[o]
 | .s o _ _ _=>[o]
 | .wn o _=>[o]
 |_=>[]
def YX:List C->List Nat
 |[]=>[]
 |c::cs=>labC c++YX cs
def LH:List T->List Nat
 |[]=>[]
 | .v (.c c)::ts=>labC c++LH ts
 | .v (.agg cs)::ts=>YX cs++LH ts
 |_::ts=>LH ts
def vl (ob:Laa):List Nat->Option Laa
 |[]=>some []
 |l::ls=>match go ob l,vl ob ls with
  |some x,some r=>some ((l,x)::r)
  |_,_=>none
theorem vm {ob:Laa}:∀{ls:List Nat} {nob:Laa},vl ob ls=some nob->Lo ob nob
 |[],nob,h=>by simp[vl] at h;subst h;trivial
 |l::ls,nob,h=>by
  simp only[vl] at h
  split at h
  .rename_i x r h1 h2;simp at h;subst h;exact⟨h1,vm h2⟩
  cases h
theorem Aa {ob:Laa} {x:Ob} (h:go ob l=some x):(l,x)∈ob:=by
 induction ob with
 |nil=>cases h
 |cons p r ih=>
  grind[cU,b7]
def AS (nob:Laa):C->Option (D×Lac)
 | .d _ x=>some (x,[])
 | .nil=>some (.l [],[])
 | .w o n=>match go nob o with
  |some (.row _ _ els _ _)=>some (.l els,[(els.length,n)])
  |_=>none
 | .wn o n=>match go nob o with
  |some (.rown _ _ els _)=>some (.l els,[(els.length,n)])
  |_=>none
 | .s o sz off len=>match go nob o with
  |some (.row _ sz' els _ _)=>match d0 sz sz' with
   |true=>some (.l ((els.drop off).take len),[(off+len-els.length,0)])
   |false=>none
  |_=>none
 |_=>none
def K0 (nob:Laa):List C->Option (List D×Lac)
 |[]=>some ([],[])
 |c::cs=>match AS nob c,K0 nob cs with
  |some (x,e),some (xs,es)=>some (x::xs,e++es)
  |_,_=>none
def tdat (nob:Laa):T->Option (AV×Lac)
 | .v (.c c)=>match AS nob c with
  |some (x,e)=>some (.c x,e)
  |none=>none
 | .v (.agg cs)=>match K0 nob cs with
  |some (x,e)=>some (.agg x,e)
  |none=>none
 |_=>none
def Iv (nob:Laa):List T->Option (List AV×Lac)
 |[]=>some ([],[])
 |c::cs=>match tdat nob c,Iv nob cs with
  |some (x,e),some (xs,es)=>some (x::xs,e++es)
  |_,_=>none
def KX (nob:Laa):C->Option (D×Lac)
 | .r _ x=>some (x,[])
 |c=>AS nob c
def Ew (nob:Laa):List C->Option (List D×Lac)
 |[]=>some ([],[])
 |c::cs=>match KX nob c,Ew nob cs with
  |some (x,e),some (xs,es)=>some (x::xs,e++es)
  |_,_=>none
def V4 (nob:Laa):T->Option (AV×Lac)
 | .v (.c c)=>match KX nob c with
  |some (x,e)=>some (.c x,e)
  |none=>none
 | .v (.agg cs)=>match Ew nob cs with
  |some (x,e)=>some (.agg x,e)
  |none=>none
 |_=>none
def AD (nob:Laa):List T->Option (List AV×Lac)
 |[]=>some ([],[])
 |c::cs=>match V4 nob c,AD nob cs with
  |some (x,e),some (xs,es)=>some (x::xs,e++es)
  |_,_=>none
def Eqs:Lac->Prop
 |[]=>True
 |(a,b)::r=>a=b/\Eqs r
theorem eY:∀{l m:Lac},Eqs (l++m)->Eqs l/\Eqs m
 |[],m,h=>⟨trivial,h⟩
 |(a,b)::l,m,h=>let ⟨h1,h2⟩:=eY (l:=l) h.2;⟨⟨h.1,h1⟩,h2⟩
def mM (E:Env) (nob:Laa):Nat->Prop:=λb=>E.F b\/∃l x c,go nob l=some x/\E.r l=some (b,c)
def Er (E:Env) (nob:Laa):Nat->Prop:=λb=>mM E nob b\/∃l,E.T l b
section
variable {cx:Cx} {E:Env} {w:World} {nob:Laa} (ok:dJ cx E w) (hob:∀l x,go nob l=some x->dm E w l x)
include ok hob
theorem DG {c:C} {x:D} {e:Lac} (h:AS nob c=some (x,e)) (he:Eqs e) (hc:cvC E w c u):rdD w (mM E nob) x u:=by
 have hHF:∀g b,E.H g b->mM E nob b:=λg b hb=>.inl (by cases g;exact hb;exact ok.gf b hb)
 cases c with
 |d g y=>simp[AS] at h;obtain⟨rfl,rfl⟩:=h;exact cW (λ_ _=>rfl) (hHF g) _ _ hc
 |nil=>simp[AS] at h;obtain⟨rfl,rfl⟩:=h;have:u= .slice none 0 0:=hc;subst this;rw[rdD];exact⟨none,0,rfl,aah _,.inl rfl⟩
 |w o n=>
  simp only[AS] at h
  split at h
  .rename_i t sz els g m ho
   simp at h;obtain⟨rfl,rfl⟩:=h
   obtain⟨b,cc,hr,rfl⟩:=hc
   obtain⟨b',c',arr,hr',hh,ha,hlc,hmx,hes,hrd,_⟩:=hob o _ ho
   rw[hr] at hr';cases hr'
   have hn:els.length=n:=he.1
   subst hn
   rw[rdD]
   exact⟨_,_,rfl,hlc,.inr ⟨b,0,rfl,.inr ⟨o,_,cc,ho,hr⟩,cX (λ_ _=>rfl) (hHF g) rfl _ _ hrd⟩⟩
  cases h
 |wn o n=>
  simp only[AS] at h
  split at h
  .rename_i t sz els g ho
   simp at h;obtain⟨rfl,rfl⟩:=h
   have hn:els.length=n:=he.1
   rcases hc with⟨h0,rfl,rfl⟩|⟨h0,b,cc,hr,rfl⟩
   .have:els=[]:=aaL hn
    subst this
    rw[rdD];exact⟨none,0,rfl,aah _,.inl rfl⟩
   rcases hob o _ ho with⟨h1,_⟩|⟨_,b',c',arr,hr',hh,ha,hlc,hmx,hes,hrd,_⟩
   .simp_all
   rw[hr] at hr';cases hr'
   subst hn
   rw[rdD]
   exact⟨_,_,rfl,hlc,.inr ⟨b,0,rfl,.inr ⟨o,_,cc,ho,hr⟩,cX (λ_ _=>rfl) (hHF g) rfl _ _ hrd⟩⟩
  cases h
 |s o sz off len=>
  simp only[AS] at h
  split at h
  .rename_i t sz' els g m ho
   split at h
   .rename_i hb
    have hsz:=aad hb
    subst hsz
    simp at h;obtain⟨rfl,rfl⟩:=h
    obtain⟨A,cc,b,k,hr,rfl,hlc',hA⟩:=hc
    obtain⟨b',c',arr,hr',hh,ha,hlc,hmx,hes,hrd,_⟩:=hob o _ ho
    rw[hr] at hr';cases hr'
    have hle:off+len-els.length=0:=he.1
    have hl:((els.drop off).take len).length=len:=by simp;omega
    rw[rdD]
    refine⟨A,cc,by rw[hl],by omega,?_⟩
    rcases hA with h0|h0
    .simp_all
    right;exact⟨b,off*sz,h0,.inr ⟨o,_,k,ho,hr⟩,cX (λ_ _=>rfl) (hHF g) rfl _ _ (by simpa using pS len (Cr hrd hes off))⟩
   cases h
  cases h
 |_=>grind[AS]
theorem K1:∀{cs:List C} {xs:List D} {e:Lac} {us:Lae},K0 nob cs=some (xs,e)->Eqs e->CV E w cs us->DV w (mM E nob) xs us
 |[],xs,e,us,h,he,hc=>by
  simp[K0] at h;obtain⟨rfl,rfl⟩:=h
  cases us with
  |nil=>trivial
  |cons _ _=>exact hc.elim
 |c::cs,xs,e,us,h,he,hc=>by
  cases us with
  |nil=>exact hc.elim
  |cons u us=>
   simp only[K0] at h
   split at h
   .rename_i x e1 xs' e2 h1 h2
    simp at h;obtain⟨rfl,rfl⟩:=h
    obtain⟨k1,k2⟩:=eY he
    exact⟨DG ok hob h1 k1 hc.1,K1 h2 k2 hc.2⟩
   cases h
theorem Yt {t:T} {x:AV} {e:Lac} (h:tdat nob t=some (x,e)) (he:Eqs e) (hc:cvT E w t u):avR w (mM E nob) x u:=by
 unfold tdat at h
 split at h
 .split at h
  .rename_i h1;simp at h;obtain⟨rfl,rfl⟩:=h;exact DG ok hob h1 he hc
  cases h
 .split at h
  .rename_i h1;simp at h;obtain⟨rfl,rfl⟩:=h;obtain⟨arr,hu,hc⟩:=hc;exact⟨arr,hu,K1 ok hob h1 he hc⟩
  cases h
 cases h
theorem MO {a:Act}:∀{ts:List T} {xs:List AV} {e:Lac} {args:List Operand},Iv nob ts=some (xs,e)->Eqs e->ts.length=args.length->(∀x t,(x,t)∈args.zip ts->cvT E w t (a.eval x))->AR w (mM E nob) xs (args.map a.eval)
 |[],xs,e,[],h,he,hl,hn=>by simp[Iv] at h;obtain⟨rfl,rfl⟩:=h;trivial
 |t::ts,xs,e,x::args,h,he,hl,hn=>by
  simp only[Iv] at h
  split at h
  .rename_i y e1 ys e2 h1 h2
   simp at h;obtain⟨rfl,rfl⟩:=h
   obtain⟨k1,k2⟩:=eY he
   exact⟨Yt ok hob h1 k1 (hn x t (by simp)),MO h2 k2 (by simp_all) λx t hm=>hn x t (by simp_all)⟩
  cases h
 |[],_,_,_::_,_,_,hl,_=>by simp at hl
 |_::_,_,_,[],_,_,hl,_=>by simp at hl
theorem KY {c:C} {x:D} {e:Lac} (h:KX nob c=some (x,e)) (he:Eqs e) (hc:cvC E w c u):rdD w (Er E nob) x u:=by
 have gen:∀{c:C},AS nob c=some (x,e)->cvC E w c u->rdD w (Er E nob) x u:=λh hc=>cW (λ_ _=>rfl) (λb hb=>.inl hb) _ _ (DG ok hob h he hc)
 cases c with
 |r l y=>simp[KX] at h;obtain⟨rfl,rfl⟩:=h;exact cW (λ_ _=>rfl) (λb hb=>.inr ⟨l,hb⟩) _ _ hc
 |_=>grind[KX]
theorem Hw:∀{cs:List C} {xs:List D} {e:Lac} {us:Lae},Ew nob cs=some (xs,e)->Eqs e->CV E w cs us->DV w (Er E nob) xs us
 |[],xs,e,us,h,he,hc=>by
  simp[Ew] at h;obtain⟨rfl,rfl⟩:=h
  cases us with
  |nil=>trivial
  |cons _ _=>exact hc.elim
 |c::cs,xs,e,us,h,he,hc=>by
  cases us with
  |nil=>exact hc.elim
  |cons u us=>
   simp only[Ew] at h
   split at h
   .rename_i x e1 xs' e2 h1 h2
    simp at h;obtain⟨rfl,rfl⟩:=h
    obtain⟨k1,k2⟩:=eY he
    exact⟨KY ok hob h1 k1 hc.1,Hw h2 k2 hc.2⟩
   cases h
theorem V5 {t:T} {x:AV} {e:Lac} (h:V4 nob t=some (x,e)) (he:Eqs e) (hc:cvT E w t u):avR w (Er E nob) x u:=by
 unfold V4 at h
 split at h
 .split at h
  .rename_i h1;simp at h;obtain⟨rfl,rfl⟩:=h;exact KY ok hob h1 he hc
  cases h
 .split at h
  .rename_i h1;simp at h;obtain⟨rfl,rfl⟩:=h;obtain⟨arr,hu,hc⟩:=hc;exact⟨arr,hu,Hw ok hob h1 he hc⟩
  cases h
 cases h
theorem Iw {a:Act}:∀{ts:List T} {xs:List AV} {e:Lac} {args:List Operand},AD nob ts=some (xs,e)->Eqs e->ts.length=args.length->(∀x t,(x,t)∈args.zip ts->cvT E w t (a.eval x))->AR w (Er E nob) xs (args.map a.eval)
 |[],xs,e,[],h,he,hl,hn=>by simp[AD] at h;obtain⟨rfl,rfl⟩:=h;trivial
 |t::ts,xs,e,x::args,h,he,hl,hn=>by
  simp only[AD] at h
  split at h
  .rename_i y e1 ys e2 h1 h2
   simp at h;obtain⟨rfl,rfl⟩:=h
   obtain⟨k1,k2⟩:=eY he
   exact⟨V5 ok hob h1 k1 (hn x t (by simp)),Iw h2 k2 (by simp_all) λx t hm=>hn x t (by simp_all)⟩
  cases h
 |[],_,_,_::_,_,_,hl,_=>by simp at hl
 |_::_,_,_,[],_,_,hl,_=>by simp at hl
end
def Q8 (nx:Nat):RC->Option (C×Laa×Nat)
 | .d (.i k n)=>some (.d false (.i k n),[],nx)
 | .d (.b x)=>some (.d false (.b x),[],nx)
 | .d (.str s)=>some (.d false (.str s),[],nx)
 | .d (.l xs)=>some (.d true (.l xs),[],nx)
 | .d (.k _ _ _)=>none
 | .own ty sz els n=>some (.w nx n,[(nx,.row ty sz els true true)],nx+1)
 | .nil=>some (.nil,[],nx)
def Lx (nx:Nat):List RC->Option (List C×Laa×Nat)
 |[]=>some ([],[],nx)
 |r::rs=>match Q8 nx r with
  |some (c,b,n)=>match Lx n rs with
   |some (cs,bs,m)=>some (c::cs,b++bs,m)
   |none=>none
  |none=>none
def Ur (nx:Nat):RV->Option (V×Laa×Nat)
 | .c r=>match Q8 nx r with
  |some (c,b,n)=>some (.c c,b,n)
  |none=>none
 | .agg rs=>match Lx nx rs with
  |some (c,b,n)=>some (.agg c,b,n)
  |none=>none
def Lz (nx:Nat):List RV->Option (List V×Laa×Nat)
 |[]=>some ([],[],nx)
 |r::rs=>match Ur nx r with
  |some (c,b,n)=>match Lz n rs with
   |some (cs,bs,m)=>some (c::cs,b++bs,m)
   |none=>none
  |none=>none
def Fe (nx:Nat):List RV->Option (T×Laa×Nat)
 |[r]=>match Ur nx r with
  |some (v,b,n)=>some (.v v,b,n)
  |none=>none
 |rs=>match Lz nx rs with
  |some (v,b,n)=>some (.tup v,b,n)
  |none=>none
def Imp (E:Env) (w:World) (nx n:Nat) (bs:Lac) (nw:Laa):Prop:=
 n=nx+bs.length/\(∀l x,(l,x)∈nw->dm E w l x/\nx<=l/\l<n)/\∀l,nx<=l->l<n->∃x,(l,x)∈nw
theorem Imp.join {m:Nat} {b1 b2:Lac} {nw1 nw2:Laa} (h1:Imp E w nx n b1 nw1) (h2:Imp E w n m b2 nw2):Imp E w nx m (b1++b2) (nw1++nw2):=by
 obtain⟨rfl,h1b,h1c⟩:=h1
 obtain⟨rfl,h2b,h2c⟩:=h2
 refine⟨by simp;omega,λl x hm=>?_,λl hl1 hl2=>?_⟩
 .grind
 grind
section
variable {E:Env} {w:World} {G:Nat->Prop} {base:Nat} (hG:∀b,G b->E.G b) (hnF:∀b:Nat,base<=b->¬G b->¬E.F b)
include hG hnF
theorem Pm {r:RC} {bs:Lac} {c:C} (h:Q8 nx r=some (c,nw,n)) (hr:rcR w G base r u bs) (hb:∀(i:Nat) (p:Nat×Nat),bs[i]?=some p->E.r (nx+i)=some p):
 cvC E w c u/\Imp E w nx n bs nw:=by
 cases r with
 |d x=>
  obtain⟨rfl,hr⟩:=hr
  cases x<;>simp[Q8] at h<;>obtain⟨rfl,rfl,rfl⟩:=h<;>refine⟨?_,⟨rfl,by simp,λl h1 h2=>by omega⟩⟩
  .simp_all[cvC,rdD]
  .simp_all[cvC,rdD]
  .simp_all[cvC,rdD]
  exact cW (λ_ _=>rfl) hG _ _ hr
 |own ty sz els n'=>
  obtain⟨b,cc,arr,rfl,rfl,hh,ha,hlc,hmx,hes,hrd,hgb,hbb⟩:=hr
  simp[Q8] at h;obtain⟨rfl,rfl,rfl⟩:=h
  have:=hb 0 (b,cc) rfl
  rw[aaT] at this
  refine⟨⟨b,cc,this,rfl⟩,⟨rfl,λl x hm=>?_,λl h1 h2=>⟨.row ty sz els true true,by grind⟩⟩⟩
  simp at hm;obtain⟨rfl,rfl⟩:=hm
  exact⟨⟨b,cc,arr,this,hh,ha,hlc,hmx,hes,cX (λ_ _=>rfl) hG rfl _ _ hrd,λ_=>hnF b hbb hgb,λh=>by cases h⟩,by omega,by omega⟩
 |nil=>
  obtain⟨rfl,hr⟩:=hr
  simp[Q8] at h;obtain⟨rfl,rfl,rfl⟩:=h
  exact⟨hr,⟨rfl,by simp,λl h1 h2=>by omega⟩⟩
omit hG hnF in
theorem KV {b1 b2:Lac} (hb:∀(i:Nat) (p:Nat×Nat),(b1++b2)[i]?=some p->E.r (nx+i)=some p):
 (∀(i:Nat) (p:Nat×Nat),b1[i]?=some p->E.r (nx+i)=some p)/\∀(i:Nat) (p:Nat×Nat),b2[i]?=some p->E.r (nx+b1.length+i)=some p:=by
 refine⟨λi p hi=>hb i p ?_,λi p hi=>?_⟩
 .grind
 have:=hb (b1.length+i) p (by grind)
 grind
theorem Ly:∀{rs:List RC} {us:Lae} {bs:Lac} {nx n:Nat} {cs:List C} {nw:Laa},Lx nx rs=some (cs,nw,n)->G4 w G base rs us bs->(∀(i:Nat) (p:Nat×Nat),bs[i]?=some p->E.r (nx+i)=some p)->
 CV E w cs us/\Imp E w nx n bs nw
 |[],us,bs,nx,n,cs,nw,h,hr,hb=>by
  simp[Lx] at h;obtain⟨rfl,rfl,rfl⟩:=h
  cases us with
  |nil=>have:bs=[]:=hr;subst this;exact⟨trivial,⟨rfl,by simp,λl h1 h2=>by omega⟩⟩
  |cons _ _=>exact hr.elim
 |r::rs,us,bs,nx,n,cs,nw,h,hr,hb=>by
  cases us with
  |nil=>exact hr.elim
  |cons u us=>
   obtain⟨b1,b2,rfl,hr1,hr2⟩:=hr
   simp only[Lx] at h
   split at h
   .rename_i c nw1 n1 h1
    split at h
    .rename_i cs2 nw2 n2 h2
     simp at h;obtain⟨rfl,rfl,rfl⟩:=h
     obtain⟨hb1,hb2⟩:=KV hb
     obtain⟨k1,k2⟩:=Pm hG hnF h1 hr1 hb1
     have hn1:=k2.1
     subst hn1
     obtain⟨m1,m2⟩:=Ly h2 hr2 hb2
     exact⟨⟨k1,m1⟩,k2.join m2⟩
    cases h
   cases h
theorem Pn {r:RV} {bs:Lac} {v:V} (h:Ur nx r=some (v,nw,n)) (hr:rvR w G base r u bs) (hb:∀(i:Nat) (p:Nat×Nat),bs[i]?=some p->E.r (nx+i)=some p):
 cvV E w v u/\Imp E w nx n bs nw:=by
 cases r with
 |c r=>
  simp only[Ur] at h
  split at h
  .rename_i h1;simp at h;obtain⟨rfl,rfl,rfl⟩:=h;exact Pm hG hnF h1 hr hb
  cases h
 |agg rs=>
  simp only[Ur] at h
  split at h
  .rename_i h1;simp at h;obtain⟨rfl,rfl,rfl⟩:=h
   obtain⟨arr,hu,hr⟩:=hr
   obtain⟨k1,k2⟩:=Ly hG hnF h1 hr hb
   exact⟨⟨arr,hu,k1⟩,k2⟩
  cases h
theorem Ff:∀{rs:List RV} {us:Lae} {bs:Lac} {nx n:Nat} {cs:List V} {nw:Laa},Lz nx rs=some (cs,nw,n)->DA w G base rs us bs->(∀(i:Nat) (p:Nat×Nat),bs[i]?=some p->E.r (nx+i)=some p)->
 VV E w cs us/\Imp E w nx n bs nw
 |[],us,bs,nx,n,cs,nw,h,hr,hb=>by
  simp[Lz] at h;obtain⟨rfl,rfl,rfl⟩:=h
  cases us with
  |nil=>have:bs=[]:=hr;subst this;exact⟨trivial,⟨rfl,by simp,λl h1 h2=>by omega⟩⟩
  |cons _ _=>exact hr.elim
 |r::rs,us,bs,nx,n,cs,nw,h,hr,hb=>by
  cases us with
  |nil=>exact hr.elim
  |cons u us=>
   obtain⟨b1,b2,rfl,hr1,hr2⟩:=hr
   simp only[Lz] at h
   split at h
   .rename_i c nw1 n1 h1
    split at h
    .rename_i cs2 nw2 n2 h2
     simp at h;obtain⟨rfl,rfl,rfl⟩:=h
     obtain⟨hb1,hb2⟩:=KV hb
     obtain⟨k1,k2⟩:=Pn hG hnF h1 hr1 hb1
     have hn1:=k2.1
     subst hn1
     obtain⟨m1,m2⟩:=Ff h2 hr2 hb2
     exact⟨⟨k1,m1⟩,k2.join m2⟩
    cases h
   cases h
theorem yV {rs:List RV} {bs:Lac} {t:T} (h:Fe nx rs=some (t,nw,n)) (hr:An w G base rs u bs) (hb:∀(i:Nat) (p:Nat×Nat),bs[i]?=some p->E.r (nx+i)=some p):
 cvT E w t u/\Imp E w nx n bs nw:=by
 match rs,h,hr with
 |[r],h,hr=>
  simp only[Fe] at h
  split at h
  .rename_i h1;simp at h;obtain⟨rfl,rfl,rfl⟩:=h;exact Pn hG hnF h1 hr hb
  cases h
 |[],h,hr=>
  simp only[Fe] at h
  split at h
  .rename_i h1;simp at h;obtain⟨rfl,rfl,rfl⟩:=h
   obtain⟨arr,hu,hr⟩:=hr
   obtain⟨k1,k2⟩:=Ff hG hnF h1 hr hb
   exact⟨⟨arr,hu,k1⟩,k2⟩
  cases h
 |r1::r2::rs,h,hr=>
  simp only[Fe] at h
  split at h
  .rename_i h1;simp at h;obtain⟨rfl,rfl,rfl⟩:=h
   obtain⟨arr,hu,hr⟩:=hr
   obtain⟨k1,k2⟩:=Ff hG hnF h1 hr hb
   exact⟨⟨arr,hu,k1⟩,k2⟩
  cases h
end
theorem Vm {G:Nat->Prop} {base:Nat} {r:RC} {bs:Lac} (h:rcR w G base r u bs):∀p∈bs,base<=p.1/\p.1<w.heap.size:=by
 cases r with
 |d x=>obtain⟨rfl,_⟩:=h;simp
 |own ty sz els n=>
  obtain⟨b,c,arr,rfl,_,hh,_,_,_,_,_,_,hb⟩:=h
  intro p hp;simp at hp;subst hp
  refine⟨hb,?_⟩
  rcases aao b w.heap.size with h|h
  .exact h
  rw[aaw h] at hh;cases hh
 |nil=>obtain⟨rfl,_⟩:=h;simp
theorem P4 {w:World} {G:Nat->Prop} {base:Nat}:∀{rs:List RC} {us:Lae} {bs:Lac},G4 w G base rs us bs->∀p∈bs,base<=p.1/\p.1<w.heap.size
 |[],[],bs,h=>by have:bs=[]:=h;subst this;simp
 |r::rs,u::us,bs,h=>λp hp=>by
  obtain⟨b1,b2,rfl,h1,h2⟩:=h
  rcases aac.1 hp with h|h
  .exact Vm h1 p h
  exact P4 h2 p h
 |[],_::_,_,h=>h.elim
 |_::_,[],_,h=>h.elim
theorem Vz {G:Nat->Prop} {base:Nat} {r:RV} {bs:Lac} (h:rvR w G base r u bs):∀p∈bs,base<=p.1/\p.1<w.heap.size:=by
 cases r with
 |c r=>exact Vm h
 |agg rs=>obtain⟨_,_,h⟩:=h;exact P4 h
theorem J2 {w:World} {G:Nat->Prop} {base:Nat}:∀{rs:List RV} {us:Lae} {bs:Lac},DA w G base rs us bs->∀p∈bs,base<=p.1/\p.1<w.heap.size
 |[],[],bs,h=>by have:bs=[]:=h;subst this;simp
 |r::rs,u::us,bs,h=>λp hp=>by
  obtain⟨b1,b2,rfl,h1,h2⟩:=h
  rcases aac.1 hp with h|h
  .exact Vz h1 p h
  exact J2 h2 p h
 |[],_::_,_,h=>h.elim
 |_::_,[],_,h=>h.elim
theorem JZ {G:Nat->Prop} {base:Nat} {rs:List RV} {bs:Lac} (h:An w G base rs u bs):∀p∈bs,base<=p.1/\p.1<w.heap.size:=by
 match rs,h with
 |[r],h=>exact Vz h
 |[],h=>obtain⟨_,_,h⟩:=h;exact J2 h
 |_::_::_,h=>obtain⟨_,_,h⟩:=h;exact J2 h
section
variable {P:Program} {N:Nat} {d:Tmp} {ty:TypeId} {ps:String} {af:Array Edge} {gd:Option (Nat×Bool)} {st:St}
def Env.after (E:Env) (nx:Nat) (bs:Lac) (G:Nat->Prop):Env:=
 ⟨λo=>if nx<=o/\o<nx+bs.length then bs[o-nx]? else E.r o,λb=>E.F b\/G b,λb=>E.G b\/G b,E.T,E.Z,E.n⟩
theorem HG {cx:Cx} {bs:Lac} {G:Nat->Prop} (ok:dJ cx E w) (hp:IK w w' (λ_=>False)) (hG:∀b,G b->w.heap.size<=b/\b<w'.heap.size/\jL w' b)
 (hbs:∀p∈bs,w.heap.size<=p.1/\p.1<w'.heap.size) (hnd:(bs.map (·.1)).Nodup) (hfr:∀l,nx<=l->l<nx+bs.length->E.r l=none/\rsv l=false):
 dJ cx (E.after nx bs G) w'/\Ext E w (E.after nx bs G) w':=by
 have hsz:=hp.size
 have hws:=ok.size
 have hnew:∀o b c,(E.after nx bs G).r o=some (b,c)->(nx<=o/\o<nx+bs.length/\bs[o-nx]?=some (b,c))\/(E.r o=some (b,c)):=by
  intro o b c h
  simp only[Env.after] at h
  split at h
  .rename_i hh;exact .inl ⟨hh.1,hh.2,h⟩
  exact .inr h
 refine⟨⟨λb hb=>?_,λb hb=>?_,λb hb=>?_,λo b c h=>?_,λo o' b c c' h h'=>?_,by rw[hp.os];exact ok.os,by rw[hp.tape];exact ok.tape,by rw[hp.output];exact ok.output,by omega,λb hb hW=>?_,λo x hx h=>?_,λb hb=>hb.elim (ok.ff b) (λh=>.inr (by have:=(hG b h).1;omega)),
  λb hb hb'=>hb.elim (λh=>(ok.gc b h hb').of_eq (hp.block b (ok.fb b h) (λh=>h))) (λh=>(hG b h).2.2),
  ok.sf.grow rfl rfl (λb hb=>hb.elim .inl (λh=>.inr (hG b h).1)) (λo b c h=>by
   rcases hnew o b c h with⟨_,_,h⟩|h
   .exact .inr (hbs _ (aab h)).1
   exact .inl ⟨o,c,h⟩) hsz (λb hb=>hp.block b hb (λh=>h))⟩,
  ⟨λo x h=>?_,λb h=>.inl h,λb h=>.inl h,λb h=>?_,λb hb=>hp.block b hb (λh=>h),rfl,rfl,rfl⟩⟩
 .rcases hb with h|h
  .have:=ok.fb b h;omega
  exact(hG b h).2.1
 .rcases hb with h|h
  .exact .inl (ok.gf b h)
  exact .inr h
 .rcases hb with h|h
  .exact ok.gn b h
  have:=hG b h;omega
 .rcases hnew o b c h with⟨_,_,h⟩|h
  .have:=hbs _ (aab h);exact⟨this.2,.inl (by have:=this.1;simp at this;omega)⟩
  have:=ok.rb o b c h;exact⟨by omega,this.2⟩
 .rcases hnew o b c h with⟨h1,h2,h3⟩|h3<;>rcases hnew o' b c' h' with⟨k1,k2,k3⟩|k3
  .have hi:o-nx<bs.length:=by omega
   have hj:o'-nx<bs.length:=by omega
   rcases Nat.lt_trichotomy (o-nx) (o'-nx) with hlt|heq|hlt
   .exfalso
    have:=aaG.1 hnd (o-nx) (o'-nx) (by simpa using hi) (by simpa using hj) hlt
    rw[v0 hi] at h3;rw[v0 hj] at k3
    simp at h3 k3;simp[h3,k3] at this
   .omega
   exfalso
   have:=aaG.1 hnd (o'-nx) (o-nx) (by simpa using hj) (by simpa using hi) hlt
   rw[v0 hi] at h3;rw[v0 hj] at k3
   simp at h3 k3;simp[h3,k3] at this
  .have h5:=hbs _ (aab h3);have h6:=ok.rb o' b c' k3;simp at h5;omega
  .have h5:=hbs _ (aab k3);have h6:=ok.rb o b c h3;simp at h5;omega
  exact ok.inj o o' b c c' h3 k3
 .rw[hp.block b oaa (λh=>h)];exact ok.block b hb hW
 .rcases hnew o x.1 x.2 h with⟨h1,h2,_⟩|h
  .rw[rJ (hfr o h1 h2).2] at hx;cases hx
  exact ok.pin o x hx h
 .simp only[Env.after]
  rw[if_neg]
  .exact h
  rintro⟨h1,h2⟩;have:=(hfr o h1 h2).1;rw[this] at h;cases h
 rcases h with h|h
 .exact .inl h
 exact .inr (hG b h).1
theorem Z8 {f:FuncId} {args:List Operand} {tys:Array TypeId} {ts:List T} {avs:List AV} {eqs:Lac} 
 (hl:ts.length=args.length) (ha:AD nob ts=some (avs,eqs)) (hF:Fn P f avs res) (he:Eqs eqs) (hi:Fe nx res=some (out,nw,n)):
 AWN P ⟨some d,.call ⟨.value (.func f),args.toArray,tys⟩,ty,ps,af,gd⟩ (args.zip ts) nob out nw:=by
 intro cx E a w ok hn hb hfr
 have hob:∀l x,go nob l=some x->dm E w l x:=λl x h=>hb l x (Aa h)
 have hA:=Iw ok hob ha he hl hn
 have hFb:∀b,Er E nob b->b<w.heap.size:=by
  rintro b ((h|⟨l,x,c,h1,h2⟩)|⟨l,h⟩)
  .exact ok.fb b h
  .exact(ok.rb l b c h2).1
  exact(ok.sf.tb l b h).1.1
 have hc:=hF.calls (Er E nob) w (args.map a.eval).toArray hFb ok.tabs (by simpa using hA)
 have hent:=hF.enters (args.map a.eval).toArray w
 unfold Oper.wp
 have hrun:(execOp a.eval ⟨some d,.call ⟨.value (.func f),args.toArray,tys⟩,ty,ps,af,gd⟩).run P w= .ok (.enter f (args.map a.eval).toArray) w:=by
  simp only[execOp,resolve,Act.eval,Deferred.ofValue,Sem.run_bind,Sem.run_pure,Result.andThen_ok,invoke]
  simpa using hent
 rw[hrun,Oper.upon_enter]
 refine hc.mono ?_
 rintro e w' ⟨v,G,bs,rfl,hp,hG,hres,hnd⟩
 have hbs:=JZ hres
 have hlen:∀l,nx<=l->l<nx+bs.length->E.r l=none/\rsv l=false:=by
  have himp:=yV (E:=⟨λo=>bs[o-nx]?,G,G,λ_ _=>False,λ_=>False,λ_=>False⟩) (λ_ h=>h) (λb _ h=>h) hi hres (λi p hi=>by simpa using hi)
  intro l h1 h2
  obtain⟨x,hx⟩:=himp.2.2.2 l h1 (by rw[himp.2.1];exact h2)
  exact hfr l x hx
 obtain⟨ok',ext⟩:=HG ok hp hG hbs hnd hlen
 have himp:=yV (E:=E.after nx bs G) (G:=G) (base:=w.heap.size) (λb h=>.inr h) (λb hb hng hF=>by
  rcases hF with h|h
  .have:=ok.fb b h;omega
  exact hng h) hi hres (λi p hi=>by
  have:i<bs.length:=(aaa.1 hi).1
  simp only[Env.after];rw[if_pos oaa];simpa using hi)
 refine⟨v,E.after nx bs G,rfl,ok',ext,himp.1,λl ob hm=>(himp.2.2.1 l ob hm).1,λl x hx=>?_⟩
 simp only[Env.after] at hx
 split at hx
 .rename_i hh;obtain⟨x,hx⟩:=himp.2.2.2 l hh.1 (by rw[himp.2.1];exact hh.2);exact .inr ⟨x,hx⟩
 exact .inl hx
structure Inf where
 d:Tmp
 needs:List (Operand×T)
 nob:Laa
 out:T
 nw:Laa
def NS (P:Program) (N:Nat) (o:Oper) (st st':St) (x:Inf):Prop:=
 AWN P o x.needs x.nob x.out x.nw/\o.dst=some x.d/\x.d<N/\Lk st.sl x.needs/\Lo st.ob x.nob/\Nw st.nx x.nw st'.nx/\st'=⟨(x.d,x.out)::st.sl,x.nw++st.ob,st'.nx⟩
theorem dT {o:Oper} {needs:List (Operand×T)} (h:AWN P o needs nob out nw) (hd:o.dst=some d) (hN:nlt d N=true) (hn:Lk st.sl needs) (hb:Lo st.ob nob) (hw:Nw st.nx nw n):
 NS P N o st ⟨(d,out)::st.sl,nw++st.ob,n⟩ ⟨d,needs,nob,out,nw⟩:=⟨h,hd,dr hN,hn,hb,hw,rfl⟩
theorem U0 {o:Oper} {st':St} {x:Inf} (h:NS P N o st st' x):AWO P N o st st':=by
 obtain⟨h1,h2,h3,h4,h5,h6,h7⟩:=h
 rw[h7]
 exact Nc h1 h2 h3 h4 h5 h6
theorem tH {ops:Array Oper} {l:List Oper} {o:Oper} {st':St} {x:Inf} {K:St->Prop} (hg:o.guard=none) (h:NS P N o st st' x) (h':AWR P N ops l st' K):AWR P N ops (o::l) st K:=eZ hg (U0 h) h'
theorem IS {ops:Array Oper} {l:List Oper} {o:Oper} {st':St} {x:Inf} {K:St->Prop} (hg:o.guard=some (j,b)) (hj:(ops[j]?).bind (·.dst)=some dj) (hdj:nlt dj N=true) (hb:gt st.sl dj=tB b) (h:NS P N o st st' x)
 (h':AWR P N ops l st' K):AWR P N ops (o::l) st K:=mL hg hj (dr hdj) hb (U0 h) h'
def DS (P:Program) (N:Nat) (ops:Array Oper) (o:Oper) (st st':St) (x:Inf):Prop:=
 (o.guard=none/\NS P N o st st' x)\/
 (∃j dj b y,o.guard=some (j,b)/\(ops[j]?).bind (·.dst)=some dj/\dj<N/\gt st.sl dj=tB b/\NS P N o st st' y/\x={y with needs:=(.tmp dj,tB b)::y.needs})\/
 (∃j dj b d,o.guard=some (j,b)/\(ops[j]?).bind (·.dst)=some dj/\dj<N/\noG b (gt st.sl dj)=true/\o.dst=some d/\d<N/\x=⟨d,[(.tmp dj,gt st.sl dj)],[],.tup [],[]⟩/\st'=⟨(d,.tup [])::st.sl,st.ob,st.nx⟩)
def uK (s t:St):Prop:=(∀k,gt s.sl k=gt t.sl k)/\s.ob=t.ob/\s.nx=t.nx
def DR (P:Program) (N:Nat) (ops:Array Oper):List Oper->List Inf->St->(List Inf->St->Prop)->Prop
 |[],is,st,K=>K is st
 |o::r,is,st,K=>∃x st1 st',DS P N ops o st st1 x/\uK st1 st'/\DR P N ops r (is++[x]) st' K
section
variable {ops:Array Oper} {l:List Oper} {o:Oper} {st':St} {x:Inf} {K:List Inf->St->Prop} {is:List Inf}
theorem ZA (h:K is st):DR P N ops [] is st K:=h
theorem uK.refl (s:St):uK s s:=⟨λ_=>rfl,rfl,rfl⟩
theorem dr_n (hg:o.guard=none) (h:NS P N o st st' x) (h':DR P N ops l (is++[x]) st' K):DR P N ops (o::l) is st K:=⟨x,st',st',.inl ⟨hg,h⟩,.refl _,h'⟩
theorem YM (hg:o.guard=some (j,b)) (hj:(ops[j]?).bind (·.dst)=some dj) (hdj:nlt dj N=true) (hb:gt st.sl dj=tB b) (h:NS P N o st st' x)
 (h':DR P N ops l (is++[{x with needs:=(.tmp dj,tB b)::x.needs}]) st' K):DR P N ops (o::l) is st K:=⟨_,st',st',.inr (.inl ⟨j,dj,b,x,hg,hj,dr hdj,hb,h,rfl⟩),.refl _,h'⟩
theorem Xb {d:Tmp} (hg:o.guard=some (j,b)) (hj:(ops[j]?).bind (·.dst)=some dj) {t:T} (hdj:nlt dj N=true) (ht:gt st.sl dj=t) (hb:noG b t=true) (hd:o.dst=some d) (hN:nlt d N=true)
 (h':DR P N ops l (is++[⟨d,[(.tmp dj,t)],[],.tup [],[]⟩]) ⟨(d,.tup [])::st.sl,st.ob,st.nx⟩ K):DR P N ops (o::l) is st K:=
 ⟨_,_,_,.inr (.inr ⟨j,dj,b,d,hg,hj,dr hdj,by rw[ht];exact hb,hd,dr hN,by rw[ht],rfl⟩),.refl _,h'⟩
theorem uo {d:Tmp} {c:Bool} (hb:gt st.sl d=tB b) (h:b=c):uK st ⟨(d,tB c)::st.sl,st.ob,st.nx⟩:=by
 refine⟨λk=>?_,rfl,rfl⟩
 by_cases hk:d=k
 .subst hk;rw[d4,hb,h]
 rw[di _ _ hk]
end
end
theorem s4 {s t:Lab} (h:∀k,gt s k=gt t k) (x:Operand):opT s x=opT t x:=by
 cases x with
 |tmp k=>exact h k
 |const v=>cases v<;>rfl
 |_=>rfl
theorem II {s t:Lab} (h:∀k,gt s k=gt t k):∀{l:List (Operand×T)},Lk s l->Lk t l
 |[],_=>trivial
 |(x,v)::r,hl=>⟨by rw[<-s4 h];exact hl.1,II h hl.2⟩
section
variable {P:Program} {N:Nat} {ops:Array Oper} {l:List Oper} {o:Oper} {st st' st2:St} {K:List Inf->St->Prop} {is:List Inf}
theorem Mk {t:St} (h:uK s t) (d:Tmp) (v:T) (nw:Laa) (n:Nat):uK ⟨(d,v)::s.sl,nw++s.ob,n⟩ ⟨(d,v)::t.sl,nw++t.ob,n⟩:=by
 refine⟨λk=>?_,by rw[h.2.1],rfl⟩
 by_cases hk:d=k
 .subst hk;rw[d4,d4]
 rw[di _ _ hk,di _ _ hk];exact h.1 k
theorem uK.trans {a b c:St} (h:uK a b) (k:uK b c):uK a c:=⟨λi=>(h.1 i).trans (k.1 i),h.2.1.trans k.2.1,h.2.2.trans k.2.2⟩
theorem PH {x:Inf} (h:uK st st2) (hn:NS P N o st2 st' x):∃s',NS P N o st s' x/\uK s' st':=by
 obtain⟨h1,h2,h3,h4,h5,h6,h7⟩:=hn
 refine⟨⟨(x.d,x.out)::st.sl,x.nw++st.ob,st'.nx⟩,⟨h1,h2,h3,II (λk=>(h.1 k).symm) h4,by rw[h.2.1];exact h5,by rw[h.2.2];exact h6,rfl⟩,?_⟩
 rw[h7]
 exact Mk h _ _ _ _
theorem OZ (h:uK st st2) (hd:DR P N ops (o::l) is st2 K):DR P N ops (o::l) is st K:=by
 obtain⟨x,st1,st',hds,hs,hr⟩:=hd
 rcases hds with⟨hg,hn⟩|⟨j,dj,b,y,hg,hj,hdj,hb,hn,rfl⟩|⟨j,dj,b,d,hg,hj,hdj,hb,hd,hN,rfl,rfl⟩
 .obtain⟨s',k1,k2⟩:=PH h hn
  exact⟨x,s',st',.inl ⟨hg,k1⟩,k2.trans hs,hr⟩
 .obtain⟨s',k1,k2⟩:=PH h hn
  exact⟨_,s',st',.inr (.inl ⟨j,dj,b,y,hg,hj,hdj,by rw[h.1];exact hb,k1,rfl⟩),k2.trans hs,hr⟩
 refine⟨_,⟨(d,.tup [])::st.sl,st.ob,st.nx⟩,st',.inr (.inr ⟨j,dj,b,d,hg,hj,hdj,by rw[h.1];exact hb,hd,hN,by rw[h.1],rfl⟩),uK.trans ?_ hs,hr⟩
 have:=Mk h d (.tup []) [] st.nx
 refine⟨this.1,this.2.1,h.2.2⟩
theorem TS {d:Tmp} (hb:gt st.sl d=tB b) (h1:b=true->DR P N ops (o::l) is ⟨(d,tB true)::st.sl,st.ob,st.nx⟩ K) (h0:b=false->DR P N ops (o::l) is ⟨(d,tB false)::st.sl,st.ob,st.nx⟩ K):DR P N ops (o::l) is st K:=by
 cases hc:b with
 |true=>exact OZ (uo hb hc) (h1 hc)
 |false=>exact OZ (uo hb hc) (h0 hc)
end
def jH:List (Operand×T)->List Nat
 |[]=>[]
 |(.tmp k,_)::r=>k::jH r
 |_::r=>jH r
def anc (ops:Array Oper):Nat->Nat->Nat->Bool
 |0,_,_=>false
 |n+1,i,j=>match ops[i]? with
  |none=>false
  |some o=>o.after.toList.any λe=>Region.binds .any e&&(d0 e.on j||anc ops n e.on j)
def uX (is:List Inf) (k:Nat):Option Nat:=is.findIdx? λx=>d0 x.d k
def Pv (is:List Inf) (l:Nat):Option Nat:=is.findIdx? λx=>x.nw.any λp=>d0 p.1 l
def sJ:List Inf->Bool
 |[]=>true
 |x::xs=>!(xs.any λy=>d0 x.d y.d)&&sJ xs
def z7 (ops:Array Oper) (is:List Inf) (nx:Nat):Bool:=
 d0 is.length ops.size&&sJ is&&
 (f4 is.length).all λi=>match is[i]?,ops[i]? with
  |some x,some o=>
   (o.after.toList.all λe=>!Region.binds .any e||nlt e.on i)&&
   ((jH x.needs).all λk=>match uX is k with
    |none=>true
    |some j=>if nlt j i then anc ops is.length i j else d0 i j||anc ops is.length j i)&&
   (x.nob.all λp=>nlt p.1 nx||match Pv is p.1 with
    |none=>false
    |some j=>anc ops is.length i j)
  |_,_=>false
def after (base:St):List Inf->Lab×Laa
 |is=>(is.foldl (λs x=>(x.d,x.out)::s) base.sl,is.foldl (λs x=>x.nw++s) base.ob)
def vN (base:St) (is:List Inf):Lab:=is.foldl (λs x=>(x.d,x.out)::s) base.sl
def G3 (base:St) (is:List Inf):Laa:=is.foldl (λs x=>x.nw++s) base.ob
theorem zm (base:St) (is:List Inf) (x:Inf):vN base (is++[x])=(x.d,x.out)::vN base is:=by simp[vN]
theorem H2 (base:St) (is:List Inf) (x:Inf):G3 base (is++[x])=x.nw++G3 base is:=by simp[G3]
def Zm (P:Program) (N:Nat) (ops:Array Oper) (base:St) (pre:List Inf) (o:Oper) (x:Inf):Prop:=
 (∀y t,(y,t)∈x.needs->opT (vN base pre) y=t)/\(∀l ob,(l,ob)∈x.nob->go (G3 base pre) l=some ob)/\o.dst=some x.d/\x.d<N/\
 ((o.guard=none/\AWN P o x.needs x.nob x.out x.nw)\/
  (∃j dj b ys,o.guard=some (j,b)/\(ops[j]?).bind (·.dst)=some dj/\dj<N/\x.needs=(.tmp dj,tB b)::ys/\AWN P o ys x.nob x.out x.nw)\/
  (∃j dj b t,o.guard=some (j,b)/\(ops[j]?).bind (·.dst)=some dj/\dj<N/\x.needs=[(.tmp dj,t)]/\noG b t=true/\x.out= .tup []/\x.nw=[]))
def fX (nx:Nat):List Inf->Nat->Prop
 |[],n=>n=nx
 |x::xs,n=>∃m,Nw nx x.nw m/\fX m xs n
theorem fX.snoc {x:Inf}:∀{is:List Inf} {nx n m:Nat},fX nx is n->Nw n x.nw m->fX nx (is++[x]) m
 |[],nx,n,m,h,h'=>by have:n=nx:=h;subst this;exact⟨m,h',rfl⟩
 |y::ys,nx,n,m,⟨k,h1,h2⟩,h'=>⟨k,h1,fX.snoc h2 h'⟩
theorem O0 {P:Program} {N:Nat} {ops:Array Oper} {base:St} {K:List Inf->St->Prop}:∀{l:List Oper} {is:List Inf} {st:St},DR P N ops l is st K->(∀k,gt st.sl k=gt (vN base is) k)->st.ob=G3 base is->fX base.nx is st.nx->
 ∃xs st',xs.length=l.length/\(∀(i:Nat) (o:Oper) (x:Inf),l[i]?=some o->xs[i]?=some x->Zm P N ops base (is++xs.take i) o x)/\fX base.nx (is++xs) st'.nx/\(∀k,gt st'.sl k=gt (vN base (is++xs)) k)/\st'.ob=G3 base (is++xs)/\K (is++xs) st'
 |[],is,st,h,h1,h2,h3=>⟨[],st,rfl,by simp,by simp_all,by simp_all,by simp_all,by simpa [DR] using h⟩
 |o::l,is,st,⟨x,st1,st2,hds,hsame,hr⟩,h1,h2,h3=>by
  have hput:∀(out:T) (nw:Laa) (n:Nat),x.out=out->x.nw=nw->st1=⟨(x.d,out)::st.sl,nw++st.ob,n⟩->Nw st.nx nw n->((∀k,gt st2.sl k=gt (vN base (is++[x])) k)/\st2.ob=G3 base (is++[x]))/\fX base.nx (is++[x]) st2.nx:=by
   rintro out nw n rfl rfl rfl hnw
   refine⟨⟨λk=>?_,?_⟩,?_⟩
   .rw[<-hsame.1 k,zm]
    by_cases hk:x.d=k
    .rw[hk,d4,d4]
    rw[di _ _ hk,di _ _ hk];exact h1 k
   .rw[<-hsame.2.1,H2,h2]
   rw[<-hsame.2.2];exact h3.snoc hnw
  have key:Zm P N ops base is o x/\((∀k,gt st2.sl k=gt (vN base (is++[x])) k)/\st2.ob=G3 base (is++[x]))/\fX base.nx (is++[x]) st2.nx:=by
   rcases hds with⟨hg,k1,k2,k3,k4,k5,k6,k7⟩|⟨j,dj,b,y,hg,hj,hdj,hb,⟨k1,k2,k3,k4,k5,k6,k7⟩,rfl⟩|⟨j,dj,b,d,hg,hj,hdj,hb,hd,hN,rfl,rfl⟩
   .exact⟨⟨λy t hm=>by rw[<-s4 h1];exact Lk.mem k4 y t hm,λl' ob hm=>by rw[<-h2];exact Lo.mem k5 l' ob hm,k2,k3,.inl ⟨hg,k1⟩⟩,hput _ _ _ rfl rfl k7 k6⟩
   .refine⟨⟨λy' t hm=>?_,λl' ob hm=>by rw[<-h2];exact Lo.mem k5 l' ob hm,k2,k3,.inr (.inl ⟨j,dj,b,y.needs,hg,hj,hdj,rfl,k1⟩)⟩,hput _ _ _ rfl rfl k7 k6⟩
    rw[<-s4 h1]
    rcases aae.1 hm with e|hm
    .cases e;exact hb
    exact Lk.mem k4 y' t hm
   refine⟨⟨λy' t hm=>?_,by simp,hd,hN,.inr (.inr ⟨j,dj,b,_,hg,hj,hdj,rfl,hb,rfl,rfl⟩)⟩,hput (.tup []) [] st.nx rfl rfl rfl rfl⟩
   rw[<-s4 h1]
   simp at hm;obtain⟨rfl,rfl⟩:=hm;rfl
  obtain⟨hT,⟨m1,m2⟩,m3⟩:=key
  obtain⟨xs,st',n1,n2,n3,n4,n5,n6⟩:=O0 hr m1 m2 m3
  refine⟨x::xs,st',by simp[n1],λi o' x' hi hx=>?_,by simp_all,by simp_all,by simp_all,by simp_all⟩
  cases i with
  |zero=>simp_all
  |succ i=>simp_all
theorem Ko {p:List α->Prop} (h0:p []) (h1:∀l x,p l->p (l++[x])) (l:List α):p l:=by
 have key:∀l:List α,p l.reverse:=by
  intro l
  induction l with
  |nil=>exact h0
  |cons x l ih=>rw[List.reverse_cons];exact h1 _ x ih
 have:=key l.reverse
 rwa [List.reverse_reverse] at this
theorem sB {ops:Array Oper} {listed:Array Bool} (hc:∀i o,ops[i]?=some o->listed.getD i false=true->∀e∈o.after,Region.binds .any e=true->listed.getD e.on false=true):
 ∀(n i j:Nat),anc ops n i j=true->(∃o,ops[i]?=some o/\∀e∈o.after,Region.binds .any e=true->listed.getD e.on false=true)->listed.getD j false=true
 |0,i,j,h,_=>by simp[anc] at h
 |n+1,i,j,h,⟨o,ho,hd⟩=>by
  simp only[anc,ho,aaD,hV,aam] at h
  obtain⟨e,he,hb,h⟩:=h
  have hl:=hd e (by simpa using he) hb
  rcases h with h|h
  .rw[<-aad h];exact hl
  cases ho':ops[e.on]? with
  |none=>cases n<;>simp[anc,ho'] at h
  |some o'=>exact sB hc n e.on j h ⟨o',ho',hc e.on o' ho' hl⟩
theorem sK:∀{is:List Inf},sJ is=true->∀(i j:Nat) (x y:Inf),is[i]?=some x->is[j]?=some y->x.d=y.d->i=j
 |[],_,i,j,x,y,h,_,_=>by simp at h
 |z::is,h,i,j,x,y,hi,hj,he=>by
  simp only[sJ,hV,aax] at h
  have hno:∀(k:Nat) (v:Inf),is[k]?=some v->z.d≠v.d:=λk v hk e=>by
   have:(is.any λy=>d0 z.d y.d)=true:=aaD.2 ⟨v,aab hk,by simp[e]⟩
   rw[this] at h;exact absurd h.1 (by simp)
  cases i with
  |zero=>
   cases j with
   |zero=>rfl
   |succ j=>simp at hi hj;subst hi;exact absurd he (hno j y hj)
  |succ i=>
   cases j with
   |zero=>simp at hi hj;subst hj;exact absurd he.symm (hno i x hi)
   |succ j=>have:=sK h.2 i j x y (by simpa using hi) (by simpa using hj) he;omega
theorem zl {base:St}:∀(is:List Inf) (k:Nat),(∀x∈is,x.d≠k)->gt (vN base is) k=gt base.sl k:=by
 intro is
 refine Ko (p:=λis=>∀(k:Nat),(∀x∈is,x.d≠k)->gt (vN base is) k=gt base.sl k) ?_ ?_ is
 .intro k _;rfl
 intro is x ih k h
 rw[zm,di _ _ (h x (by simp))]
 exact ih k λy hy=>h y (by simp[hy])
theorem wX {base:St}:∀(is:List Inf) (i:Nat) (x:Inf),is[i]?=some x->(∀(j:Nat) (y:Inf),is[j]?=some y->y.d=x.d->j=i)->gt (vN base is) x.d=x.out:=by
 intro is
 refine Ko (p:=λis=>∀(i:Nat) (x:Inf),is[i]?=some x->(∀(j:Nat) (y:Inf),is[j]?=some y->y.d=x.d->j=i)->gt (vN base is) x.d=x.out) ?_ ?_ is
 .intro i x h;simp at h
 intro is z ih i x h hu
 rw[zm]
 by_cases hi:i<is.length
 .rw[aal hi] at h
  have hz:z.d≠x.d:=λe=>by
   have:=hu is.length z (by simp) e
   omega
  rw[di _ _ hz]
  exact ih i x h λj y hj he=>hu j y (by rw[aal (aaa.1 hj).1];exact hj) he
 rw[aan oaa] at h
 have:i-is.length=0:=by
  rcases Nat.eq_zero_or_pos (i-is.length) with h0|h0
  .exact h0
  rw[List.getElem?_eq_none (by simp;omega)] at h;cases h
 rw[this] at h;simp at h;subst h
 exact d4 _ _ _
theorem Pc {base:St}:∀(is:List Inf) (l:Nat) (ob:Ob),go (G3 base is) l=some ob->(∃(j:Nat) (x:Inf),is[j]?=some x/\(l,ob)∈x.nw)\/go base.ob l=some ob:=by
 intro is
 refine Ko (p:=λis=>∀(l:Nat) (ob:Ob),go (G3 base is) l=some ob->(∃(j:Nat) (x:Inf),is[j]?=some x/\(l,ob)∈x.nw)\/go base.ob l=some ob) ?_ ?_ is
 .intro l ob h;exact .inr h
 intro is z ih l ob h
 rw[H2] at h
 rcases Cf h with h|h
 .exact .inl ⟨is.length,z,by simp,h⟩
 rcases ih l ob h with⟨j,x,h1,h2⟩|h
 .exact .inl ⟨j,x,by rw[aal (aaa.1 h1).1];exact h1,h2⟩
 exact .inr h
theorem lQ:∀{is:List Inf} {nx n:Nat},fX nx is n->nx<=n/\∀(j:Nat) (x:Inf) (l:Nat) (ob:Ob),is[j]?=some x->(l,ob)∈x.nw->nx<=l/\l<n
 |[],nx,n,h=>⟨by have:n=nx:=h;omega,by simp⟩
 |y::ys,nx,n,⟨m,h1,h2⟩=>by
  obtain⟨a1,a2⟩:=Nw.mem h1
  obtain⟨b1,b2⟩:=lQ h2
  refine⟨by omega,λj x l ob hj hm=>?_⟩
  cases j with
  |zero=>simp at hj;subst hj;have:=a2 l ob hm;omega
  |succ j=>have:=b2 j x l ob (by simpa using hj) hm;omega
theorem PK:∀{nw:Laa} {nx n:Nat},Nw nx nw n->∀l x y,(l,x)∈nw->(l,y)∈nw->x=y
 |[],_,_,_,l,x,y,h,_=>by simp at h
 |(k,z)::r,nx,n,h,l,x,y,h1,h2=>by
  rw[Nw] at h
  have hr:=(Nw.mem h.2).2
  rcases aae.1 h1 with e1|h1<;>rcases aae.1 h2 with e2|h2
  .cases e1;cases e2;rfl
  .cases e1;have:=hr _ _ h2;omega
  .cases e2;have:=hr _ _ h1;omega
  exact PK h.2 l x y h1 h2
theorem Fk:∀{is:List Inf} {nx n:Nat},fX nx is n->∀(j:Nat) (x:Inf) (l:Nat) (ob:Ob),is[j]?=some x->(l,ob)∈x.nw->rsv l=false
 |[],_,_,_,_,_,_,_,h,_=>by simp at h
 |y::ys,nx,n,⟨m,h1,h2⟩,0,x,l,ob,hx,hm=>by
  simp at hx;subst hx
  exact((Nw.mem h1).2 l ob hm).2.2
 |y::ys,nx,n,⟨m,h1,h2⟩,j+1,x,l,ob,hx,hm=>Fk h2 j x l ob (by simpa using hx) hm
theorem yX:∀{is:List Inf} {nx n:Nat},fX nx is n->∀(j j':Nat) (x x':Inf) (l:Nat) (ob ob':Ob),is[j]?=some x->is[j']?=some x'->(l,ob)∈x.nw->(l,ob')∈x'.nw->j=j'/\ob=ob'
 |[],nx,n,h,j,j',x,x',l,ob,ob',h1,_,_,_=>by simp at h1
 |y::ys,nx,n,⟨m,h1,h2⟩,j,j',x,x',l,ob,ob',hj,hj',hm,hm'=>by
  have a2:=(Nw.mem h1).2
  have b2:=(lQ h2).2
  cases j with
  |zero=>
   cases j' with
   |zero=>simp at hj hj';subst hj;subst hj';exact⟨rfl,PK h1 l ob ob' hm hm'⟩
   |succ j'=>simp at hj;subst hj;have k1:=a2 l ob hm;have k2:=b2 j' x' l ob' (by simpa using hj') hm';omega
  |succ j=>
   cases j' with
   |zero=>simp at hj';subst hj';have k1:=a2 l ob' hm';have k2:=b2 j x l ob (by simpa using hj) hm;omega
   |succ j'=>have:=yX h2 j j' x x' l ob ob' (by simpa using hj) (by simpa using hj') hm hm';exact⟨by omega,this.2⟩
structure Inv (P:Program) (N:Nat) (cx:Cx) (base:St) (is:List Inf) (listed:Array Bool) (a:Act) (w:World) (E:Env):Prop where
 ok:dJ cx E w
 dom:∀l x,E.r l=some x->l<base.nx\/∃j y ob,listed.getD j false=true/\is[j]?=some y/\(l,ob)∈y.nw
 obs:∀l ob,go base.ob l=some ob->dm E w l ob
 new:∀j y l ob,listed.getD j false=true->is[j]?=some y->(l,ob)∈y.nw->dm E w l ob
 out:∀j y,listed.getD j false=true->is[j]?=some y->cvT E w y.out (a.tmps.getD y.d undef)
 old:∀k,(∀j y,listed.getD j false=true->is[j]?=some y->y.d≠k)->cvT E w (gt base.sl k) (a.tmps.getD k undef)
 dfr:a.defers=[]
 size:a.tmps.size=N
 td:∀l b,E.T l b->l<base.nx
theorem cH {listed:Array Bool} (hi:i<listed.size):(listed.setIfInBounds i true).getD j false=if i=j then true else listed.getD j false:=by
 by_cases h:i=j
 .subst h;simp[hi]
 simp[h,aaU h]
section
variable {P:Program} {N:Nat} {cx:Cx} {ops:Array Oper} {base:St} {is:List Inf} {Q:Exit->Act->World->Prop}
theorem Uv {listed:Array Bool} (hI:Inv P N cx base is listed a w E) {nmax:Nat} (hlab:fX base.nx is nmax) (hdst:sJ is=true) {x:Inf} (hx:is[i]?=some x) (hil:i<listed.size)
 (hun:listed.getD i false=false) (hdN:x.d<N) {v:Value} (ok':dJ cx E' w') (ext:Ext E w E' w') (hv:cvT E' w' x.out v) (hnw:∀l ob,(l,ob)∈x.nw->dm E' w' l ob)
 (hdom:∀l y,E'.r l=some y->E.r l=some y\/∃ob,(l,ob)∈x.nw):Inv P N cx base is (listed.setIfInBounds i true) (a.put (some x.d) v) w' E':=by
 have hk:=lf.of_ext hI.ok ext
 have hd':∀j y,is[j]?=some y->j≠i->y.d≠x.d:=λj y hj hne he=>hne (sK hdst j i y x hj hx he)
 refine⟨ok',λl y hl=>?_,λl ob hl=>Cs hI.ok ext (hI.obs l ob hl),λj y l ob hj hy hm=>?_,λj y hj hy=>?_,λk hkk=>?_,hI.dfr,by simpa [Act.put] using hI.size,λl b h=>hI.td l b (by rw[<-ext.T];exact h)⟩
 .rcases hdom l y hl with h|⟨ob,h⟩
  .rcases hI.dom l y h with h|⟨j,z,ob,h1,h2,h3⟩
   .exact .inl h
   refine .inr ⟨j,z,ob,?_,h2,h3⟩
   rw[cH hil];split
   .rfl
   exact h1
  exact .inr ⟨i,x,ob,by rw[cH hil,if_pos rfl],hx,h⟩
 .by_cases hji:i=j
  .subst hji;rw[hx] at hy;cases hy;exact hnw l ob hm
  rw[cH hil,if_neg hji] at hj;exact Cs hI.ok ext (hI.new j y l ob hj hy hm)
 .by_cases hji:i=j
  .subst hji;rw[hx] at hy;cases hy
   rw[iJ (by rw[hI.size];exact hdN),if_pos rfl];exact hv
  rw[cH hil,if_neg hji] at hj
  rw[iJ (by rw[hI.size];exact hdN),if_neg (Ne.symm (hd' j y hy (Ne.symm hji)))]
  exact kT hk (hI.out j y hj hy)
 have hxk:x.d≠k:=hkk i x (by rw[cH hil,if_pos rfl]) hx
 rw[iJ (by rw[hI.size];exact hdN),if_neg hxk]
 refine kT hk (hI.old k λj y hj hy=>hkk j y ?_ hy)
 rw[cH hil];split
 .rfl
 exact hj
theorem OG (hN:is.length=ops.size) {nmax:Nat} (hlab:fX base.nx is nmax) (hdst:sJ is=true) (hbk:∀l ob,go base.ob l=some ob->l<base.nx)
 (hedge:∀i o,ops[i]?=some o->∀e∈o.after,Region.binds .any e=true->e.on<i)
 (hslot:∀i x,is[i]?=some x->∀k∈jH x.needs,∀j,uX is k=some j->if nlt j i then anc ops is.length i j=true else(i=j\/anc ops is.length j i=true))
 (hobj:∀i x,is[i]?=some x->∀p∈x.nob,p.1<base.nx\/∃j,Pv is p.1=some j/\anc ops is.length i j=true)
 (htold:∀(i:Nat) (o:Oper) (x:Inf),ops[i]?=some o->is[i]?=some x->Zm P N ops base (is.take i) o x)
 (hfin:∀listed a w E,(∀j,j<ops.size->listed.getD j false=true)->Inv P N cx base is listed a w E->Q .normal a w):
 ∀(fuel:Nat) (listed:Array Bool) (a:Act) (w:World) (E:Env),listed.size=ops.size->((f4 ops.size).filter λi=>!listed.getD i false).length=fuel->
  (∀i o,ops[i]?=some o->listed.getD i false=true->∀e∈o.after,Region.binds .any e=true->listed.getD e.on false=true)->Inv P N cx base is listed a w E->wpAny P .any ops Q fuel listed a w:=by
 have hall:∀(listed:Array Bool),((f4 ops.size).filter λi=>!listed.getD i false).length=0->∀j,j<ops.size->listed.getD j false=true:=by
  intro listed h j hj
  have:=aaL h
  have h2:=List.filter_eq_nil_iff.1 this j (by simpa using hj)
  simpa using h2
 intro fuel
 induction fuel with
 |zero=>
  intro listed a w E hsz hc hcl hI
  have hal:=hall listed hc
  refine⟨?_,hfin listed a w E hal hI⟩
  rw[List.eq_nil_iff_forall_not_mem]
  intro i hi
  obtain⟨h1,o,h2,h3⟩:=mem_ready.1 hi
  have hil:i<ops.size:=by
   rcases aao i ops.size with h|h
   .exact h
   rw[aaw h] at h2;cases h2
  have:=hal i hil
  rw[aaC,aar oaa] at this h1
  simp at this h1
  rw[this] at h1;cases h1
 |succ fuel ih=>
  intro listed a w E hsz hc hcl hI
  refine⟨λh0=>?_,λi hi=>?_⟩
  .
    exfalso
    have hex:∃i,i<ops.size/\listed.getD i false=false:=by
     have:((f4 ops.size).filter λi=>!listed.getD i false)≠[]:=λe=>by rw[e] at hc;simp at hc
     obtain⟨i,hi⟩:=List.exists_mem_of_ne_nil _ this
     simp only[List.mem_filter,List.mem_range,aax] at hi
     exact⟨i,hi.1,hi.2⟩
    have hmin:∀n i,i<=n->i<ops.size->listed.getD i false=false->∃i,i∈Region.ready .any ops listed:=by
     intro n
     induction n using aa3 with
     |_ n ihn=>
      intro i hin his hif
      by_cases hd:∀e∈ops[i].after,Region.binds .any e=true->listed.getD e.on false=true
      .refine⟨i,mem_ready.2 ⟨?_,ops[i],aar his,hd⟩⟩
       rw[aaC,aar oaa] at hif ⊢
       simpa using hif
      simp only[Classical.not_forall] at hd
      obtain⟨e,he,hb,hne⟩:=hd
      have hlt:=hedge i ops[i] (aar his) e he hb
      exact ihn e.on oaa e.on (aah _) oaa (by simpa using hne)
    obtain⟨i,h1,h2⟩:=hex
    obtain⟨j,hj⟩:=hmin i i (aah _) h1 h2
    rw[h0] at hj;cases hj
  obtain⟨h1,o,ho,hd⟩:=mem_ready.1 hi
  have hio:i<ops.size:=by
   rcases aao i ops.size with h|h
   .exact h
   rw[aaw h] at ho;cases ho
  have hun:listed.getD i false=false:=by
   rw[aaC,aar oaa] at h1 ⊢
   simpa using h1
  obtain⟨x,hx⟩:∃x,is[i]?=some x:=⟨_,v0 oaa⟩
  obtain⟨t1,t2,t3,t4,t5⟩:=htold i o x ho hx
  have hanc:∀j,anc ops is.length i j=true->listed.getD j false=true:=λj hj=>sB hcl _ i j hj ⟨o,ho,hd⟩
  have hneeds:∀y t,(y,t)∈x.needs->cvT E w t (a.eval y):=by
   intro y t hm
   have ht:=t1 y t hm
   cases y with
   |tmp k=>
    have hks:k∈jH x.needs:=by
     have key:∀(l:List (Operand×T)),(Operand.tmp k,t)∈l->k∈jH l:=by
      intro l
      induction l with
      |nil=>intro h;cases h
      |cons p r ihl=>
       intro h
       rcases aae.1 h with e|h
       .rw[<-e];simp[jH]
       have h9:=ihl h;obtain⟨z,u⟩:=p;cases z<;>simp[jH,h9]
     exact key _ hm
    show cvT E w t (a.tmps.getD k undef)
    have ht':gt (vN base (is.take i)) k=t:=ht
    cases hw:uX is k with
    |none=>
     have hno:∀z∈is,z.d≠k:=by
      intro z hz e
      have:=aa0.1 hw z hz
      rw[e] at this;simp at this
     rw[zl _ _ (λz hz=>hno z (aaA hz))] at ht'
     rw[<-ht']
     exact hI.old k λj y _ hy=>hno y (aab hy)
    |some j=>
     have hs:=hslot i x hx k hks j hw
     obtain⟨hjl,hjp,_⟩:=aaW.1 hw
     have hjd:is[j].d=k:=aad hjp
     have hju:∀j' y,is[j']?=some y->y.d=k->j'=j:=λj' y hy he=>sK hdst j' j y is[j] hy (v0 hjl) (by rw[he,hjd])
     by_cases hji:j<i
     .rw[if_pos (by simp[nlt];omega)] at hs
      have hdone:=hanc j hs
      have:=hI.out j is[j] hdone (v0 hjl)
      rw[hjd] at this
      have h9:=wX (base:=base) (is.take i) j is[j] (by rw[aat,if_pos hji];exact v0 hjl) (λj' y hy he=>hju j' y (by rw[aat] at hy;split at hy;exact hy;cases hy) (by rw[he,hjd]))
      rw[hjd] at h9
      rw[<-ht',h9];exact this
     rw[if_neg (by simp[nlt];omega)] at hs
     rw[zl _ _ (λz hz e=>by
      obtain⟨j',hj'⟩:=aap hz
      rw[aat] at hj'
      split at hj'
      .rename_i hlt;have:=hju j' z hj' e;omega
      cases hj')] at ht'
     rw[<-ht']
     refine hI.old k λj' y hj' hy he=>?_
     have hjj:=hju j' y hy he
     subst hjj
     rcases hs with rfl|hs
     .rw[hun] at hj';cases hj'
     have:listed.getD i false=true:=sB hcl _ j' i hs (by
      obtain⟨o',ho'⟩:∃o',ops[j']?=some o':=⟨_,aar oaa⟩
      exact⟨o',ho',hcl j' o' ho' hj'⟩)
     rw[hun] at this;cases this
   |const v=>have:=(show Rel N cx E ⟨[],[],base.nx⟩ a w->cvT E w (opT [] (.const v)) (a.eval (.const v)) from λh=>h.op _);rw[<-ht];cases v<;>simp only[opT,Act.eval,cvT,cvV]<;>first|exact yM E w _|exact⟨_,rfl,uY E w _⟩|(simp only[cvC,rdD])
   |func f=>rw[<-ht];simp[opT,Act.eval,cvT,cvV,cvC]
   |global g=>rw[<-ht];trivial
  have hnob:∀l ob,(l,ob)∈x.nob->dm E w l ob:=by
   intro l ob hm
   have hgo:=t2 l ob hm
   rcases Pc _ _ _ hgo with⟨j,y,hj,hy⟩|h
   .rw[aat] at hj
    split at hj
    .rename_i hji
     have hlr:=(lQ hlab).2 j y l ob hj hy
     rcases hobj i x hx (l,ob) hm with h|⟨j',hj',hanc'⟩
     .simp at h;omega
     obtain⟨hjl,hjp,_⟩:=aaW.1 hj'
     obtain⟨p,hp1,hp2⟩:=aaD.1 hjp
     obtain⟨pl,pob⟩:=p
     have hpl:pl=l:=aad hp2
     subst hpl
     have:=yX hlab j j' y is[j'] pl ob pob hj (v0 hjl) hy hp1
     exact hI.new j y pl ob (by rw[this.1];exact hanc j' hanc') hj hy
    cases hj
   exact hI.obs l ob h
  have hfresh:∀l ob,(l,ob)∈x.nw->E.r l=none:=by
   intro l ob hm
   cases hr:E.r l with
   |none=>rfl
   |some p=>
    have hlr:=(lQ hlab).2 i x l ob hx hm
    rcases hI.dom l p hr with h|⟨j,y,ob',h1,h2,h3⟩
    .omega
    have:=(yX hlab i j x y l ob ob' hx h2 hm h3).1
    subst this;rw[hun] at h1;cases h1
  have hnext:∀v E' w',dJ cx E' w'->Ext E w E' w'->cvT E' w' x.out v->(∀l ob,(l,ob)∈x.nw->dm E' w' l ob)->(∀l y,E'.r l=some y->E.r l=some y\/∃ob,(l,ob)∈x.nw)->
   wpAny P .any ops Q fuel (listed.setIfInBounds i true) (a.put (some x.d) v) w':=by
   intro v E' w' k1 k2 k3 k4 k5
   refine ih _ _ _ E' (by simpa using hsz) ?_ ?_ (Uv hI hlab hdst hx oaa hun t4 k1 k2 k3 k4 k5)
   .
     have hcount:∀(l:List Nat),l.Nodup->i∈l->(l.filter λk=>!listed.getD k false).length=(l.filter λk=>!(listed.setIfInBounds i true).getD k false).length+1:=by
      intro l
      induction l with
      |nil=>intro _ h;cases h
      |cons k l ihl=>
       intro hnd hm
       obtain⟨hk1,hk2⟩:=aaY.1 hnd
       by_cases hki:i=k
       .subst hki
        have hsame:(l.filter λk=>!listed.getD k false)=(l.filter λk=>!(listed.setIfInBounds i true).getD k false):=by
         apply List.filter_congr
         intro z hz
         rw[cH oaa,if_neg (λe=>hk1 (by rw[e];exact hz))]
        rw[aaM (by simp only[aax];exact hun),aaN (by rw[cH oaa,if_pos rfl];simp),hsame,aai]
       have hml:i∈l:=by rcases aae.1 hm with e|e;exact absurd e hki;exact e
       have:=ihl hk2 hml
       have hgk:(listed.setIfInBounds i true).getD k false=listed.getD k false:=by rw[cH oaa,if_neg hki]
       cases hgd:listed.getD k false with
       |true=>rw[aaN (by simp only[hgd];simp),aaN (by simp only[hgk,hgd];simp)];exact this
       |false=>rw[aaM (by simp only[hgd];simp),aaM (by simp only[hgk,hgd];simp),aai,aai,this]
     have:=hcount (f4 ops.size) List.nodup_range (by simpa using hio)
     omega
   intro j oj hj hdj e he hb
   rw[cH oaa]
   split
   .rfl
   rw[cH oaa] at hdj
   split at hdj
   .rename_i hij;subst hij;rw[ho] at hj;cases hj;exact hd e he hb
   exact hcl j oj hj hdj e he hb
  have hrun:∀needs,(∀y t,(y,t)∈needs->cvT E w t (a.eval y))->AWN P o needs x.nob x.out x.nw->o.wp P a w (wpAny P .any ops Q fuel (listed.setIfInBounds i true)) Q:=by
   intro needs hne hawn
   refine tz (λ_ _ _ h=>h.elim) (Oper.wp_mono ?_ (hawn cx E a w hI.ok hne hnob (λl ob hm=>⟨hfresh l ob hm,Fk hlab i x l ob hx hm⟩)))
   rintro a' w' ⟨v,E',rfl,k1,k2,k3,k4,k5⟩
   rw[t3]
   exact hnext v E' w' k1 k2 k3 k4 k5
  have hguard:∀j dj (b:Bool),(ops[j]?).bind (·.dst)=some dj->dj<N->cvT E w (tB b) (a.eval (.tmp dj))->yielded ops a.tmps j=some b:=by
   intro j dj b hj hdj hcv
   have hb:a.tmps.getD dj undef= .bool b:=by simpa [cvT,cvV,cvC,rdD,Act.eval] using hcv
   have hs:dj<a.tmps.size:=by rw[hI.size];exact hdj
   have h2:a.tmps[dj]?=some (.bool b):=by
    rw[aar hs];simpa [aa1,hs] using hb
   unfold yielded
   cases ho':ops[j]? with
   |none=>simp[ho'] at hj
   |some o'=>simp[ho'] at hj;simp[hj,h2]
  unfold wpOp
  simp only[ho]
  rcases t5 with⟨hg,hawn⟩|⟨j,dj,b,ys,hg,hj,hdj,hnd,hawn⟩|⟨j,dj,b,t,hg,hj,hdj,hnd,hno,hout,hnw⟩
  .rw[if_pos (by simp[Region.wanted,hg])]
   exact .inl (hrun _ hneeds hawn)
  .have hy:=hguard j dj b hj hdj (hneeds (.tmp dj) (tB b) (by rw[hnd];simp))
   rw[if_pos (by simp[Region.wanted,hg,hy])]
   exact .inl (hrun ys (λy t hm=>hneeds y t (by rw[hnd];exact .tail _ hm)) hawn)
  have hy:=GF (N:=N) (ops:=ops) (hneeds (.tmp dj) t (by rw[hnd];simp)) (by rw[hI.size];exact hdj) hj hno
  rw[if_neg (by simp[Region.wanted,hg,hy]),t3]
  exact hnext undef E w hI.ok (Ext.refl E w) (by rw[hout];exact⟨#[],rfl,trivial⟩) (by rw[hnw];simp) (λ_ _ h=>.inl h)
end
theorem ik (n i:Nat):(aak n false).getD i false=false:=by
 by_cases h:i<n<;>simp[h]
theorem Bz {cx:Cx} (hR:Rel N cx E st a w):Rel N cx E st a {w with drawn:=w.drawn+1}:=by
 have hk:lf E w E {w with drawn:=w.drawn+1}:=⟨λ_ _ h=>h,λ_ _ h=>h,λ_ _ _=>rfl,λ_ _ h=>⟨h,rfl⟩,λ_ h=>⟨h,.of_eq rfl⟩,rfl⟩
 exact⟨⟨hR.ok.fb,hR.ok.gf,hR.ok.gn,hR.ok.rb,hR.ok.inj,hR.ok.os,hR.ok.tape,hR.ok.output,hR.ok.size,hR.ok.block,hR.ok.pin,hR.ok.ff,λb h h'=>(hR.ok.gc b h h').of_eq rfl,hR.ok.sf.grow rfl rfl (λ_ h=>.inl h) (λo b c h=>.inl ⟨o,c,h⟩) (aah _) (λ_ _=>rfl)⟩,hR.dom,λl ob h=>gU hk (λ_ _ _=>rfl) (λ_ _ _ h=>h) (hR.obs l ob h),λk=>kT hk (hR.sl k),hR.dfr,hR.size,hR.td⟩
def U3 (n:Nat):Laa->Bool
 |[]=>true
 |(l,_)::r=>nlt l n&&U3 n r
theorem PN {n:Nat}:∀{ob:Laa} {l:Nat} {x:Ob},U3 n ob=true->go ob l=some x->l<n
 |(k,v)::r,l,x,h,hg=>by
  simp only[U3,hV] at h
  by_cases hk:k=l
  .subst hk;exact dr h.1
  rw[b7 _ _ hk] at hg;exact PN h.2 hg
theorem Tp {l:List Oper} {AQ:Exit->St->Prop} (hm:P.follows .mixedOrders=true:=by exact Try.follows) (hol:U3 st.nx st.ob=true:=by exact rfl)
 (h:DR P N l.toArray l [] st (λis s=>z7 l.toArray is st.nx=true/\AQ .normal s)):AWC P N (.region id l.toArray true) st AQ:=by
 intro cx E a w hR
 obtain⟨is,st',n1,n2,n3,n4,n5,n6,n7⟩:=O0 (base:=st) h (λ_=>rfl) rfl rfl
 simp only[List.nil_append] at n2 n3 n4 n5 n6
 simp only[z7,hV] at n6
 obtain⟨⟨c1,c2⟩,c3⟩:=n6
 have hlen:is.length=l.toArray.size:=by simpa using n1
 have hall:∀(i:Nat) (x:Inf) (o:Oper),is[i]?=some x->l.toArray[i]?=some o->(∀e∈o.after,Region.binds .any e=true->e.on<i)/\
  (∀k∈jH x.needs,∀j,uX is k=some j->if nlt j i then anc l.toArray is.length i j=true else(i=j\/anc l.toArray is.length j i=true))/\
  (∀p∈x.nob,p.1<st.nx\/∃j,Pv is p.1=some j/\anc l.toArray is.length i j=true):=by
  intro i x o hx ho
  have hil:i<is.length:=(aaa.1 hx).1
  have:=aag.1 c3 i (by simpa using hil)
  simp only[hx,ho,hV,aag] at this
  obtain⟨⟨k1,k2⟩,k3⟩:=this
  refine⟨λe he hb=>?_,λk hk j hj=>?_,λp hp=>?_⟩
  .have:=k1 e (by simpa using he);simp only[hb,Bool.not_true,aaJ] at this;exact dr this
  .have:=k2 k hk
   simp only[hj] at this
   split
   .rename_i hji;simpa [hji] using this
   rename_i hji
   simp only[hji,Bool.false_eq_true,if_false,aam] at this
   rcases this with h|h
   .exact .inl (aad h)
   exact .inr h
  have:=k3 p hp
  simp only[aam] at this
  rcases this with h|h
  .exact .inl (dr h)
  cases hmk:Pv is p.1 with
  |none=>simp[hmk] at h
  |some j=>simp only[hmk] at h;exact .inr ⟨j,rfl,h⟩
 have hop:∀i x,is[i]?=some x->∃o,l.toArray[i]?=some o:=λi x hx=>⟨_,aar (by have:=(aaa.1 hx).1;omega)⟩
 have hix:∀(i:Nat) (o:Oper),l.toArray[i]?=some o->∃x,is[i]?=some x:=λi o ho=>⟨_,v0 (by
  have:i<l.toArray.size:=by
   rcases aao i l.toArray.size with h|h
   .exact h
   rw[aaw h] at ho;cases ho
  omega)⟩
 refine wp_region_any hm ?_
 have hR':=Bz hR
 refine OG (P:=P) (N:=N) (cx:=cx) (base:=st) (is:=is) hlen n3 c2 ?_ ?_ ?_ ?_ ?_ ?_ _ _ _ _ E (by simp) ?_ ?_ ?_
 .intro i ob h;exact PN hol h
 .intro i o ho;obtain⟨x,hx⟩:=hix i o ho;exact(hall i x o hx ho).1
 .intro i x hx;obtain⟨o,ho⟩:=hop i x hx;exact(hall i x o hx ho).2.1
 .intro i x hx;obtain⟨o,ho⟩:=hop i x hx;exact(hall i x o hx ho).2.2
 .intro i o x ho hx;exact n2 i o x (by simpa using ho) hx
 .intro listed a' w' E' hdone hI
  refine⟨E',st',⟨hI.ok,λl' x' hl=>?_,λl' ob hl=>?_,λk=>?_,hI.dfr,hI.size,λl' b' h'=>aau (hI.td l' b' h') (lQ n3).1⟩,n7⟩
  .have hr:=lQ n3
   rcases hI.dom l' x' hl with h|⟨j,y,ob,_,h2,h3⟩
   .omega
   have:=hr.2 j y l' ob h2 h3;omega
  .rw[n5] at hl
   rcases Pc _ _ _ hl with⟨j,x',hj,hx'⟩|h
   .exact hI.new j x' l' ob (hdone j (by have:=(aaa.1 hj).1;omega)) hj hx'
   exact hI.obs l' ob h
  rw[n4 k]
  cases hw:uX is k with
  |none=>
   have hno:∀z∈is,z.d≠k:=by
    intro z hz e
    have:=aa0.1 hw z hz
    rw[e] at this;simp at this
   rw[zl _ _ hno]
   exact hI.old k λj y _ hy=>hno y (aab hy)
  |some j=>
   obtain⟨hjl,hjp,_⟩:=aaW.1 hw
   have hjd:is[j].d=k:=aad hjp
   have:=hI.out j is[j] (hdone j oaa) (v0 hjl)
   have h9:=wX (base:=st) is j is[j] (v0 hjl) (λj' y hy he=>sK c2 j' j y is[j] hy (v0 hjl) he)
   rw[hjd] at h9 this
   rw[h9];exact this
 .rw[List.filter_eq_self.2]
  .simp
  intro i hi;rw[ik];rfl
 .intro i o ho hd;rw[ik] at hd;cases hd
 refine⟨hR'.ok,λl' x' hl=>.inl (hR'.dom l' x' hl),hR'.obs,(λj y l' ob hd=>by rw[ik] at hd;cases hd),(λj y hd=>by rw[ik] at hd;cases hd),λk _=>hR'.sl k,hR'.dfr,hR'.size,hR'.td⟩
def nxt (nx:Nat):Option Nat:=bif rsv nx then none else some (nx+1)
theorem pR {ob:Ob} (h:nxt nx=some nx'):Nw nx [(nx,ob)] nx':=by
 unfold nxt at h
 cases hr:rsv nx with
 |true=>rw[hr] at h;cases h
 |false=>rw[hr] at h;exact⟨⟨rfl,hr⟩,(Option.some.inj h).symm⟩
theorem KA {n:Int} (h: -9223372036854775808<=n/\n<=9223372036854775807):IntKind.i64.wrap n=n:=by rw[IntKind.wrap_i64];omega
section
variable {P:Program} {N:Nat} {d:Tmp} {ty:TypeId} {ps:String} {af:Array Edge} {gd:Option (Nat×Bool)} {x y z:Operand} {sl:Lab} {ob:Laa} {nx:Nat}
abbrev NS0 (P:Program) (N:Nat) (o:Oper) (sl:Lab) (ob:Laa) (nx:Nat) (d:Tmp) (out:T) (x:Inf):Prop:=NS P N o ⟨sl,ob,nx⟩ ⟨(d,out)::sl,ob,nx⟩ x
theorem mv1 {c:C} (h:opT sl x= .v (.c c)) (hN:nlt d N=true):NS0 P N ⟨some d,.move x,ty,ps,af,gd⟩ sl ob nx d (.v (.c c)) ⟨d,[(x,.v (.c c))],[],.v (.c c),[]⟩:=dT (st:=⟨sl,ob,nx⟩) NH rfl hN ⟨h,trivial⟩ trivial rfl
theorem mv2 {c:List C} (h:opT sl x= .v (.agg c)) (hN:nlt d N=true):NS0 P N ⟨some d,.move x,ty,ps,af,gd⟩ sl ob nx d (.v (.agg c)) ⟨d,[(x,.v (.agg c))],[],.v (.agg c),[]⟩:=dT (st:=⟨sl,ob,nx⟩) NH rfl hN ⟨h,trivial⟩ trivial rfl
theorem mv3 {c:List V} (h:opT sl x= .tup c) (hN:nlt d N=true):NS0 P N ⟨some d,.move x,ty,ps,af,gd⟩ sl ob nx d (.tup c) ⟨d,[(x,.tup c)],[],.tup c,[]⟩:=dT (st:=⟨sl,ob,nx⟩) NH rfl hN ⟨h,trivial⟩ trivial rfl
theorem as1 {c:C} (h:opT sl x= .v (.c c)) (hN:nlt d N=true):NS0 P N ⟨some d,.assign x,ty,ps,af,gd⟩ sl ob nx d (.v (.c c)) ⟨d,[(x,.v (.c c))],[],.v (.c c),[]⟩:=dT (st:=⟨sl,ob,nx⟩) Fs rfl hN ⟨h,trivial⟩ trivial rfl
theorem as2 {c:List C} (h:opT sl x= .v (.agg c)) (hN:nlt d N=true):NS0 P N ⟨some d,.assign x,ty,ps,af,gd⟩ sl ob nx d (.v (.agg c)) ⟨d,[(x,.v (.agg c))],[],.v (.agg c),[]⟩:=dT (st:=⟨sl,ob,nx⟩) Fs rfl hN ⟨h,trivial⟩ trivial rfl
theorem as3 {c:List V} (h:opT sl x= .tup c) (hN:nlt d N=true):NS0 P N ⟨some d,.assign x,ty,ps,af,gd⟩ sl ob nx d (.tup c) ⟨d,[(x,.tup c)],[],.tup c,[]⟩:=dT (st:=⟨sl,ob,nx⟩) Fs rfl hN ⟨h,trivial⟩ trivial rfl
theorem pk1 {c:C} (h:opT sl x= .v (.c (.d g (.b true)))) (hy:opT sl y= .v (.c c)) (hN:nlt d N=true):NS0 P N ⟨some d,.pick x y z,ty,ps,af,gd⟩ sl ob nx d (.v (.c c)) ⟨d,[(x,.v (.c (.d g (.b true)))),(y,.v (.c c))],[],.v (.c c),[]⟩:=dT (st:=⟨sl,ob,nx⟩) LR rfl hN ⟨h,hy,trivial⟩ trivial rfl
theorem pk0 {c:C} (h:opT sl x= .v (.c (.d g (.b false)))) (hz:opT sl z= .v (.c c)) (hN:nlt d N=true):NS0 P N ⟨some d,.pick x y z,ty,ps,af,gd⟩ sl ob nx d (.v (.c c)) ⟨d,[(x,.v (.c (.d g (.b false)))),(z,.v (.c c))],[],.v (.c c),[]⟩:=dT (st:=⟨sl,ob,nx⟩) JP rfl hN ⟨h,hz,trivial⟩ trivial rfl
theorem io {op:BinOp} {k:IntKind} {a b:Int} {r:D} (hx:opT sl x= .v (.c (.d g (.i k a)))) (hy:opT sl y= .v (.c (.d g' (.i k b)))) (hN:nlt d N=true) (h:Ut op k a b=some r):
 NS0 P N ⟨some d,.binOp op t x y t',ty,ps,af,gd⟩ sl ob nx d (.v (.c (.d false r))) ⟨d,[(x,.v (.c (.d g (.i k a)))),(y,.v (.c (.d g' (.i k b))))],[],.v (.c (.d false r)),[]⟩:=dT (st:=⟨sl,ob,nx⟩) (n_int h) rfl hN ⟨hx,hy,trivial⟩ trivial rfl
theorem iqT {k:IntKind} {a b:Int} (hx:opT sl x= .v (.c (.d g (.i k a)))) (hy:opT sl y= .v (.c (.d g' (.i k b)))) (hN:nlt d N=true) (he:decide (a=b)=true):
 NS0 P N ⟨some d,.binOp .eql t x y t',ty,ps,af,gd⟩ sl ob nx d (.v (.c (.d false (.b true)))) ⟨d,[(x,.v (.c (.d g (.i k a)))),(y,.v (.c (.d g' (.i k b))))],[],.v (.c (.d false (.b true))),[]⟩:=io hx hy hN (by show some (D.b (eqB a b))=_;rw[<-Ns,he])
theorem iqF {k:IntKind} {a b:Int} (hx:opT sl x= .v (.c (.d g (.i k a)))) (hy:opT sl y= .v (.c (.d g' (.i k b)))) (hN:nlt d N=true) (he:decide (a=b)=false):
 NS0 P N ⟨some d,.binOp .eql t x y t',ty,ps,af,gd⟩ sl ob nx d (.v (.c (.d false (.b false)))) ⟨d,[(x,.v (.c (.d g (.i k a)))),(y,.v (.c (.d g' (.i k b))))],[],.v (.c (.d false (.b false))),[]⟩:=io hx hy hN (by show some (D.b (eqB a b))=_;rw[<-Ns,he])
theorem is {a b:Int} (hx:opT sl x= .v (.c (.d g (.i .i64 a)))) (hy:opT sl y= .v (.c (.d g' (.i .i64 b)))) (hN:nlt d N=true) (h: -9223372036854775808<=a-b/\a-b<=9223372036854775807):
 NS0 P N ⟨some d,.binOp .sub t x y t',ty,ps,af,gd⟩ sl ob nx d (tI (a-b)) ⟨d,[(x,.v (.c (.d g (.i .i64 a)))),(y,.v (.c (.d g' (.i .i64 b))))],[],tI (a-b),[]⟩:=by
 have:=io (P:=P) (N:=N) (d:=d) (ty:=ty) (ps:=ps) (af:=af) (gd:=gd) (ob:=ob) (nx:=nx) (t:=t) (t':=t') (op:=.sub) hx hy hN rfl
 rwa [KA h] at this
theorem ir {k:IntKind} {a b:Int} (hx:opT sl x= .v (.c (.d g (.i k a)))) (hy:opT sl y= .v (.c (.d g' (.i k b)))) (hN:nlt d N=true) (h:b≠0):
 NS0 P N ⟨some d,.binOp .rem t x y t',ty,ps,af,gd⟩ sl ob nx d (.v (.c (.d false (.i k (a.tmod b))))) ⟨d,[(x,.v (.c (.d g (.i k a)))),(y,.v (.c (.d g' (.i k b))))],[],.v (.c (.d false (.i k (a.tmod b)))),[]⟩:=dT (st:=⟨sl,ob,nx⟩) (n_rem h) rfl hN ⟨hx,hy,trivial⟩ trivial rfl
theorem iq {k:IntKind} {a b:Int} (hx:opT sl x= .v (.c (.d g (.i k a)))) (hy:opT sl y= .v (.c (.d g' (.i k b)))) (hN:nlt d N=true) (h:b≠0):
 NS0 P N ⟨some d,.binOp .quo t x y t',ty,ps,af,gd⟩ sl ob nx d (.v (.c (.d false (.i k (k.wrap (a.tdiv b)))))) ⟨d,[(x,.v (.c (.d g (.i k a)))),(y,.v (.c (.d g' (.i k b))))],[],.v (.c (.d false (.i k (k.wrap (a.tdiv b))))),[]⟩:=dT (st:=⟨sl,ob,nx⟩) (n_quo h) rfl hN ⟨hx,hy,trivial⟩ trivial rfl
theorem se {a b:ByteArray} (hx:opT sl x= .v (.c (.d g (.str a)))) (hy:opT sl y= .v (.c (.d g' (.str b)))) (hN:nlt d N=true):
 NS0 P N ⟨some d,.binOp .eql t x y t',ty,ps,af,gd⟩ sl ob nx d (tB (strB a b)) ⟨d,[(x,.v (.c (.d g (.str a)))),(y,.v (.c (.d g' (.str b))))],[],tB (strB a b),[]⟩:=dT (st:=⟨sl,ob,nx⟩) UV rfl hN ⟨hx,hy,trivial⟩ trivial rfl
theorem sn {a b:ByteArray} (hx:opT sl x= .v (.c (.d g (.str a)))) (hy:opT sl y= .v (.c (.d g' (.str b)))) (hN:nlt d N=true):
 NS0 P N ⟨some d,.binOp .neq t x y t',ty,ps,af,gd⟩ sl ob nx d (tB (!strB a b)) ⟨d,[(x,.v (.c (.d g (.str a)))),(y,.v (.c (.d g' (.str b))))],[],tB (!strB a b),[]⟩:=dT (st:=⟨sl,ob,nx⟩) UW rfl hN ⟨hx,hy,trivial⟩ trivial rfl
theorem un (hx:opT sl x= .v (.c (.d g (.b b)))) (hN:nlt d N=true):NS0 P N ⟨some d,.unOp .not t x,ty,ps,af,gd⟩ sl ob nx d (tB (!b)) ⟨d,[(x,.v (.c (.d g (.b b))))],[],tB (!b),[]⟩:=dT (st:=⟨sl,ob,nx⟩) n_not rfl hN ⟨hx,trivial⟩ trivial rfl
theorem ng {k:IntKind} {n:Int} (hx:opT sl x= .v (.c (.d g (.i k n)))) (hN:nlt d N=true):NS0 P N ⟨some d,.unOp .neg t x,ty,ps,af,gd⟩ sl ob nx d (.v (.c (.d false (.i k (k.wrap (0-n)))))) ⟨d,[(x,.v (.c (.d g (.i k n))))],[],.v (.c (.d false (.i k (k.wrap (0-n))))),[]⟩:=dT (st:=⟨sl,ob,nx⟩) n_neg rfl hN ⟨hx,trivial⟩ trivial rfl
theorem cv {ds:TypeDesc} {k k':IntKind} {n:Int} [TyU P t ds] [TyU P t' (.int k')] (hx:opT sl x= .v (.c (.d g (.i k n)))) (hN:nlt d N=true):
 NS0 P N ⟨some d,.convert t t' x,ty,ps,af,gd⟩ sl ob nx d (.v (.c (.d false (.i k' (k'.wrap n))))) ⟨d,[(x,.v (.c (.d g (.i k n))))],[],.v (.c (.d false (.i k' (k'.wrap n)))),[]⟩:=dT (st:=⟨sl,ob,nx⟩) Z9 rfl hN ⟨hx,trivial⟩ trivial rfl
theorem ex {ts:List V} {v:V} (hx:opT sl x= .tup ts) (hN:nlt d N=true) (h:ts[i]?=some v):NS0 P N ⟨some d,.extract x i,ty,ps,af,gd⟩ sl ob nx d (.v v) ⟨d,[(x,.tup ts)],[],.v v,[]⟩:=dT (st:=⟨sl,ob,nx⟩) (Rk h) rfl hN ⟨hx,trivial⟩ trivial rfl
theorem nc {o:Nat} (hx:opT sl x= .v (.c (.p o k))) (hN:nlt d N=true):NS0 P N ⟨some d,.nilCheck x,ty,ps,af,gd⟩ sl ob nx d (.v (.c (.p o k))) ⟨d,[(x,.v (.c (.p o k)))],[],.v (.c (.p o k)),[]⟩:=dT (st:=⟨sl,ob,nx⟩) JO rfl hN ⟨hx,trivial⟩ trivial rfl
theorem lw {o:Nat} [eB P t e sz by_] (hx:opT sl x= .v (.c (.w o n))) (hN:nlt d N=true):NS0 P N ⟨some d,.call ⟨.builtin .len,#[x],#[t]⟩,ty,ps,af,gd⟩ sl ob nx d (tI n) ⟨d,[(x,.v (.c (.w o n)))],[],tI n,[]⟩:=dT (st:=⟨sl,ob,nx⟩) XK rfl hN ⟨hx,trivial⟩ trivial rfl
theorem ls {o zz:Nat} [eB P t e sz by_] (hx:opT sl x= .v (.c (.s o zz off n))) (hN:nlt d N=true):NS0 P N ⟨some d,.call ⟨.builtin .len,#[x],#[t]⟩,ty,ps,af,gd⟩ sl ob nx d (tI n) ⟨d,[(x,.v (.c (.s o zz off n)))],[],tI n,[]⟩:=dT (st:=⟨sl,ob,nx⟩) XJ rfl hN ⟨hx,trivial⟩ trivial rfl
theorem ld {xs:Lad} [eB P t e sz by_] (hx:opT sl x= .v (.c (.d g (.l xs)))) (hN:nlt d N=true):NS0 P N ⟨some d,.call ⟨.builtin .len,#[x],#[t]⟩,ty,ps,af,gd⟩ sl ob nx d (tI xs.length) ⟨d,[(x,.v (.c (.d g (.l xs))))],[],tI xs.length,[]⟩:=dT (st:=⟨sl,ob,nx⟩) XI rfl hN ⟨hx,trivial⟩ trivial rfl
theorem ln [eB P t e sz by_] (hx:opT sl x= .v (.c .nil)) (hN:nlt d N=true):NS0 P N ⟨some d,.call ⟨.builtin .len,#[x],#[t]⟩,ty,ps,af,gd⟩ sl ob nx d (tI 0) ⟨d,[(x,.v (.c .nil))],[],tI 0,[]⟩:=dT (st:=⟨sl,ob,nx⟩) Rr rfl hN ⟨hx,trivial⟩ trivial rfl
theorem ZY {s:ByteArray} [TyU P t .string] (hx:opT sl x= .v (.c (.d g (.str s)))) (hN:nlt d N=true):NS0 P N ⟨some d,.call ⟨.builtin .len,#[x],#[t]⟩,ty,ps,af,gd⟩ sl ob nx d (tI s.size) ⟨d,[(x,.v (.c (.d g (.str s))))],[],tI s.size,[]⟩:=dT (st:=⟨sl,ob,nx⟩) Rs rfl hN ⟨hx,trivial⟩ trivial rfl
theorem fp {o k':Nat} [TyF P t f off ft] (hx:opT sl x= .v (.c (.p o k))) (hN:nlt d N=true) (hk:k+off=k'):NS0 P N ⟨some d,.fieldAddr t x f,ty,ps,af,gd⟩ sl ob nx d (.v (.c (.p o k'))) ⟨d,[(x,.v (.c (.p o k)))],[],.v (.c (.p o k')),[]⟩:=by
 subst hk;exact dT (st:=⟨sl,ob,nx⟩) Rm rfl hN ⟨hx,trivial⟩ trivial rfl
theorem fe {o j':Nat} [TyF P t f off ft] (hx:opT sl x= .v (.c (.e o sz i j))) (hN:nlt d N=true) (hk:j+off=j'):NS0 P N ⟨some d,.fieldAddr t x f,ty,ps,af,gd⟩ sl ob nx d (.v (.c (.e o sz i j'))) ⟨d,[(x,.v (.c (.e o sz i j)))],[],.v (.c (.e o sz i j')),[]⟩:=by
 subst hk;exact dT (st:=⟨sl,ob,nx⟩) Rl rfl hN ⟨hx,trivial⟩ trivial rfl
theorem fq {e:List D} {j':Nat} [TyF P t f off ft] (hx:opT sl x= .v (.c (.q g e j))) (hN:nlt d N=true) (hk:j+off=j'):NS0 P N ⟨some d,.fieldAddr t x f,ty,ps,af,gd⟩ sl ob nx d (.v (.c (.q g e j'))) ⟨d,[(x,.v (.c (.q g e j)))],[],.v (.c (.q g e j')),[]⟩:=by
 subst hk;exact dT (st:=⟨sl,ob,nx⟩) Rn rfl hN ⟨hx,trivial⟩ trivial rfl
theorem xw {o:Nat} {i:Int} [eB P t e sz by_] (hx:opT sl x= .v (.c (.w o n))) (hy:opT sl y= .v (.c (.d g (.i kd i)))) (hN:nlt d N=true) (h0:0<=i) (h1:i<n):
 NS0 P N ⟨some d,.indexAddr t x y,ty,ps,af,gd⟩ sl ob nx d (.v (.c (.e o sz i.toNat 0))) ⟨d,[(x,.v (.c (.w o n))),(y,.v (.c (.d g (.i kd i))))],[],.v (.c (.e o sz i.toNat 0)),[]⟩:=dT (st:=⟨sl,ob,nx⟩) (HW h0 h1) rfl hN ⟨hx,hy,trivial⟩ trivial rfl
theorem xs {o:Nat} {i:Int} [eB P t e sz by_] (hx:opT sl x= .v (.c (.s o sz off n))) (hy:opT sl y= .v (.c (.d g (.i kd i)))) (hN:nlt d N=true) (h0:0<=i) (h1:i<n):
 NS0 P N ⟨some d,.indexAddr t x y,ty,ps,af,gd⟩ sl ob nx d (.v (.c (.e o sz (off+i.toNat) 0))) ⟨d,[(x,.v (.c (.s o sz off n))),(y,.v (.c (.d g (.i kd i))))],[],.v (.c (.e o sz (off+i.toNat) 0)),[]⟩:=dT (st:=⟨sl,ob,nx⟩) (Rq h0 h1) rfl hN ⟨hx,hy,trivial⟩ trivial rfl
theorem xd {xs:Lad} {i:Int} [eB P t e sz by_] (hx:opT sl x= .v (.c (.d g (.l xs)))) (hy:opT sl y= .v (.c (.d g' (.i kd i)))) (hN:nlt d N=true) (h0:0<=i) (he:xs[i.toNat]?=some el)
 (hs:∀e∈xs,e.length=sz):NS0 P N ⟨some d,.indexAddr t x y,ty,ps,af,gd⟩ sl ob nx d (.v (.c (.q g el 0))) ⟨d,[(x,.v (.c (.d g (.l xs)))),(y,.v (.c (.d g' (.i kd i))))],[],.v (.c (.q g el 0)),[]⟩:=dT (st:=⟨sl,ob,nx⟩) (Rp h0 he hs) rfl hN ⟨hx,hy,trivial⟩ trivial rfl
theorem op {o:Nat} {c:C} [jN P t] (hx:opT sl x= .v (.c (.p o k))) (ho:go ob o=some (.var vt cs)) (hN:nlt d N=true) (hc:cs[k]?=some c):
 NS0 P N ⟨some d,.load t x,ty,ps,af,gd⟩ sl ob nx d (.v (.c c)) ⟨d,[(x,.v (.c (.p o k)))],[(o,.var vt cs)],.v (.c c),[]⟩:=dT (st:=⟨sl,ob,nx⟩) (US hc) rfl hN ⟨hx,trivial⟩ ⟨ho,trivial⟩ rfl
theorem opa {o:Nat} {r:List C} [hP P t n] (hx:opT sl x= .v (.c (.p o k))) (ho:go ob o=some (.var vt cs)) (hN:nlt d N=true) (hc:Bu k n cs=some r):
 NS0 P N ⟨some d,.load t x,ty,ps,af,gd⟩ sl ob nx d (.v (.agg r)) ⟨d,[(x,.v (.c (.p o k)))],[(o,.var vt cs)],.v (.agg r),[]⟩:=dT (st:=⟨sl,ob,nx⟩) (GY hc) rfl hN ⟨hx,trivial⟩ ⟨ho,trivial⟩ rfl
theorem oq {e:List D} {c:C} [jN P t] (hx:opT sl x= .v (.c (.q g e j))) (hN:nlt d N=true) (hc:ld1 g j e=some c):
 NS0 P N ⟨some d,.load t x,ty,ps,af,gd⟩ sl ob nx d (.v (.c c)) ⟨d,[(x,.v (.c (.q g e j)))],[],.v (.c c),[]⟩:=dT (st:=⟨sl,ob,nx⟩) (Rv hc) rfl hN ⟨hx,trivial⟩ trivial rfl
theorem oqa {e:List D} [hP P t n] (hx:opT sl x= .v (.c (.q g e j))) (hN:nlt d N=true) (hc:GV g j n e=some cs):
 NS0 P N ⟨some d,.load t x,ty,ps,af,gd⟩ sl ob nx d (.v (.agg cs)) ⟨d,[(x,.v (.c (.q g e j)))],[],.v (.agg cs),[]⟩:=dT (st:=⟨sl,ob,nx⟩) (GZ hc) rfl hN ⟨hx,trivial⟩ trivial rfl
theorem oe {o:Nat} {rt:TypeId} {c:C} [jN P t] (hx:opT sl x= .v (.c (.e o sz i j)):=by exact rfl) (ho:go ob o=some (.row rt sz els g m):=by exact rfl) (hN:nlt d N=true:=by exact rfl) (he:els[i]?=some el) (hc:ld1 g j el=some c:=by exact rfl):
 NS0 P N ⟨some d,.load t x,ty,ps,af,gd⟩ sl ob nx d (.v (.c c)) ⟨d,[(x,.v (.c (.e o sz i j)))],[(o,.row rt sz els g m)],.v (.c c),[]⟩:=dT (st:=⟨sl,ob,nx⟩) (HX he hc) rfl hN ⟨hx,trivial⟩ ⟨ho,trivial⟩ rfl
theorem oea {o:Nat} {rt:TypeId} [hP P t n] (hx:opT sl x= .v (.c (.e o sz i j)):=by exact rfl) (ho:go ob o=some (.row rt sz els g m):=by exact rfl) (hN:nlt d N=true:=by exact rfl) (he:els[i]?=some el) (hc:GV g j n el=some cs:=by exact rfl):
 NS0 P N ⟨some d,.load t x,ty,ps,af,gd⟩ sl ob nx d (.v (.agg cs)) ⟨d,[(x,.v (.c (.e o sz i j)))],[(o,.row rt sz els g m)],.v (.agg cs),[]⟩:=dT (st:=⟨sl,ob,nx⟩) (zJ he hc) rfl hN ⟨hx,trivial⟩ ⟨ho,trivial⟩ rfl
theorem fv {c:C} [TyF P t f off ft] [jN P ft] (hx:opT sl x= .v (.agg cs)) (hN:nlt d N=true) (hc:cs[off]?=some c):NS0 P N ⟨some d,.field t x f,ty,ps,af,gd⟩ sl ob nx d (.v (.c c)) ⟨d,[(x,.v (.agg cs))],[],.v (.c c),[]⟩:=dT (st:=⟨sl,ob,nx⟩) (UP hc) rfl hN ⟨hx,trivial⟩ trivial rfl
theorem fva {r:List C} [TyF P t f off ft] [hP P ft n] (hx:opT sl x= .v (.agg cs)) (hN:nlt d N=true) (hc:Bu off n cs=some r):NS0 P N ⟨some d,.field t x f,ty,ps,af,gd⟩ sl ob nx d (.v (.agg r)) ⟨d,[(x,.v (.agg cs))],[],.v (.agg r),[]⟩:=dT (st:=⟨sl,ob,nx⟩) (GW hc) rfl hN ⟨hx,trivial⟩ trivial rfl
abbrev NS1 (P:Program) (N:Nat) (o:Oper) (sl:Lab) (ob:Laa) (nx nx':Nat) (d:Tmp) (out:T) (nb:Ob) (x:Inf):Prop:=NS P N o ⟨sl,ob,nx⟩ ⟨(d,out)::sl,(nx,nb)::ob,nx'⟩ x
theorem al {zs:List C} [TyZ P t zs] (hN:nlt d N=true) (hq:nxt nx=some nx'):NS1 P N ⟨some d,.alloc t,ty,ps,af,gd⟩ sl ob nx nx' d (.v (.c (.p nx 0))) (.var t zs) ⟨d,[],[],.v (.c (.p nx 0)),[(nx,.var t zs)]⟩:=dT (st:=⟨sl,ob,nx⟩) XF rfl hN trivial trivial (pR hq)
theorem ba (hx:opT sl x= .v (.agg cs)) (hN:nlt d N=true) (hq:nxt nx=some nx'):NS1 P N ⟨some d,.box t x,ty,ps,af,gd⟩ sl ob nx nx' d (.v (.c (.p nx 0))) (.var t cs) ⟨d,[(x,.v (.agg cs))],[],.v (.c (.p nx 0)),[(nx,.var t cs)]⟩:=dT (st:=⟨sl,ob,nx⟩) Rj rfl hN ⟨hx,trivial⟩ trivial (pR hq)
theorem bc {c:C} (hx:opT sl x= .v (.c c)) (hN:nlt d N=true) (hs:c.sto=true) (hq:nxt nx=some nx'):NS1 P N ⟨some d,.box t x,ty,ps,af,gd⟩ sl ob nx nx' d (.v (.c (.p nx 0))) (.var t [c]) ⟨d,[(x,.v (.c c))],[],.v (.c (.p nx 0)),[(nx,.var t [c])]⟩:=dT (st:=⟨sl,ob,nx⟩) (XG hs) rfl hN ⟨hx,trivial⟩ trivial (pR hq)
def NN (sl:Lab):List Operand->Option (List V)
 |[]=>some []
 |x::xs=>match opT sl x,NN sl xs with
  | .v v,some vs=>some (v::vs)
  |_,_=>none
theorem DQ {sl:Lab}:∀{xs:List Operand} {vs:List V},NN sl xs=some vs->vs.length=xs.length/\Lk sl (xs.zip (vs.map T.v))
 |[],vs,h=>by simp[NN] at h;subst h;exact⟨rfl,trivial⟩
 |x::xs,vs,h=>by
  simp only[NN] at h
  split at h
  .rename_i v vs' h1 h2
   simp at h;subst h
   obtain⟨k1,k2⟩:=DQ h2
   exact⟨by simp[k1],h1,k2⟩
  cases h
theorem bd {zs:List C} {pl:Lac} {parts:List (Nat×Operand)} [TyZ P t zs] [TyB P t pl] (hv:NN sl (parts.map (·.2))=some vs) (h:Eo pl zs ((parts.map (·.1)).zip vs)=some cs) (hN:nlt d N=true):
 NS0 P N ⟨some d,.build t parts.toArray,ty,ps,af,gd⟩ sl ob nx d (.v (.agg cs)) ⟨d,(parts.map (·.2)).zip (vs.map T.v),[],.v (.agg cs),[]⟩:=by
 obtain⟨h1,h2⟩:=DQ hv
 exact dT (st:=⟨sl,ob,nx⟩) (PD (by simpa using h1) h) rfl hN h2 trivial rfl
theorem bs {len:Nat} {parts:List (Nat×Operand)} [eB P t e sz by_] (hv:NN sl (parts.map (·.2))=some vs) (he:vsD vs=some (els,g)) (hs:UF sz els=true)
 (hlen:len=parts.length) (hi:parts.map (·.1)=f4 len) (h24:aaz (len*sz) 16777216=true) (hN:nlt d N=true) (hq:nxt nx=some nx'):
 NS1 P N ⟨some d,.buildSlice t len parts.toArray,ty,ps,af,gd⟩ sl ob nx nx' d (.v (.c (.w nx len))) (.row e sz els g true) ⟨d,(parts.map (·.2)).zip (vs.map T.v),[],.v (.c (.w nx len)),[(nx,.row e sz els g true)]⟩:=by
 obtain⟨h1,h2⟩:=DQ hv
 exact dT (st:=⟨sl,ob,nx⟩) (JH hlen (by simpa using h1) hi he hs (aaO h24)) rfl hN h2 trivial (pR hq)
theorem mk {zd:List D} {k k':IntKind} {c:Int} [eB P t e sz by_] [TyE P e zd] (hx:opT sl x= .v (.c (.d g (.i k n)))) (hy:opT sl y= .v (.c (.d g' (.i k' c)))) (hN:nlt d N=true)
 (hc:n<=c) (hb:(by_:Int)*c<=281474976710656) (h63:c<=9223372036854775807) (hq:nxt nx=some nx'):
 NS1 P N ⟨some d,.makeSlice t x y,ty,ps,af,gd⟩ sl ob nx nx' d (.v (.c (.w nx n))) (.row e sz (aaf n zd) true true) ⟨d,[(x,.v (.c (.d g (.i k n)))),(y,.v (.c (.d g' (.i k' c))))],[],.v (.c (.w nx n)),[(nx,.row e sz (aaf n zd) true true)]⟩:=
 dT (st:=⟨sl,ob,nx⟩) (n_make hc hb h63) rfl hN ⟨hx,hy,trivial⟩ trivial (pR hq)
def Bt (sl:Lab):List Operand->Option (List T)
 |[]=>some []
 |x::xs=>match opT sl x,Bt sl xs with
  | .v (.c c),some vs=>some (.v (.c c)::vs)
  | .v (.agg cs),some vs=>some (.v (.agg cs)::vs)
  |_,_=>none
theorem ub {sl:Lab}:∀{xs:List Operand} {ts:List T},Bt sl xs=some ts->ts.length=xs.length/\Lk sl (xs.zip ts)
 |[],vs,h=>by simp[Bt] at h;subst h;exact⟨rfl,trivial⟩
 |x::xs,vs,h=>by
  simp only[Bt] at h
  split at h
  .rename_i c vs' h1 h2
   simp at h;subst h
   obtain⟨k1,k2⟩:=ub h2
   exact⟨by simp[k1],h1,k2⟩
  .rename_i c vs' h1 h2
   simp at h;subst h
   obtain⟨k1,k2⟩:=ub h2
   exact⟨by simp[k1],h1,k2⟩
  cases h
def LU (nx:Nat):Laa->Nat->Bool
 |[],n=>d0 n nx
 |(l,_)::r,n=>(d0 l nx&&!rsv l)&&LU (nx+1) r n
theorem DO:∀{nw:Laa} {nx n:Nat},LU nx nw n=true->Nw nx nw n
 |[],nx,n,h=>aad h
 |(l,x)::r,nx,n,h=>by
  simp only[LU,hV,aax] at h
  exact⟨⟨aad h.1.1,h.1.2⟩,DO h.2⟩
def apO {α:Type}:List α->List α->Option (List α)
 |[],l=>some l
 |x::xs,l=>match apO xs l with|some r=>some (x::r)|none=>none
theorem xA {α:Type}:∀{xs l r:List α},apO xs l=some r->r=xs++l
 |[],l,r,h=>by simp[apO] at h;subst h;rfl
 |x::xs,l,r,h=>by
  simp only[apO] at h
  split at h
  .rename_i q h1;simp at h;subst h;rw[xA h1];rfl
  cases h
theorem ca {f:FuncId} {args:List Operand} {tys:Array TypeId} {ts:List T} {avs:List AV} {eqs:Lac} 
 (ht:Bt sl args=some ts:=by exact rfl) (hp:vl ob (LH ts)=some nob:=by exact rfl) (ha:AD nob ts=some (avs,eqs):=by exact rfl) (hF:Fn P f avs res) (he:Eqs eqs:=by repeat (first|exact trivial|refine⟨by first|rfl|exact lm _|simp,?_⟩)) (hi:Fe nx res=some (out,nw,n):=by exact rfl) (hw:LU nx nw n=true:=by exact rfl) (hN:nlt d N=true:=by exact rfl) (hob:apO nw ob=some ob':=by exact rfl):
 NS P N ⟨some d,.call ⟨.value (.func f),args.toArray,tys⟩,ty,ps,af,gd⟩ ⟨sl,ob,nx⟩ ⟨(d,out)::sl,ob',n⟩ ⟨d,args.zip ts,nob,out,nw⟩:=by
 obtain⟨h1,h2⟩:=ub ht
 rw[xA hob]
 exact dT (st:=⟨sl,ob,nx⟩) (Z8 h1 ha hF he hi) rfl hN h2 (vm hp) (DO hw)
theorem sp {o:Nat} {cs' ns:List C} {v:V} [TyN P t n] (hx:opT sl x= .v (.c (.p o k))) (hy:opT sl y= .v v) (ho:go ob o=some (.var vt cs)) (hv:vcs v=some ns)
 (hn:d0 ns.length n=true) (hst:ns.all C.sto=true) (hs:uW k ns cs=some cs'):AWO P N ⟨none,.store t x y,ty,ps,af,gd⟩ ⟨sl,ob,nx⟩ ⟨sl,(o,.var vt cs')::ob,nx⟩:=Rz (st:=⟨sl,ob,nx⟩) hx hy ho hv hn hst hs
theorem so {o:Nat} {rt:TypeId} {el' ns:List D} {gg:Bool} {v:V} [TyN P t n] (hx:opT sl x= .v (.c (.e o sz i j))) (hy:opT sl y= .v v)
 (ho:go ob o=some (.row rt sz els g true)) (hv:vD v=some (ns,g')) (hn:d0 ns.length n=true) (he:els[i]?=some el) (hs:uW j ns el=some el') (hg:(g&&g')=gg):
 AWO P N ⟨none,.store t x y,ty,ps,af,gd⟩ ⟨sl,ob,nx⟩ ⟨sl,(o,.row rt sz (els.set i el') gg true)::ob,nx⟩:=by subst hg;exact Ry (st:=⟨sl,ob,nx⟩) hx hy ho hv hn he hs
theorem ap {o:Nat} {gy gg:Bool} {c:C} [eB P t e sz by_] (hd:nlt d N=true)
 (hx:opT sl x= .v (.c (.w o n))) (hy:opT sl y= .v (.c c)) (ho:go ob o=some (.row e sz els g true)) (hs:Src ob c ys gy) (hk:oO o sl=some sl') (hkb:mC o ob=some ob') (hg:(g&&gy)=gg)
 (hn:els.length=n) (hsz:∀e∈ys,e.length=sz) (hb:(n+ys.length)*by_<=140737488355328) (h63:n+ys.length<=9223372036854775807) (hrv:rsp o=false):
 AWO P N ⟨some d,.call ⟨.builtin .append,#[x,y],#[t,t]⟩,ty,ps,af,gd⟩ ⟨sl,ob,nx⟩ ⟨(d,.v (.c (.w o (n+ys.length))))::sl',(o,.row e sz (els++ys) gg true)::ob',nx⟩:=by
 subst hg;exact NM (st:=⟨sl,ob,nx⟩) hrv (dr hd) hx hy ho hs hk hkb hn hsz hb h63
section
variable {ops:Array Oper} {l:List Oper} {o:Oper} {K:St->Prop} {KK:List Inf->St->Prop} {is:List Inf}
theorem gs {d:Tmp} (hg:o.guard=some (j,b)) (hj:(ops[j]?).bind (·.dst)=some dj) (hdj:nlt dj N=true) (hb:noG b (gt sl dj)=true) (hd:o.dst=some d) (hN:nlt d N=true)
 (h':AWR P N ops l ⟨(d,.tup [])::sl,ob,nx⟩ K):AWR P N ops (o::l) ⟨sl,ob,nx⟩ K:=Ek (st:=⟨sl,ob,nx⟩) hg hj (dr hdj) hb hd (dr hN) h'
theorem g2 {c:Bool} (hg:o.guard=some (j,b)) (hj:(ops[j]?).bind (·.dst)=some dj) (hb:gt sl dj=tB c)
 (h1:c=true->AWR P N ops (o::l) ⟨(dj,tB true)::sl,ob,nx⟩ K) (h0:c=false->AWR P N ops (o::l) ⟨(dj,tB false)::sl,ob,nx⟩ K):AWR P N ops (o::l) ⟨sl,ob,nx⟩ K:=QH (st:=⟨sl,ob,nx⟩) hb h1 h0
theorem dgs {d:Tmp} {t:T} (hg:o.guard=some (j,b)) (hj:(ops[j]?).bind (·.dst)=some dj) (hdj:nlt dj N=true) (ht:gt sl dj=t) (hb:noG b t=true) (hd:o.dst=some d) (hN:nlt d N=true)
 (h':DR P N ops l (is++[⟨d,[(.tmp dj,t)],[],.tup [],[]⟩]) ⟨(d,.tup [])::sl,ob,nx⟩ KK):DR P N ops (o::l) is ⟨sl,ob,nx⟩ KK:=Xb (st:=⟨sl,ob,nx⟩) hg hj hdj ht hb hd hN h'
theorem dg2 {c:Bool} (hg:o.guard=some (j,b)) (hj:(ops[j]?).bind (·.dst)=some dj) (hb:gt sl dj=tB c)
 (h1:c=true->DR P N ops (o::l) is ⟨(dj,tB true)::sl,ob,nx⟩ KK) (h0:c=false->DR P N ops (o::l) is ⟨(dj,tB false)::sl,ob,nx⟩ KK):DR P N ops (o::l) is ⟨sl,ob,nx⟩ KK:=TS (st:=⟨sl,ob,nx⟩) hb h1 h0
end
def To:AV->Option T
 | .c (.i k n)=>some (.v (.c (.d false (.i k n))))
 | .c (.b x)=>some (.v (.c (.d false (.b x))))
 | .c (.str s)=>some (.v (.c (.d false (.str s))))
 | .c (.l xs)=>some (.v (.c (.d false (.l xs))))
 | .c (.k A n c)=>some (.v (.c (.d false (.k A n c))))
 | .agg xs=>match ldO false xs with
  |some cs=>some (.v (.agg cs))
  |none=>none
def KR:Nat->List AV->Option Lab
 |_,[]=>some []
 |k,a::as=>match To a,KR (k+1) as with
  |some t,some r=>some ((k,t)::r)
  |_,_=>none
theorem IP:∀{as:List AV} {k:Nat} {r:Lab},KR k as=some r->r=xb k as
 |[],k,r,h=>by simp[KR] at h;subst h;rfl
 |a::as,k,r,h=>by
  simp only[KR] at h
  split at h
  .rename_i t r' h1 h2
   simp at h;subst h
   rw[IP h2,xb]
   congr 2
   cases a with
   |c x=>cases x<;>simp[To] at h1<;>subst h1<;>rfl
   |agg xs=>
    simp only[To] at h1
    split at h1
    .rename_i cs h3;simp at h1;subst h1;rw[Jy h3];rfl
    cases h1
  cases h
theorem YR {f:FuncId} {fn:Func} {c:Code} {args:List AV} {rs:List ResultVar}  {sl0:Lab} (hf:P.funcs[f]?=some fn) (hb:fn.body=some c:=by exact rfl) (hnm:(fn.name== "runtime.NumGoroutine")=false:=by kernel_rfl) (hN:fn.ntmps=N) (hrs:fn.results.toList=rs:=by exact rfl)
 (ha:aaz args.length N=true:=by exact rfl) (hs:KR 0 args=some sl0:=by exact rfl) (h:AWC P N c ⟨sl0,[],0⟩ (zV N P rs res)):Fn P f args res:=by
 rw[IP hs] at h
 exact fn_of hf hb hnm hN hrs ha h
end
section
variable {P:Program} {N:Nat} {K:St->Prop} {AQ:Exit->St->Prop} {s:St} {n id:Nat}
theorem tn (h:K s):uF K AQ .normal s:=h
theorem tr (h:AQ .ret s):uF K AQ .ret s:=h
theorem te (h:AQ (.exit n) s):uF K AQ (.exit n) s:=h
theorem bn (h:AQ .normal s):jO id AQ .normal s:=h
theorem br (h:AQ .ret s):jO id AQ .ret s:=h
theorem bx (hb:d0 n id=true) (h:AQ .normal s):jO id AQ (.exit n) s:=by simp only[jO,hb];exact h
theorem bo (hb:d0 n id=false) (h:AQ (.exit n) s):jO id AQ (.exit n) s:=by simp only[jO,hb];exact h
theorem bX {rs:List ResultVar} {res':List RV} {ls:List Nat} (h:pD P s rs vs:=by repeat' (first|exact .nil|apply pD.cons|exact .tmp rfl|exact .cell rfl rfl rfl|exact .cell1 rfl rfl)) (he:xG s.ob vs=some (res',ls):=by exact rfl) (hn:oR ls=true:=by exact rfl) (hr:res'=res:=by first|rfl|simp):zV N P rs res .ret s:=by
 subst hr;exact Vg ⟨vs,ls,h,he,hn⟩
theorem Xj {rs:List ResultVar} {res':List RV} {ls:List Nat} (h:pD P s rs vs:=by repeat' (first|exact .nil|apply pD.cons|exact .tmp rfl|exact .cell rfl rfl rfl|exact .cell1 rfl rfl)) (he:xG s.ob vs=some (res',ls):=by exact rfl) (hn:oR ls=true:=by exact rfl) (hr:res'=res:=by first|rfl|simp):zV N P rs res .normal s:=by
 subst hr;exact⟨s,λ_ E _ _ h=>⟨E,h⟩,vs,ls,h,he,hn⟩
end
open Go.RowKit Go.ChangeShapes Go.WideShapes Go.Deep
inductive Sh where
 |i (k:IntKind)
 |b
 |str
 |l (e:List Sh)
mutual
inductive WT:Sh->D->Prop
 |i {k:IntKind} {n:Int} (h:(Lit.int k n).wf=true):WT (.i k) (.i k n)
 |b {x:Bool}:WT .b (.b x)
 |str {s:ByteArray} (h:s.size<=maxLen):WT .str (.str s)
 |l {e:List Sh} {xs:Lad} (hl:xs.length<=maxLen) (h:WTL e xs):WT (.l e) (.l xs)
inductive WTs:List Sh->List D->Prop
 |nil:WTs [] []
 |cons {s:Sh} {ss:List Sh} {x:D} {xs:List D} (h:WT s x) (h':WTs ss xs):WTs (s::ss) (x::xs)
inductive WTL:List Sh->Lad->Prop
 |nil {e:List Sh}:WTL e []
 |cons {e:List Sh} {x:List D} {xs:Lad} (h:WTs e x) (h':WTL e xs):WTL e (x::xs)
end
theorem WTs.len:∀{ss:List Sh} {xs:List D},WTs ss xs->xs.length=ss.length
 |_,_,.nil=>rfl
 |_,_,.cons _ h=>by simp[WTs.len h]
theorem WTs.append:∀{ss ts:List Sh} {xs ys:List D},WTs ss xs->WTs ts ys->WTs (ss++ts) (xs++ys)
 |_,_,_,_,.nil,h=>h
 |_,_,_,_,.cons h h',k=>.cons h (h'.append k)
mutual
inductive w8 (P:Program):TypeId->List Sh->Prop
 |int {t:TypeId} {k:IntKind} (h:P.underlying t=some (.int k)):w8 P t [.i k]
 |bool {t:TypeId} (h:P.underlying t=some .bool):w8 P t [.b]
 |string {t:TypeId} (h:P.underlying t=some .string):w8 P t [.str]
 |slice {t e:TypeId} {ss:List Sh} (h:P.underlying t=some (.slice e)) (he:w8 P e ss) (hc:P.cellsOf e=ss.length) (hp:0<ss.length):w8 P t [.l ss]
 |struct {t:TypeId} {fs:Array Field} {ss:List Sh} (h:P.underlying t=some (.struct fs)) (hf:HasFs P 0 fs.toList ss) (hc:P.cellsOf t=ss.length):w8 P t ss
inductive HasFs (P:Program):Nat->List Field->List Sh->Prop
 |nil {o:Nat}:HasFs P o [] []
 |cons {o:Nat} {f:Field} {fs:List Field} {s1 s2:List Sh} (ho:f.offset=o) (h:w8 P f.type s1) (hc:P.cellsOf f.type=s1.length) (h':HasFs P (o+s1.length) fs s2):HasFs P o (f::fs) (s1++s2)
end
theorem Hp {w:World} {F:Nat->Prop}:∀{xs ys:List D} {us vs:Lae},DV w F xs us->DV w F ys vs->DV w F (xs++ys) (us++vs)
 |[],_,[],_,_,h=>h
 |_::_,_,_::_,_,h,k=>⟨h.1,Hp h.2 k⟩
 |[],_,_::_,_,h,_=>h.elim
 |_::_,_,[],_,h,_=>h.elim
section
variable {H:Type} {enc:TypeId×Value->H} {P:Program} {w:World} {spare:Nat->Bool} {held:Bool}
theorem Ie {F:Nat->Prop}:∀{xs:List D} {us:Lae} {b k:Nat},DV w F xs us->(∀j,j<us.length->w.cell? ⟨b,k+j,none⟩=us[j]?)->rdL w F xs b k
 |[],[],_,_,_,_=>by simp[rdL]
 |x::xs,u::us,b,k,h,hc=>by
  rw[rdL]
  refine⟨⟨u,by simpa using hc 0 (by simp),h.1⟩,Ie h.2 λj hj=>?_⟩
  have:=hc (j+1) (by simp;omega)
  grind
 |[],_::_,_,_,h,_=>h.elim
 |_::_,[],_,_,h,_=>h.elim
mutual
theorem JS:∀{t:TypeId} {ss:List Sh},w8 P t ss->∀{fuel:Nat} {cs:Lae} {x:DataW H×List MemPlace},DataW.trod enc P w 0 (λ_=>true) held fuel t cs=some x->
 ∃xs,WTs ss xs/\DV w (λb=>b<w.heap.size) xs cs
 |_,_,.int ht,fuel,cs,x,h=>by
  obtain⟨n,rfl,_,hw⟩:=DataW.trod_int ht h
  exact⟨[.i _ n],.cons (.i hw) .nil,by simp[rdD],trivial⟩
 |_,_,.bool ht,fuel,cs,x,h=>by
  obtain⟨b,rfl,_⟩:=DataW.trod_bool ht h
  exact⟨[.b b],.cons .b .nil,by simp[rdD],trivial⟩
 |_,_,.string ht,fuel,cs,x,h=>by
  obtain⟨s,rfl,_,hs⟩:=DataW.trod_string ht h
  exact⟨[.str s],.cons (.str hs) .nil,by simp[rdD],trivial⟩
 |_,_,.slice (ss:=ss) (e:=e) ht he hc hp,fuel,cs,x,h=>by
  rcases open_slice ht h with⟨rfl,_⟩|⟨a,len,cap,m,n,Dt,Pl,rfl,_,hl,hm,hmm,_,hi⟩
  .exact⟨[.l []],.cons (.l (aas _) .nil) .nil,by rw[rdD];simp_all,trivial⟩
  have hmc:m=cap:=by simpa using hmm
  have each:∀i,i<len->∃xs,WTs ss xs/\∃us,us.length=ss.length/\DV w (λb=>b<w.heap.size) xs us/\∀j,j<ss.length->w.cell? ((a.add (i*ss.length)).add j)=us[j]?:=by
   intro i hil
   obtain⟨cs',h1,h2⟩:=hi i oaa
   obtain⟨_,h3,h4⟩:=World.cells?_some h1
   obtain⟨xs,k1,k2⟩:=JS he h2
   rw[hc] at h3 h4
   exact⟨xs,k1,cs',h3,k2,h4⟩
  by_cases h0:len=0
  .subst h0
   exact⟨[.l []],.cons (.l (aas _) .nil) .nil,by rw[rdD];simp_all,trivial⟩
  .
    obtain⟨xs0,k1,us0,k2,k3,k4⟩:=each 0 oaa
    have hc0:=k4 0 hp
    have hu0:∃u,us0[0]?=some u:=⟨_,v0 oaa⟩
    obtain⟨u0,hu0⟩:=hu0
    have hcell:w.cell? a=some u0:=by rw[<-hu0,<-hc0];simp[Addr.add]
    obtain⟨b,off,spot⟩:=a
    have hsp:spot=none:=by
     cases spot with
     |none=>rfl
     |some s=>exfalso;simp[World.cell?] at hcell;grind
    subst hsp
    have hb:b<w.heap.size:=World.block_lt_of_cell? w ⟨b,off,none⟩ hcell
    have build:∀n i,i+n=len->∃els,WTL ss els/\els.length=n/\(∀e'∈els,e'.length=ss.length)/\rdLL w (λb=>b<w.heap.size) els b (off+i*ss.length):=by
     intro n
     induction n with
     |zero=>intro i _;exact⟨[],.nil,rfl,by simp,by simp[rdLL]⟩
     |succ n ihn=>
      intro i hin
      obtain⟨xs,l1,us,l2,l3,l4⟩:=each i oaa
      obtain⟨els,m1,m2,m3,m4⟩:=ihn (i+1) oaa
      have hxl:=l1.len
      refine⟨xs::els,.cons l1 m1,by simp[m2],by simp_all,?_⟩
      rw[rdLL]
      refine⟨Ie l3 λj hj=>?_,?_⟩
      .have:=l4 j oaa
       rw[vS,vS] at this;exact this
      grind
    obtain⟨els,m1,m2,m3,m4⟩:=build len 0 oaa
    refine⟨[.l els],.cons (.l oaa m1) .nil,?_,trivial⟩
    rw[rdD]
    grind
 |_,_,.struct (fs:=fs) ht hf hc,fuel,cs,x,h=>by
  obtain⟨ys,n,_,_,h3,h4,h5⟩:=DataW.trod_struct ht h
  have key:=open_fs hf (fuel:=n) (cs:=cs) (λf hf=>by
   obtain⟨i,hi⟩:=aap hf
   grind)
  grind
theorem open_fs:∀{o:Nat} {fs:List Field} {ss:List Sh},HasFs P o fs ss->∀{fuel:Nat} {cs:Lae},(∀f∈fs,∃x,DataW.trod enc P w 0 (λ_=>true) held fuel f.type ((cs.drop f.offset).take (P.cellsOf f.type))=some x)->
 ∃xs,WTs ss xs/\DV w (λb=>b<w.heap.size) xs ((cs.drop o).take ss.length)
 |_,_,_,.nil,fuel,cs,h=>⟨[],.nil,by simp[DV]⟩
 |o,_,_,.cons (f:=f) (s1:=s1) (s2:=s2) ho hs hc hf,fuel,cs,h=>by
  obtain⟨x,hx⟩:=h f (by simp)
  obtain⟨xs1,k1,k2⟩:=JS hs hx
  obtain⟨xs2,m1,m2⟩:=open_fs hf (λg hg=>h g (by simp[hg]))
  refine⟨xs1++xs2,k1.append m1,?_⟩
  rw[ho,hc] at k2
  have:=Hp k2 m2
  rwa [aav,List.take_add,List.drop_drop]
end
theorem U7 {r:Reach} {b0:Nat} {v:Value} {s:Sh} (hs:w8 P t [s]) (hn:∀fs,P.underlying t≠some (.struct fs)) (hv:Value.okWide P w r b0 t v):v.cells.toList=[v]:=by
 cases hs with
 |int h=>obtain⟨n,rfl⟩:=okWide_int h hv;rfl
 |bool h=>obtain⟨n,rfl⟩:=okWide_bool h hv;rfl
 |string h=>obtain⟨n,rfl⟩:=okWide_string h hv;rfl
 |slice h=>obtain⟨a,l,c,rfl⟩:=okWide_slice h hv;rfl
 |struct h=>simp_all
theorem open_c {r:Reach} {b0:Nat} {v:Value} {d:DataW H} {p:List MemPlace} {s:Sh} (hs:w8 P t [s]) (hn:∀fs,P.underlying t≠some (.struct fs)) (hv:Value.okWide P w r b0 t v) (h:DataW.Trod enc P w 0 (λ_=>true) held t v d p):
 ∃x,WT s x/\avR w (λb=>b<w.heap.size) (.c x) v:=by
 obtain⟨fuel,hf⟩:=h
 rw[U7 hs hn hv] at hf
 obtain⟨xs,h1,h2⟩:=JS hs hf
 cases h1 with
 |cons h h'=>cases h' with
  |nil=>exact⟨_,h,h2.1⟩
end
theorem OM {α:Type} {e:List Sh} {f:α->List D} {p:α->Prop} (h:∀x,WTs e x->∃a,x=f a/\p a):∀{xs:Lad},WTL e xs->∃l:List α,xs=l.map f/\∀a∈l,p a
 |_,.nil=>⟨[],rfl,by simp⟩
 |_,.cons h1 h2=>by
  obtain⟨a,rfl,ha⟩:=h _ h1
  obtain⟨l,rfl,hl⟩:=OM h h2
  exact⟨a::l,rfl,by simp_all⟩
theorem NO (h:IK w w' (λ_=>False)):Below w.heap.size w w':=⟨h.os,h.tape,h.output,h.size,λb hb=>h.block b hb (λh=>h)⟩
theorem law_calls {f:FuncId} {args:List AV} {vals:Array Value} (h:Fn P f args [rB true]) (hT:TabsIn w) (hA:AR w (λb=>b<w.heap.size) args vals.toList):
 Calls P f vals w λe w'=>e= .returned (.bool true)/\Below w.heap.size w w':=by
 refine(h.calls _ w vals (λ_ h=>h) hT hA).mono ?_
 rintro e w' ⟨v,G,bs,rfl,hp,_,hr,_⟩
 obtain⟨_,hr⟩:=hr
 simp only[rdD] at hr
 exact⟨by rw[hr],NO hp⟩
abbrev WR (n:Int):Int:=IntKind.i64.wrap n
theorem Fn.frz {f:FuncId} {args:List AV} {ty:Nat} (h:Fn P f args [.c (.own ty sz els n)]) (hn:els.length=n):Fn P f args [.c (.d (.l els))]:=by
 refine⟨h.enters,λF w vals hF hT hA=>(h.calls F w vals hF hT hA).mono ?_⟩
 rintro e w' ⟨v,G,bs,rfl,hp,hG,hr,_⟩
 obtain⟨b,c,arr,rfl,rfl,hh,ha,hlc,hmx,hes,hrd,hgb,hbb⟩:=hr
 subst hn
 have hlt:b<w'.heap.size:=by
  rcases aao b w'.heap.size with h|h
  .exact h
  simp_all
 refine⟨_,λk=>G k\/k=b,[],rfl,hp,?_,⟨rfl,?_⟩,by simp⟩
 .rintro k (hk|rfl)
  .exact hG k hk
  exact⟨hbb,hlt,.mk hh⟩
 rw[rdD]
 exact⟨_,_,rfl,hlc,.inr ⟨b,0,rfl,.inr rfl,cX (λ_ _=>rfl) (λ_ h=>.inl h) rfl _ _ hrd⟩⟩
mutual
inductive WS:Sh->D->Prop
 |i {k:IntKind} {n:Int} (h:(Lit.int k n).wf=true):WS (.i k) (.i k n)
 |b {x:Bool}:WS .b (.b x)
 |str {s:ByteArray} (h:s.size<=maxLen):WS .str (.str s)
 |l {e:List Sh} {xs:Lad} (hl:xs.length<=1048576) (h:WSL e xs):WS (.l e) (.l xs)
inductive WSs:List Sh->List D->Prop
 |nil:WSs [] []
 |cons {s:Sh} {ss:List Sh} {x:D} {xs:List D} (h:WS s x) (h':WSs ss xs):WSs (s::ss) (x::xs)
inductive WSL:List Sh->Lad->Prop
 |nil {e:List Sh}:WSL e []
 |cons {e:List Sh} {x:List D} {xs:Lad} (h:WSs e x) (h':WSL e xs):WSL e (x::xs)
end
mutual
def tot:D->Nat
 | .l xs=>xs.length+totLL xs
 | .i _ _=>0
 | .b _=>0
 | .str _=>0
 | .k _ _ _=>0
def totLL:Lad->Nat
 |[]=>0
 |e::es=>totL e+totLL es
def totL:List D->Nat
 |[]=>0
 |d::ds=>tot d+totL ds
end
@[simp] theorem tot_i {k:IntKind} {n:Int}:tot (.i k n)=0:=by rw[tot]
@[simp] theorem tot_b {x:Bool}:tot (.b x)=0:=by rw[tot]
@[simp] theorem tot_str {s:ByteArray}:tot (.str s)=0:=by rw[tot]
@[simp] theorem tot_l {xs:Lad}:tot (.l xs)=xs.length+totLL xs:=by rw[tot]
@[simp] theorem totL_nil:totL []=0:=by rw[totL]
@[simp] theorem totL_cons {x:D} {xs:List D}:totL (x::xs)=tot x+totL xs:=by rw[totL]
@[simp] theorem totLL_nil:totLL []=0:=by rw[totLL]
@[simp] theorem totLL_cons {x:List D} {xs:Lad}:totLL (x::xs)=totL x+totLL xs:=by rw[totLL]
mutual
theorem WS_of:∀{s:Sh} {x:D},WT s x->tot x<=1048576->WS s x
 |_,_,.i h,_=>.i h
 |_,_,.b,_=>.b
 |_,_,.str h,_=>.str h
 |_,_,.l hl h,ht=>by rw[tot_l] at ht;exact .l oaa (WSL_of h oaa)
theorem Td:∀{s:List Sh} {x:List D},WTs s x->totL x<=1048576->WSs s x
 |_,_,.nil,_=>.nil
 |_,_,.cons h h',ht=>by rw[totL_cons] at ht;exact .cons (WS_of h oaa) (Td h' oaa)
theorem WSL_of:∀{s:List Sh} {x:Lad},WTL s x->totLL x<=1048576->WSL s x
 |_,_,.nil,_=>.nil
 |_,_,.cons h h',ht=>by rw[totLL_cons] at ht;exact .cons (Td h oaa) (WSL_of h' oaa)
end
section
variable {k:IntKind} {e ss:List Sh} {x:List D} {xs:Lad} {d:D}
theorem WS.gi (h:WS (.i k) d):∃n,d= .i k n/\(Lit.int k n).wf=true:=by cases h with|i h=>simp_all
theorem WS.gs (h:WS .str d):∃s,d= .str s/\s.size<=maxLen:=by cases h with|str h=>simp_all
theorem WS.gl (h:WS (.l e) d):∃ys,d= .l ys/\ys.length<=1048576/\WSL e ys:=by cases h with|l hl h=>simp_all
theorem WSs.gn (h:WSs [] x):x=[]:=by cases h;rfl
theorem WSs.gi (h:WSs (.i k::ss) x):∃n r,x= .i k n::r/\(Lit.int k n).wf=true/\WSs ss r:=by cases h with|cons h h'=>cases h with|i h=>grind
theorem WSs.gs (h:WSs (.str::ss) x):∃s r,x= .str s::r/\s.size<=maxLen/\WSs ss r:=by cases h with|cons h h'=>cases h with|str h=>grind
theorem WSs.gl (h:WSs (.l e::ss) x):∃ys r,x= .l ys::r/\ys.length<=1048576/\WSL e ys/\WSs ss r:=by cases h with|cons h h'=>cases h with|l hl h=>grind
theorem WTs.gn (h:WTs [] x):x=[]:=by cases h;rfl
theorem WTs.gi (h:WTs (.i k::ss) x):∃n r,x= .i k n::r/\(Lit.int k n).wf=true/\WTs ss r:=by cases h with|cons h h'=>cases h with|i h=>grind
theorem WTs.gs (h:WTs (.str::ss) x):∃s r,x= .str s::r/\s.size<=maxLen/\WTs ss r:=by cases h with|cons h h'=>cases h with|str h=>grind
theorem WTs.gl (h:WTs (.l e::ss) x):∃ys r,x= .l ys::r/\ys.length<=9223372036854775807/\WTL e ys/\WTs ss r:=by cases h with|cons h h'=>cases h with|l hl h=>exact⟨_,_,rfl,by unfold maxLen at hl;omega,h,h'⟩
theorem WT.gl (h:WT (.l e) d):∃ys,d= .l ys/\ys.length<=9223372036854775807/\WTL e ys:=by cases h with|l hl h=>exact⟨_,rfl,by unfold maxLen at hl;omega,h⟩
theorem WT.gi (h:WT (.i k) d):∃n,d= .i k n/\(Lit.int k n).wf=true:=by cases h with|i h=>simp_all
theorem WT.gs (h:WT .str d):∃s,d= .str s/\s.size<=maxLen:=by cases h with|str h=>simp_all
theorem WSs.len:∀{ss:List Sh} {xs:List D},WSs ss xs->xs.length=ss.length
 |_,_,.nil=>rfl
 |_,_,.cons _ h=>by simp[WSs.len h]
theorem WSL.len:∀{xs:Lad},WSL ss xs->∀e∈xs,e.length=ss.length
 |_,.nil=>by simp
 |_,.cons h h'=>by simpa using⟨h.len,WSL.len h'⟩
theorem WTL.len:∀{xs:Lad},WTL ss xs->∀e∈xs,e.length=ss.length
 |_,.nil=>by simp
 |_,.cons h h'=>by simpa using⟨h.len,WTL.len h'⟩
theorem WSL.get:∀{xs:Lad},WSL ss xs->∀(i:Nat) (h:i<xs.length),WSs ss xs[i]
 |_::_,.cons h h',0,_=>h
 |_::_,.cons h h',i+1,hi=>by simpa using WSL.get h' i (by simp_all)
theorem WTL.get:∀{xs:Lad},WTL ss xs->∀(i:Nat) (h:i<xs.length),WTs ss xs[i]
 |_::_,.cons h h',0,_=>h
 |_::_,.cons h h',i+1,hi=>by simpa using WTL.get h' i (by simp_all)
theorem WSL.at {k:Nat} (h:WSL ss xs) (hk:k<xs.length):∃e,xs[k]=e/\xs[(k:Int).toNat]?=some e/\WSs ss e:=⟨_,rfl,by simp[hk],h.get k hk⟩
theorem WTL.at {k:Nat} (h:WTL ss xs) (hk:k<xs.length):∃e,xs[k]=e/\xs[(k:Int).toNat]?=some e/\WTs ss e:=⟨_,rfl,by simp[hk],h.get k hk⟩
end
section
variable {P:Program} {d:Option Tmp} {ty:TypeId} {ps:String} {af:Array Edge} {gd:Option (Nat×Bool)} {x y z:Operand}
@[irreducible] def booB (a b:Bool):Bool:=a==b
@[simp] theorem booB_t {a:Bool}:booB a b=true↔a=b:=by simp[booB]
@[simp] theorem booB_f {a:Bool}:booB a b=false↔a≠b:=by simp[booB]
theorem UN {a:Bool} [ht:TyU P t .bool]:
 AWN P ⟨d,.binOp .eql t x y t',ty,ps,af,gd⟩ [(x,.v (.c (.d g (.b a)))),(y,.v (.c (.d g' (.b b))))] [] (.v (.c (.d false (.b (booB a b))))) []:=
 cM λE ac w hn _=>by
  have h1:=vZ (hn x _ (.head _))
  have h2:=vZ (hn y _ (.tail _ (.head _)))
  exact⟨.bool (a==b),by simp[execOp,h1,h2,eqGuard,binOp,run_equal_bool w t a b ht.h],by simp[cvT,cvV,cvC,rdD,booB]⟩
theorem UO {a:Bool} [ht:TyU P t .bool]:
 AWN P ⟨d,.binOp .neq t x y t',ty,ps,af,gd⟩ [(x,.v (.c (.d g (.b a)))),(y,.v (.c (.d g' (.b b))))] [] (.v (.c (.d false (.b (!booB a b))))) []:=
 cM λE ac w hn _=>by
  have h1:=vZ (hn x _ (.head _))
  have h2:=vZ (hn y _ (.tail _ (.head _)))
  exact⟨.bool (!(a==b)),by simp[execOp,h1,h2,eqGuard,binOp,run_equal_bool w t a b ht.h],by simp[cvT,cvV,cvC,rdD,booB]⟩
theorem AZ {e:TypeId} (h:P.underlying t=some (.slice e)):P.elem t=e/\P.underlying t=some (.slice (P.elem t)):=by
 have:P.elem t=e:=by simp[Program.elem,h]
 simp_all
theorem If {F:Nat->Prop} {xs:Lad} {A:Option Addr} {c h:Nat} (hs:∀e∈xs,e.length=sz) (h1:l<=h) (h2:h<=xs.length) (hlc:xs.length<=c)
 (hr:xs=[]\/∃b off,A=some ⟨b,off,none⟩/\F b/\rdLL w F xs b off):rdD w F (.l ((xs.take h).drop l)) (sliced A l h c sz):=by
 have hl:((xs.take h).drop l).length=h-l:=by simp;omega
 rw[rdD,hl]
 refine⟨_,_,rfl,by omega,?_⟩
 by_cases hlh:h=l
 .simp_all
 right
 rcases hr with rfl|⟨b,off,rfl,hb,hr⟩
 .simp_all
 rw[if_neg oaa]
 exact⟨b,off+l*sz,by simp[Addr.add],hb,Cr (pS h hr) (λe he=>hs e (aaA he)) l⟩
theorem NI {t:Nat} {g2:Bool} {xs:Lad} {h:Int} {hi:Operand} [ht:eB P t e sz by_] (hs:∀e∈xs,e.length=sz) (h0:0<=h) (h2:h<=xs.length):
 AWN P ⟨d,.slice t x none (some hi) none,ty,ps,af,gd⟩ [(x,.v (.c (.d g (.l xs)))),(hi,.v (.c (.d g2 (.i .i64 h))))] [] (.v (.c (.d g (.l (xs.take h.toNat))))) []:=
 cM λE ac w hn _=>by
  have k1:=hn x _ (.head _)
  have k3:=iY (hn hi _ (.tail _ (.head _)))
  simp only[cvT,cvV,cvC,rdD] at k1
  obtain⟨A,c,hu,hlc,hr⟩:=k1
  obtain⟨i,z,hi1,hi2,_⟩:=ht.i
  obtain⟨he,hu'⟩:=AZ ht.u
  refine⟨sliced A 0 h.toNat c sz,?_,by have:=If (l:=0) (h:=h.toNat) hs oaa oaa hlc hr;rw[List.drop_zero] at this;exact this⟩
  simp[execOp,hu,k3,run_sliceAt_slice w t _ _ _ _ hu',run_slice_h w t A xs.length c hu' .i64 h h0 oaa,he,fm hi1,hi2]
theorem NJ {t:Nat} {g2:Bool} {xs:Lad} {l:Int} {lo:Operand} [ht:eB P t e sz by_] (hs:∀e∈xs,e.length=sz) (h0:0<=l) (h2:l<=xs.length):
 AWN P ⟨d,.slice t x (some lo) none none,ty,ps,af,gd⟩ [(x,.v (.c (.d g (.l xs)))),(lo,.v (.c (.d g2 (.i .i64 l))))] [] (.v (.c (.d g (.l (xs.drop l.toNat))))) []:=
 cM λE ac w hn _=>by
  have k1:=hn x _ (.head _)
  have k3:=iY (hn lo _ (.tail _ (.head _)))
  simp only[cvT,cvV,cvC,rdD] at k1
  obtain⟨A,c,hu,hlc,hr⟩:=k1
  obtain⟨i,z,hi1,hi2,_⟩:=ht.i
  obtain⟨he,hu'⟩:=AZ ht.u
  refine⟨sliced A l.toNat xs.length c sz,?_,by have:=If (l:=l.toNat) (h:=xs.length) hs oaa oaa hlc hr;rw[List.take_length] at this;exact this⟩
  simp[execOp,hu,k3,run_sliceAt_slice w t _ _ _ _ hu',run_slice_l w t A xs.length c hu' .i64 l h0 oaa,he,fm hi1,hi2]
end
section
variable {P:Program} {N:Nat} {d:Tmp} {ty:TypeId} {ps:String} {af:Array Edge} {gd:Option (Nat×Bool)} {x y z:Operand} {sl:Lab} {ob:Laa} {nx:Nat}
theorem bq {a:Bool} [TyU P t .bool] (hx:opT sl x= .v (.c (.d g (.b a)))) (hy:opT sl y= .v (.c (.d g' (.b b)))) (hN:nlt d N=true):
 NS0 P N ⟨some d,.binOp .eql t x y t',ty,ps,af,gd⟩ sl ob nx d (tB (booB a b)) ⟨d,[(x,.v (.c (.d g (.b a)))),(y,.v (.c (.d g' (.b b))))],[],tB (booB a b),[]⟩:=dT (st:=⟨sl,ob,nx⟩) UN rfl hN ⟨hx,hy,trivial⟩ trivial rfl
theorem bne {a:Bool} [TyU P t .bool] (hx:opT sl x= .v (.c (.d g (.b a)))) (hy:opT sl y= .v (.c (.d g' (.b b)))) (hN:nlt d N=true):
 NS0 P N ⟨some d,.binOp .neq t x y t',ty,ps,af,gd⟩ sl ob nx d (tB (!booB a b)) ⟨d,[(x,.v (.c (.d g (.b a)))),(y,.v (.c (.d g' (.b b))))],[],tB (!booB a b),[]⟩:=dT (st:=⟨sl,ob,nx⟩) UO rfl hN ⟨hx,hy,trivial⟩ trivial rfl
theorem cdh {t:Nat} {g2:Bool} {xs:Lad} {h:Int} {hi:Operand} [ht:eB P t e sz by_] (hx:opT sl x= .v (.c (.d g (.l xs)))) (hh:opT sl hi= .v (.c (.d g2 (.i .i64 h)))) (hN:nlt d N=true)
 (hs:∀e∈xs,e.length=sz) (h0:0<=h) (h2:h<=xs.length):
 NS0 P N ⟨some d,.slice t x none (some hi) none,ty,ps,af,gd⟩ sl ob nx d (.v (.c (.d g (.l (xs.take h.toNat))))) ⟨d,[(x,.v (.c (.d g (.l xs)))),(hi,.v (.c (.d g2 (.i .i64 h))))],[],.v (.c (.d g (.l (xs.take h.toNat)))),[]⟩:=
 dT (st:=⟨sl,ob,nx⟩) (NI hs h0 h2) rfl hN ⟨hx,hh,trivial⟩ trivial rfl
theorem cdl {t:Nat} {g2:Bool} {xs:Lad} {l:Int} {lo:Operand} [ht:eB P t e sz by_] (hx:opT sl x= .v (.c (.d g (.l xs)))) (hl:opT sl lo= .v (.c (.d g2 (.i .i64 l)))) (hN:nlt d N=true)
 (hs:∀e∈xs,e.length=sz) (h0:0<=l) (h2:l<=xs.length):
 NS0 P N ⟨some d,.slice t x (some lo) none none,ty,ps,af,gd⟩ sl ob nx d (.v (.c (.d g (.l (xs.drop l.toNat))))) ⟨d,[(x,.v (.c (.d g (.l xs)))),(lo,.v (.c (.d g2 (.i .i64 l))))],[],.v (.c (.d g (.l (xs.drop l.toNat)))),[]⟩:=
 dT (st:=⟨sl,ob,nx⟩) (NJ hs h0 h2) rfl hN ⟨hx,hl,trivial⟩ trivial rfl
end
def fi (e:List D) (j:Nat):Int:=match e[j]? with|some (.i _ n)=>n|_=>0
def fb (e:List D) (j:Nat):Bool:=match e[j]? with|some (.b n)=>n|_=>false
def fs (e:List D) (j:Nat):ByteArray:=match e[j]? with|some (.str n)=>n|_=>⟨#[]⟩
def fl (e:List D) (j:Nat):Lad:=match e[j]? with|some (.l n)=>n|_=>[]
@[simp] theorem fi_0 {k:IntKind} {n:Int} :fi (.i k n::r) 0=n:=rfl
@[simp] theorem fb_0 {n:Bool} :fb (.b n::r) 0=n:=rfl
@[simp] theorem fs_0 {n:ByteArray} :fs (.str n::r) 0=n:=rfl
@[simp] theorem fl_0 {n:Lad} :fl (.l n::r) 0=n:=rfl
@[simp] theorem fi_s {d:D} :fi (d::r) (j+1)=fi r j:=rfl
@[simp] theorem fb_s {d:D} :fb (d::r) (j+1)=fb r j:=rfl
@[simp] theorem fs_s {d:D} :fs (d::r) (j+1)=fs r j:=rfl
@[simp] theorem fl_s {d:D} :fl (d::r) (j+1)=fl r j:=rfl
def nK {α:Type} (f:α->Bool):Int->List α->Int
 |_,[]=> -1
 |i,a::l=>bif f a then i else nK f (i+1) l
theorem Uq {f:α->Bool} {l:List α} {i:Int} (h:k<l.length):nK f i (l.drop k)=bif f l[k] then i else nK f (i+1) (l.drop (k+1)):=by rw[aaZ h];rfl
theorem Fc {α:Type} {f:α->Bool}:∀{l:List α} {i:Int},0<=i->leB 0 (nK f i l)=l.any f
 |[],i,h=>by simp[nK]
 |a::l,i,h=>by
  rw[nK,List.any_cons]
  cases hf:f a with
  |true=>simpa using h
  |false=>simp only[cond_false,aaJ];exact Fc oaa
theorem aV {ob:Laa} {o ty:Nat} (ho:go ob o=some (.row ty sz els g true):=by exact rfl) (hlt:rsv o=false:=by exact rfl):
 dS N ⟨sl,ob,nx⟩ ⟨sl,(o,.row ty sz els g false)::ob,nx⟩:=by
 intro cx E a w hR
 obtain⟨b,c,arr,hr,hh,ha,hlc,hmx,hes,hrd,hFm,_⟩:=hR.obs o _ ho
 have hF:=hFm rfl
 obtain⟨hb1,hb2⟩:=hR.ok.rb o b c hr
 have hb3:cx.w0.heap.size<=b:=by
  rcases hb2 with h|h
  .exact h
  simp_all
 let E':Env:=⟨E.r,λk=>E.F k\/k=b,λk=>E.G k\/(g=true/\k=b),E.T,E.Z,E.n⟩
 have hH:∀g' k,E.H g' k->E'.H g' k:=λg' k hk=>by cases g'<;>exact .inl hk
 have hk:lf E w E' w:=⟨λ_ _ h=>h,hH,λ_ _ _=>rfl,λ_ _ h=>⟨h,rfl⟩,λ_ h=>⟨h,.refl _ _⟩,rfl⟩
 refine⟨E',⟨?_,?_,?_,hR.ok.rb,hR.ok.inj,hR.ok.os,hR.ok.tape,hR.ok.output,hR.ok.size,hR.ok.block,hR.ok.pin,λk hk=>hk.elim (hR.ok.ff k) (λe=>.inr (e▸hb3)),λk hk hk'=>hk.elim (λh=>hR.ok.gc k h hk') (λe=>e▸.mk hh),
  ⟨λl k h=>?_,hR.ok.sf.tt,λk h=>?_,hR.ok.sf.zs,hR.ok.sf.ze⟩⟩,hR.dom,λl x hl=>?_,λk=>kT hk (hR.sl k),hR.dfr,hR.size,hR.td⟩
 .rintro k (h|rfl)
  .exact hR.ok.fb k h
  exact hb1
 .rintro k (h|⟨_,rfl⟩)
  .exact .inl (hR.ok.gf k h)
  omega
 .rintro k (h|⟨_,rfl⟩)
  .exact hR.ok.gn k h
  omega
 .obtain⟨h1,h2,h3,h4⟩:=hR.ok.sf.tb l k h
  grind
 .obtain⟨h1,h2,h3,h4⟩:=hR.ok.sf.zc k h
  grind
 by_cases hol:o=l
 .subst hol
  rw[cU] at hl
  cases hl
  exact⟨b,c,arr,hr,hh,ha,hlc,hmx,hes,cX (λ_ _=>rfl) (hH g) rfl _ _ hrd,(λh=>by cases h),λ_=>⟨.inr rfl,λhg=>.inr ⟨hg,rfl⟩⟩⟩
 rw[b7 _ _ hol] at hl
 refine gU hk (λ_ _ _=>rfl) (λb' c' hr' hn hn'=>?_) (hR.obs l x hl)
 rcases hn' with h|h
 .exact hn h
 subst h;exact hol (hR.ok.inj _ _ _ _ _ hr hr')
def dfz (ob:Laa):C->Option (C×Lac)
 | .w o n=>match go ob o with
  |some (.row _ _ els g false)=>some (.d g (.l els),[(els.length,n)])
  |_=>some (.w o n,[])
 |c=>some (c,[])
def QU (ob:Laa):List C->Option (List C×Lac)
 |[]=>some ([],[])
 |c::cs=>match dfz ob c,QU ob cs with
  |some (x,e),some (xs,es)=>some (x::xs,e++es)
  |_,_=>none
def vfz (ob:Laa):T->Option (T×Lac)
 | .v (.c c)=>match dfz ob c with
  |some (x,e)=>some (.v (.c x),e)
  |none=>none
 | .v (.agg cs)=>match QU ob cs with
  |some (x,e)=>some (.v (.agg x),e)
  |none=>none
 |_=>none
theorem TP {ob:Laa} (hob:∀l x,go ob l=some x->dm E w l x) {c c':C} {e:Lac} (h:dfz ob c=some (c',e)) (he:Eqs e) (hc:cvC E w c u):cvC E w c' u:=by
 unfold dfz at h
 split at h
 .rename_i o n
  split at h
  .rename_i ho
   simp at h;obtain⟨rfl,rfl⟩:=h
   obtain⟨b,c,hr,rfl⟩:=hc
   obtain⟨b',c',arr,hr',hh,ha,hlc,hmx,hes,hrd,_,hFm⟩:=hob o _ ho
   rw[hr] at hr';cases hr'
   obtain⟨h1,h2⟩:=hFm rfl
   have hn:=he.1
   subst hn
   show rdD _ _ _ _
   rw[rdD]
   refine⟨_,_,rfl,hlc,.inr ⟨b,0,rfl,?_,hrd⟩⟩
   rename_i g _
   cases g
   .exact h1
   exact h2 rfl
  simp_all
 simp_all
theorem Jf {E:Env} {w:World} {ob:Laa} (hob:∀l x,go ob l=some x->dm E w l x):∀{cs cs':List C} {e:Lac} {us:Lae},QU ob cs=some (cs',e)->Eqs e->CV E w cs us->CV E w cs' us
 |[],cs',e,us,h,he,hc=>by simp[QU] at h;simp_all
 |c::cs,cs',e,us,h,he,hc=>by
  cases us with
  |nil=>exact hc.elim
  |cons u us=>
   simp only[QU] at h
   split at h
   .rename_i h1 h2
    simp at h;obtain⟨rfl,rfl⟩:=h
    obtain⟨k1,k2⟩:=eY he
    exact⟨TP hob h1 k1 hc.1,Jf hob h2 k2 hc.2⟩
   cases h
theorem bN {ob:Laa} {t t':T} {e:Lac} (hk:gt sl k=t:=by exact rfl) (hv:vfz ob t=some (t',e):=by exact rfl) (he:Eqs e:=by repeat (first|exact trivial|refine⟨by first|rfl|exact lm _|simp,?_⟩)):dS N ⟨sl,ob,nx⟩ ⟨(k,t')::sl,ob,nx⟩:=by
 intro cx E a w hR
 refine⟨E,hR.ok,hR.dom,hR.obs,λj=>?_,hR.dfr,hR.size,hR.td⟩
 by_cases hj:k=j
 .subst hj
  rw[d4]
  have:=hR.sl k
  rw[hk] at this
  unfold vfz at hv
  split at hv
  .split at hv
   .rename_i h1;simp at hv;obtain⟨rfl,rfl⟩:=hv;exact TP hR.obs h1 he this
   cases hv
  .split at hv
   .rename_i h1;simp at hv;obtain⟨rfl,rfl⟩:=hv;obtain⟨arr,hu,hc⟩:=this;exact⟨arr,hu,Jf hR.obs h1 he hc⟩
   cases hv
  cases hv
 rw[di _ _ hj];exact hR.sl j
inductive ct (σ ρ:Type) where
 |next (x:σ)
 |done (r:ρ)
def iter {σ ρ:Type} (step:σ->Option (ct σ ρ)):Nat->σ->Option ρ
 |0,_=>none
 |n+1,x=>match step x with
  |some (.next x')=>iter step n x'
  |some (.done r)=>some r
  |none=>none
def dn (o:Option ρ):Option (ct σ ρ):=match o with|some r=>some (.done r)|none=>none
@[irreducible] def FU:Nat:=18446744073709551616
def ix (xs:List α) (i:Int):Option α:=bif leB 0 i then xs[i.toNat]? else none
theorem bt {x y:Option α} {r:Option α} (h:b=true) (H:(bif b then x else y)=r):x=r:=by simp_all
theorem bf {x y:Option α} {r:Option α} (h:b=false) (H:(bif b then x else y)=r):y=r:=by simp_all
theorem ob {β:Type} {o:Option α} {k:α->Option β} {r:β} (H:Option.bind o k=some r):∃a,o=some a/\k a=some r:=Option.bind_eq_some_iff.1 H
theorem rq {x:Option α} {r:α} (H:(bif b then x else none)=some r):b=true/\x=some r:=by
 grind
theorem dnE {m:Option ρ} {o:ct σ ρ} (H:dn m=some o):∃r,m=some r/\o= .done r:=by
 cases m with
 |none=>cases H
 |some r=>exact⟨r,rfl,(Option.some.inj H).symm⟩
theorem ixE {xs:List α} {i:Int} {x:α} (H:ix xs i=some x):0<=i/\xs[i.toNat]?=some x:=by
 unfold ix at H
 obtain⟨h,H⟩:=rq H
 simp_all
theorem UA {xs:List α} {i:Int} {x:α} (H:ix xs i=some x):i<xs.length:=by
 obtain⟨h0,h1⟩:=ixE H
 grind
theorem ez {β:Type} {xs:List α} {i:Int} {x:α} (f:α->β) (H:ix xs i=some x):(xs.map f)[i.toNat]?=some (f x):=by
 rw[aaH,(ixE H).2];rfl
section
variable {P:Program} {N:Nat} {st:St} {AQ:Exit->St->Prop}
theorem an {a b c:St} (h:dS N a b) (k:dS N b c):dS N a c:=λcx E ac w hR=>let ⟨E',h'⟩:=h cx E ac w hR;k cx E' ac w h'
theorem zo (a:St):dS N a a:=λ_ E _ _ h=>⟨E,h⟩
class Clo (N:Nat) (AQ:Exit->St->Prop):Prop where
 h:∀e s m,dS N s m->AQ e m->AQ e s
instance {rs:List ResultVar} {res:List RV}:Clo N (zV N P rs res):=⟨λe s m hw h=>by
 cases e<;>simp only[zV] at h ⊢<;>first|exact h|(obtain⟨s',h1,h2⟩:=h;exact⟨s',an hw h1,h2⟩)⟩
instance {y:Code} [c:Clo N AQ]:Clo N (uF (λs=>AWC P N y s AQ) AQ):=⟨λe s m hw h=>by
 cases e<;>first|exact oi hw h|exact c.h _ _ _ hw h⟩
instance {id:Nat} [c:Clo N AQ]:Clo N (jO id AQ):=⟨λe s m hw h=>by
 cases e with
 |exit n=>
  simp only[jO] at h ⊢
  cases hb:d0 n id<;>rw[hb] at h<;>exact c.h _ _ _ hw h
 |_=>exact c.h _ _ _ hw h⟩
instance {M:St} [c:Clo N AQ]:Clo N (uF (λs=>dS N s M) AQ):=⟨λe s m hw h=>by
 cases e<;>first|exact an hw h|exact c.h _ _ _ hw h⟩
def gp (N:Nat) (S:σ->St) (r:ρ) (o:ct σ ρ) (AQ:Exit->St->Prop):Exit->St->Prop:=
 uF (λs=>∃x',o= .next x'/\dS N s (S x')) (λe s=>∃r',o= .done r'/\(r'=r->AQ e s))
instance {σ ρ:Type} {S:σ->St} {r:ρ} {o:ct σ ρ} [c:Clo N AQ]:Clo N (gp N S r o AQ):=⟨λe s m hw h=>by
 cases e<;>first
  |(obtain⟨x',h1,h2⟩:=h;exact⟨x',h1,an hw h2⟩)
  |(obtain⟨r',h1,h2⟩:=h;exact⟨r',h1,λhq=>c.h _ _ _ hw (h2 hq)⟩)⟩
theorem tD {S:σ->St} {r:ρ} {x':σ} (h:dS N s (S x')):gp (ρ:=ρ) N S r (.next x') AQ .normal s:=⟨x',rfl,h⟩
theorem Fg {S:σ->St} {r r':ρ} (h:r'=r->AQ (.exit n) s):gp N S r (ct.done r') AQ (.exit n) s:=⟨r',rfl,h⟩
theorem iq_r {S:σ->St} {r r':ρ} (h:r'=r->AQ .ret s):gp N S r (ct.done r') AQ .ret s:=⟨r',rfl,h⟩
theorem uZ (M:St) [c:Clo N AQ] (h1:AWC P N x st (uF (λs=>dS N s M) AQ)) (h2:AQ .normal M):AWC P N x st AQ:=
 AK h1 λe s h=>by
  cases e<;>first|exact c.h _ _ _ h h2|exact h
theorem sE (M:St) [c:Clo N AQ] (h1:AWC P N x st (jO id (uF (λs=>dS N s M) AQ))) (h2:AQ .normal M):AWC P N x st (jO id AQ):=
 AK h1 λe s h=>by
  cases e with
  |exit n=>
   simp only[jO] at h ⊢
   cases hb:d0 n id<;>rw[hb] at h
   .exact h
   exact c.h _ _ _ h h2
  |normal=>exact c.h _ _ _ h h2
  |_=>exact h
class GG (N:Nat) (K:St->Prop):Prop where
 h:∀s m,dS N s m->K m->K s
instance {y:Code}:GG N (λs=>AWC P N y s AQ):=⟨λs m hw h=>oi hw h⟩
instance [c:Clo N AQ]:GG N (λs=>AQ .normal s):=⟨λs m hw h=>c.h _ _ _ hw h⟩
instance {M:St}:GG N (λs=>dS N s M):=⟨λs m hw h=>an hw h⟩
theorem El {ops:Array Oper} {l:List Oper} {K:St->Prop} (M:St) [c:GG N K] (h1:AWR P N ops l st (λs=>dS N s M)) (h2:K M):AWR P N ops l st K:=
 Ts (λs h=>c.h _ _ h h2) h1
theorem OY {ops:Array Oper} {K K':List Inf->St->Prop} (hk:∀is s,K is s->K' is s):∀{l:List Oper} {is:List Inf} {st:St},DR P N ops l is st K->DR P N ops l is st K'
 |[],is,st,h=>hk _ _ h
 |o::l,is,st,h=>by
  obtain⟨x,s1,s2,h1,h2,h3⟩:=h
  exact⟨x,s1,s2,h1,h2,OY hk h3⟩
theorem yO {ops ops':Array Oper} {l:List Oper} {is:List Inf} {K:St->Prop} (M:St) [c:GG N K] (h1:DR P N ops l is st (λis t=>z7 ops' is nx=true/\dS N t M)) (h2:K M):DR P N ops l is st (λis t=>z7 ops' is nx=true/\K t):=
 OY (λis s h=>⟨h.1,c.h _ _ h.2 h2⟩) h1
theorem sD {c:Code} {step:σ->Option (ct σ ρ)} {x0:σ} {r:ρ} (S:σ->St) (H:iter step n x0=some r) (h0:dS N st (S x0))
 (round:∀x o,step x=some o->AWC P N c (S x) (gp N S r o AQ)):AWC P N (.loop c) st AQ:=by
 refine Tq (σ:=Nat×σ) (λp=>iter step p.1 p.2=some r) (λp=>S p.2) (λp=>p.1) (n,x0) H h0 ?_
 rintro⟨m,x⟩ hI
 cases m with
 |zero=>cases hI
 |succ m=>
  simp only[iter] at hI
  cases hs:step x with
  |none=>simp_all
  |some o=>
   rw[hs] at hI
   refine AK (round x o hs) λe s h=>?_
   cases o with
   |next x'=>
    cases e with
    |normal=>
     obtain⟨x'',hx,hw⟩:=h
     cases hx
     exact⟨(m,x'),hI,hw,Nat.lt_succ_self _⟩
    |_=>obtain⟨r',hx,_⟩:=h;cases hx
   |done r'=>
    cases hI
    cases e with
    |normal=>obtain⟨x'',hx,hw⟩:=h;cases hx
    |_=>obtain⟨r'',hx,h⟩:=h;cases hx;exact h rfl
end
def qB (by_:Nat) (n c:Int):Bool:=decide (0<=n/\n<=c/\(by_:Int)*c<=281474976710656/\c<=9223372036854775807)
def da (by_ n:Nat):Bool:=decide (n*by_<=140737488355328/\n<=9223372036854775807)
theorem JA {enc:α->List D} (h:∀a,(enc a).length=n) (l:List α):∀e∈l.map enc,e.length=n:=by
 simp_all
theorem lm {enc:α->List D} (l:List α):(l.map enc).length=l.length:=aay _
section
variable {P:Program} {N:Nat} {d:Tmp} {ty:TypeId} {ps:String} {af:Array Edge} {gd:Option (Nat×Bool)} {x y z:Operand} {sl:Lab} {ob:Laa} {nx:Nat}
variable {α:Type} {enc:α->List D}
theorem xdT {xs:List α} {i:Int} {a:α} [eB P t e sz by_] (H:ix xs i=some a) (henc:∀a,(enc a).length=sz:=by exact λ_=>rfl) (hx:opT sl x= .v (.c (.d g (.l (xs.map enc)))):=by exact rfl) (hy:opT sl y= .v (.c (.d g' (.i kd i))):=by exact rfl) (hN:nlt d N=true:=by exact rfl):
 NS0 P N ⟨some d,.indexAddr t x y,ty,ps,af,gd⟩ sl ob nx d (.v (.c (.q g (enc a) 0))) ⟨d,[(x,.v (.c (.d g (.l (xs.map enc))))),(y,.v (.c (.d g' (.i kd i))))],[],.v (.c (.q g (enc a) 0)),[]⟩:=
 xd hx hy hN (ixE H).1 (ez enc H) (JA henc xs)
theorem xwT {o:Nat} {i:Int} {ys:List α} {a:α} [eB P t e sz by_] (H:ix ys i=some a) (hx:opT sl x= .v (.c (.w o n)):=by exact rfl) (hy:opT sl y= .v (.c (.d g (.i kd i))):=by exact rfl) (hn:ys.length=n:=by first|rfl|simp) (hN:nlt d N=true:=by exact rfl):
 NS0 P N ⟨some d,.indexAddr t x y,ty,ps,af,gd⟩ sl ob nx d (.v (.c (.e o sz i.toNat 0))) ⟨d,[(x,.v (.c (.w o n))),(y,.v (.c (.d g (.i kd i))))],[],.v (.c (.e o sz i.toNat 0)),[]⟩:=
 xw hx hy hN (ixE H).1 (by have:=UA H;omega)
theorem mkT {zd:List D} {k k':IntKind} {n c:Int} {za:α} [eB P t e sz by_] [TyE P e zd] (H:qB by_ n c=true) (hz:enc za=zd) (hx:opT sl x= .v (.c (.d g (.i k n))):=by exact rfl) (hy:opT sl y= .v (.c (.d g' (.i k' c))):=by exact rfl) (hN:nlt d N=true:=by exact rfl)
 (hq:nxt nx=some nx':=by exact rfl):
 NS1 P N ⟨some d,.makeSlice t x y,ty,ps,af,gd⟩ sl ob nx nx' d (.v (.c (.w nx (aaf n.toNat za).length))) (.row e sz ((aaf n.toNat za).map enc) true true) ⟨d,[(x,.v (.c (.d g (.i k n)))),(y,.v (.c (.d g' (.i k' c))))],[],.v (.c (.w nx (aaf n.toNat za).length)),[(nx,.row e sz ((aaf n.toNat za).map enc) true true)]⟩:=by
 simp only[qB,decide_eq_true_eq] at H
 have hn:(n.toNat:Int)=n:=by omega
 have:=mk (P:=P) (N:=N) (d:=d) (ty:=ty) (ps:=ps) (af:=af) (gd:=gd) (ob:=ob) (sl:=sl) (nx:=nx) (nx':=nx') (t:=t) (e:=e) (sz:=sz) (by_:=by_) (zd:=zd) (x:=x) (y:=y) (n:=n.toNat) (by rw[hn];exact hx) hy hN oaa oaa oaa hq
 simp_all
theorem apT {o:Nat} {ys zs:List α} {zd:Lad} {gy gg:Bool} {c:C} [eB P t e sz by_] (H:da by_ (ys++zs).length=true) (hzd:zs.map enc=zd:=by exact rfl) (henc:∀a,(enc a).length=sz:=by exact λ_=>rfl) (hd:nlt d N=true:=by exact rfl)
 (hx:opT sl x= .v (.c (.w o n)):=by exact rfl) (hy:opT sl y= .v (.c c):=by exact rfl) (hn:ys.length=n:=by first|rfl|simp) (hs:Src ob c zd gy:=by first|exact .d|exact .nil|exact .w rfl (by first|rfl|exact lm _|simp)|exact .wn rfl (by first|rfl|exact lm _|simp)) (ho:go ob o=some (.row e sz (ys.map enc) g true):=by exact rfl) (hk:oO o sl=some sl':=by exact rfl) (hkb:mC o ob=some ob':=by exact rfl) (hg:(g&&gy)=gg:=by exact rfl) (hrv:rsp o=false:=by exact rfl):
 AWO P N ⟨some d,.call ⟨.builtin .append,#[x,y],#[t,t]⟩,ty,ps,af,gd⟩ ⟨sl,ob,nx⟩ ⟨(d,.v (.c (.w o (ys++zs).length)))::sl',(o,.row e sz ((ys++zs).map enc) gg true)::ob',nx⟩:=by
 subst hzd
 simp only[da,decide_eq_true_eq,aav] at H
 have:=ap (P:=P) (N:=N) (d:=d) (ty:=ty) (ps:=ps) (af:=af) (gd:=gd) (nx:=nx) (t:=t) (e:=e) (sz:=sz) (by_:=by_) hd hx hy ho hs hk hkb hg (by simp_all) (JA henc zs) (by simp_all) (by simp_all) hrv
 simp_all
theorem soT {o:Nat} {i:Int} {rt:TypeId} {ys:List α} {a a':α} {ns:List D} {gg:Bool} {v:V} [TyN P t n] (H:ix ys i=some a) (hx:opT sl x= .v (.c (.e o sz i.toNat j)):=by exact rfl) (hy:opT sl y= .v v:=by exact rfl)
 (ho:go ob o=some (.row rt sz (ys.map enc) g true):=by exact rfl) (hv:vD v=some (ns,g'):=by exact rfl) (hn:d0 ns.length n=true:=by exact rfl) (hs:uW j ns (enc a)=some (enc a'):=by exact rfl) (hg:(g&&g')=gg:=by exact rfl):
 AWO P N ⟨none,.store t x y,ty,ps,af,gd⟩ ⟨sl,ob,nx⟩ ⟨sl,(o,.row rt sz ((ys.set i.toNat a').map enc) gg true)::ob,nx⟩:=by
 have:=so (P:=P) (N:=N) (ty:=ty) (ps:=ps) (af:=af) (gd:=gd) (nx:=nx) (t:=t) (n:=n) hx hy ho hv hn (ez enc H) hs hg
 simp_all
end
def eI (n:Int):List D:=[.i .i64 n]
def eU8 (n:Int):List D:=[.i .u8 n]
def eS (xs:List α) (l h:Int):Bool:=decide (0<=l/\l<=h/\h<=xs.length)
theorem ne0 {b:Int} (h:(!eqB b 0)=true):b≠0:=by simp_all
theorem wn {o n':Nat} (h:gt sl k= .v (.c (.w o n))) (hn:n=n'):gt sl k= .v (.c (.w o n')):=hn▸h
section
variable {P:Program} {N:Nat} {d:Tmp} {ty:TypeId} {ps:String} {af:Array Edge} {gd:Option (Nat×Bool)} {x y z:Operand} {sl:Lab} {ob:Laa} {nx:Nat}
variable {α:Type} {enc:α->List D}
theorem ldT {xs:List α} [eB P t e sz by_] (hx:opT sl x= .v (.c (.d g (.l (xs.map enc))))) (hN:nlt d N=true):
 NS0 P N ⟨some d,.call ⟨.builtin .len,#[x],#[t]⟩,ty,ps,af,gd⟩ sl ob nx d (tI xs.length) ⟨d,[(x,.v (.c (.d g (.l (xs.map enc)))))],[],tI xs.length,[]⟩:=by
 have:=ld (P:=P) (N:=N) (d:=d) (ty:=ty) (ps:=ps) (af:=af) (gd:=gd) (ob:=ob) (nx:=nx) (t:=t) hx hN
 simp_all
theorem WV {t:Nat} {g2:Bool} {xs:List α} {h:Int} {hi:Operand} [ht:eB P t e sz by_] (H:eS xs 0 h=true) (henc:∀a,(enc a).length=sz) (hx:opT sl x= .v (.c (.d g (.l (xs.map enc))))) (hh:opT sl hi= .v (.c (.d g2 (.i .i64 h)))) (hN:nlt d N=true):
 NS0 P N ⟨some d,.slice t x none (some hi) none,ty,ps,af,gd⟩ sl ob nx d (.v (.c (.d g (.l ((xs.take h.toNat).map enc))))) ⟨d,[(x,.v (.c (.d g (.l (xs.map enc))))),(hi,.v (.c (.d g2 (.i .i64 h))))],[],.v (.c (.d g (.l ((xs.take h.toNat).map enc)))),[]⟩:=by
 simp only[eS,decide_eq_true_eq] at H
 have:=cdh (P:=P) (N:=N) (d:=d) (ty:=ty) (ps:=ps) (af:=af) (gd:=gd) (ob:=ob) (nx:=nx) (t:=t) (e:=e) (sz:=sz) (by_:=by_) hx hh hN (JA henc xs) H.2.1 (by simp_all)
 simp_all
theorem QM {t:Nat} {g2:Bool} {xs:List α} {l:Int} {lo:Operand} [ht:eB P t e sz by_] (H:eS xs l xs.length=true) (henc:∀a,(enc a).length=sz) (hx:opT sl x= .v (.c (.d g (.l (xs.map enc))))) (hl:opT sl lo= .v (.c (.d g2 (.i .i64 l)))) (hN:nlt d N=true):
 NS0 P N ⟨some d,.slice t x (some lo) none none,ty,ps,af,gd⟩ sl ob nx d (.v (.c (.d g (.l ((xs.drop l.toNat).map enc))))) ⟨d,[(x,.v (.c (.d g (.l (xs.map enc))))),(lo,.v (.c (.d g2 (.i .i64 l))))],[],.v (.c (.d g (.l ((xs.drop l.toNat).map enc)))),[]⟩:=by
 simp only[eS,decide_eq_true_eq] at H
 have:=cdl (P:=P) (N:=N) (d:=d) (ty:=ty) (ps:=ps) (af:=af) (gd:=gd) (ob:=ob) (nx:=nx) (t:=t) (e:=e) (sz:=sz) (by_:=by_) hx hl hN (JA henc xs) H.1 (by simp_all)
 simp_all
end
end Go.AM
