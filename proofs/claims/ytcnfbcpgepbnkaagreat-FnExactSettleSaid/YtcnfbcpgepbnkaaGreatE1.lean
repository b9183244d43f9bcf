/- A part. -/
import Derived.Orders
import Derived.Below
import Derived.KernelRfl
import Derived.Maps.AppendAt
import Derived.Laws.MakeOwn
import Derived.Tactics
import Derived.Laws.Strings
import Derived.Great.FillDense
import Derived.Deep.Slices
import Derived.WideShapes
import Derived.ProofKit
import Derived.OpenShut
import Derived.ChangeOld
import Derived.Laws.Slices
import Derived.Laws.Small
set_option linter.unusedVariables false
set_option linter.unusedSimpArgs false
set_option maxHeartbeats 4000000
open Option renaming some->ς,none->ξ
open Bool renaming true->ζ,false->η
open True renaming intro->θ
open List renaming getElem?_eq_getElem->hV,getElem?_eq_some_iff->f5,mem_of_getElem?->v0,getElem?_append_right->aa3,eq_nil_of_length_eq_zero->adn,getElem?_append_left->aa8,mem_cons->aa2,replicate->aal,pairwise_iff_getElem->adl,findIdx?_eq_some_iff_getElem->adF,getElem?_of_mem->ac7,take_succ_cons->ado,range->f6,any_eq_true->adi,getElem?_take->adj,flatten_cons->adr,drop_eq_getElem_cons->adI,findIdx?_eq_none_iff->adJ,length_map->adb,mem_of_mem_take->adk,all_cons->adm,getElem?_drop->adE,length_append->ads,getElem?_map->ada,cons_append->ade,length_cons->acn,all_eq_true->aa4,nodup_cons->adH,mem_append->aau
open Nat renaming eq_of_beq_eq_true->aat,beq->fW,mul_le_mul_right->adh,zero_add->aa5,le_refl->abk,le_of_ble_eq_true->adp,zero_le->abm,add_mul_mod_self_right->adO,ble->abD,lt_of_lt_of_le->aci,add_zero->adC,add_comm->adL,lt_or_ge->ac9,mod_eq_of_lt->adM,strongRecOn->adN,le_trans->acR
open Bool renaming and_eq_true->f4,not_eq_true'->ac8,or_eq_false_iff->adc,or_eq_true->adf,false_or->adD
open Array renaming getElem?_eq_getElem->adg,replicate->abw,toArray_toList->adG,getD->adK
namespace Go.AM
variable{w w':World}{b k sz l n N j id i e by_ off f ft nx nx':Nat}{u:Value}{t t' vt:TypeId}{a:Act}{P:Program}{dj:Tmp}{y:Code}{σ α ρ:Type}{kd:IntKind}{m:Bool}
abbrev Lae:=List Value
abbrev Lac:=List (Nat×Nat)
theorem oaa{p:Prop}(h:p:=by omega):p:=h
def qD:List Nat:=[]
def MQ(_:World):Prop:=True
theorem ZJ(w w':World)(_:∀b∈qD,w'.heap[b]?=w.heap[b]?)(_:MQ w):MQ w':=trivial
theorem MO(w:World)(_:MQ w):∀b∈qD,b<w.heap.size:=λ_ h=>by cases h
open Go.RowKit
def nlt(a b:Nat):Bool:=abD (a+1) b
def TabsIn(w:World):Prop:=MQ w
inductive D where
 |i (k:IntKind) (n:Int)
 |b (x:Bool)
 |str (s:ByteArray)
 |l (xs:List (List D))
 |k (A:Option Addr) (n c:Nat)
 deriving Inhabited
variable{x:Go.AM.D}{r el:List Go.AM.D}
abbrev Lad:=List (List D)
variable{els ys:Go.AM.Lad}
mutual
def rdD(w:World)(F:Nat->Prop):D->Value->Prop
 | .i k n,u=>u= .int k n
 | .b x,u=>u= .bool x
 | .str s,u=>u= .string s
 | .l xs,u=>∃A c,u= .slice A xs.length c/\xs.length<=c/\(xs=[]\/∃b off,A=ς ⟨b,off,ξ⟩/\F b/\rdLL w F xs b off)
 | .k A n c,u=>u= .slice A n c
def rdLL(w:World)(F:Nat->Prop):Lad->Nat->Nat->Prop
 |[],_,_=>True
 |e::es,b,k=>rdL w F e b k/\rdLL w F es b (k+e.length)
def rdL(w:World)(F:Nat->Prop):List D->Nat->Nat->Prop
 |[],_,_=>True
 |d::ds,b,k=>(∃u,w.cell? ⟨b,k,ξ⟩=ς u/\rdD w F d u)/\rdL w F ds b (k+1)
end
theorem Av(h:w'.heap[b]?=w.heap[b]?):w'.cell? ⟨b,k,ξ⟩=w.cell? ⟨b,k,ξ⟩:=by
 simp[World.cell?,h]
mutual
theorem bQ{w w':World}{F F':Nat->Prop}(hw:∀b,F b->w'.heap[b]?=w.heap[b]?)(hF:∀b,F b->F' b):
 ∀(d:D) (u:Value),rdD w F d u->rdD w' F' d u
 | .i _ _,_,h=>by simpa [rdD] using h
 | .b _,_,h=>by simpa [rdD] using h
 | .str _,_,h=>by simpa [rdD] using h
 | .l xs,u,h=>by
  rw[rdD] at h ⊢
  obtain⟨A,c,hu,hlc,h⟩:=h
  refine⟨A,c,hu,hlc,?_⟩
  rcases h with h|⟨b,off,hA,hb,h⟩
  .exact .inl h
  exact .inr ⟨b,off,hA,hF b hb,rdLL_mono hw hF xs b off hb h⟩
 | .k _ _ _,_,h=>by simpa [rdD] using h
theorem rdLL_mono{w w':World}{F F':Nat->Prop}(hw:∀b,F b->w'.heap[b]?=w.heap[b]?)(hF:∀b,F b->F' b):
 ∀(xs:Lad) (b k:Nat),F b->rdLL w F xs b k->rdLL w' F' xs b k
 |[],_,_,_,_=>by simp[rdLL]
 |e::es,b,k,hb,h=>by
  rw[rdLL] at h ⊢
  exact⟨rdL_mono hw hF e b k hb h.1,rdLL_mono hw hF es b _ hb h.2⟩
theorem rdL_mono{w w':World}{F F':Nat->Prop}(hw:∀b,F b->w'.heap[b]?=w.heap[b]?)(hF:∀b,F b->F' b):
 ∀(xs:List D) (b k:Nat),F b->rdL w F xs b k->rdL w' F' xs b k
 |[],_,_,_,_=>by simp[rdL]
 |d::ds,b,k,hb,h=>by
  rw[rdL] at h ⊢
  obtain⟨⟨u,hc,hu⟩,h⟩:=h
  exact⟨⟨u,(Av (hw b hb)).trans hc,bQ hw hF d u hu⟩,rdL_mono hw hF ds b _ hb h⟩
end
theorem KW{w w':World}{F F':Nat->Prop}(hw:∀b,F b->w'.heap[b]?=w.heap[b]?)(hF:∀b,F b->F' b){b:Nat}(hb:w'.heap[b]?=w.heap[b]?):
 ∀(xs:List D) (k:Nat),rdL w F xs b k->rdL w' F' xs b k
 |[],_,_=>by simp[rdL]
 |d::ds,k,h=>by
  rw[rdL] at h ⊢
  obtain⟨⟨u,hc,hu⟩,h⟩:=h
  exact⟨⟨u,(Av hb).trans hc,bQ hw hF d u hu⟩,KW hw hF hb ds _ h⟩
theorem bP{w w':World}{F F':Nat->Prop}(hw:∀b,F b->w'.heap[b]?=w.heap[b]?)(hF:∀b,F b->F' b){b:Nat}(hb:w'.heap[b]?=w.heap[b]?):
 ∀(xs:Lad) (k:Nat),rdLL w F xs b k->rdLL w' F' xs b k
 |[],_,_=>by simp[rdLL]
 |e::es,k,h=>by
  rw[rdLL] at h ⊢
  exact⟨KW hw hF hb e k h.1,bP hw hF hb es _ h.2⟩
theorem iz{w:World}{F:Nat->Prop}:∀{xs:List D} {b k:Nat} {j:Nat} {d:D},rdL w F xs b k->xs[j]?=ς d->∃u,w.cell? ⟨b,k+j,ξ⟩=ς u/\rdD w F d u
 |[],_,_,_,_,_,h=>by simp at h
 |_::_,b,k,0,d,h,hj=>by
  rw[rdL] at h
  simp_all
 |_::ds,b,k,j+1,d,h,hj=>by
  rw[rdL] at h
  have:=iz (j:=j) h.2 (by simpa using hj)
  grind
theorem mG{w:World}{F:Nat->Prop}:∀{xs:List D} {b k:Nat},(∀j d,xs[j]?=ς d->∃u,w.cell? ⟨b,k+j,ξ⟩=ς u/\rdD w F d u)->rdL w F xs b k
 |[],_,_,_=>by simp[rdL]
 |d::ds,b,k,h=>by
  rw[rdL]
  refine⟨h 0 d rfl,mG λj d' hj=>?_⟩
  have:=h (j+1) d' (by simp_all)
  grind
theorem sH{w:World}{F:Nat->Prop}{sz:Nat}:∀{xs:Lad} {b k:Nat} {i:Nat} {e:List D},rdLL w F xs b k->(∀e∈xs,e.length=sz)->xs[i]?=ς e->rdL w F e b (k+i*sz)
 |[],_,_,_,_,_,_,h=>by simp at h
 |_::_,b,k,0,e,h,_,hi=>by
  rw[rdLL] at h
  simp_all
 |e0::es,b,k,i+1,e,h,hs,hi=>by
  rw[rdLL] at h
  have h0:e0.length=sz:=hs e0 (by simp)
  have:=sH (i:=i) h.2 (λx hx=>hs x (by simp[hx])) (by simpa using hi)
  grind
theorem AY{w:World}{F:Nat->Prop}{sz:Nat}:∀{xs:Lad} {b k:Nat},(∀e∈xs,e.length=sz)->(∀i e,xs[i]?=ς e->rdL w F e b (k+i*sz))->rdLL w F xs b k
 |[],_,_,_,_=>by simp[rdLL]
 |e0::es,b,k,hs,h=>by
  rw[rdLL]
  have h0:e0.length=sz:=hs e0 (by simp)
  refine⟨by simpa using h 0 e0 rfl,AY (λx hx=>hs x (by simp[hx])) λi e hi=>?_⟩
  have:=h (i+1) e (by simp_all)
  grind
theorem AX{F:Nat->Prop}{xs:Lad}(h:rdLL w F xs b k)(hs:∀e∈xs,e.length=sz)(m:Nat):rdLL w F (xs.drop m) b (k+m*sz):=
 AY (λe he=>hs e (List.mem_of_mem_drop he)) λi e hi=>by
  rw[adE] at hi
  have:=sH h hs hi
  grind
theorem oc{w:World}{F:Nat->Prop}:∀{xs:Lad} {b k:Nat} (m:Nat),rdLL w F xs b k->rdLL w F (xs.take m) b k
 |[],_,_,_,_=>by simp[rdLL]
 |_::_,_,_,0,_=>by simp[rdLL]
 |e::es,b,k,m+1,h=>by
  rw[rdLL] at h
  rw[ado,rdLL]
  exact⟨h.1,oc m h.2⟩
theorem T5{sz:Nat}:∀{xs:Lad},(∀e∈xs,e.length=sz)->(xs.map List.length).sum=xs.length*sz
 |[],_=>by simp
 |e::es,h=>by
  simp[h e (by simp),T5 (xs:=es) λx hx=>h x (by simp[hx]),Nat.add_mul]
  omega
theorem kj{F:Nat->Prop}{d:D}(h:rdD w F d u):u.oneCell'=true:=by
 cases d<;>simp only[rdD] at h
 case l xs=>obtain⟨A,c,rfl,_⟩:=h;rfl
 all_goals subst h;rfl
theorem p6{F:Nat->Prop}{d:D}(h:rdD w F d u):u.cells= #[u]:=by
 cases d<;>simp only[rdD] at h
 case l xs=>obtain⟨A,c,rfl,_⟩:=h;rfl
 all_goals subst h;rfl
def Rw(u u':Value):Prop:=u'=u\/(∃k n m,u= .int k n/\u'= .int k m)\/(∃x y,u= .bool x/\u'= .bool y)\/(∃s t,u= .string s/\u'= .string t)
theorem Rw.trans{v x:Value}(h:Rw u v)(h':Rw v x):Rw u x:=by
 rcases h with rfl|⟨k,n,m,rfl,rfl⟩|⟨a,b,rfl,rfl⟩|⟨s,t,rfl,rfl⟩
 .exact h'
 .rcases h' with rfl|⟨k',n',m',h1,rfl⟩|⟨a,b,h1,rfl⟩|⟨s,t,h1,rfl⟩
  .exact .inr (.inl ⟨_,_,_,rfl,rfl⟩)
  .cases h1;exact .inr (.inl ⟨_,_,_,rfl,rfl⟩)
  .cases h1
  cases h1
 .rcases h' with rfl|⟨k',n',m',h1,rfl⟩|⟨a,b,h1,rfl⟩|⟨s,t,h1,rfl⟩
  .exact .inr (.inr (.inl ⟨_,_,rfl,rfl⟩))
  .cases h1
  .cases h1;exact .inr (.inr (.inl ⟨_,_,rfl,rfl⟩))
  cases h1
 rcases h' with rfl|⟨k',n',m',h1,rfl⟩|⟨a,b,h1,rfl⟩|⟨s,t,h1,rfl⟩
 .exact .inr (.inr (.inr ⟨_,_,rfl,rfl⟩))
 .cases h1
 .cases h1
 cases h1;exact .inr (.inr (.inr ⟨_,_,rfl,rfl⟩))
def vX(w w':World)(b:Nat):Prop:=∀k u,w.cell? ⟨b,k,ξ⟩=ς u->∃u',w'.cell? ⟨b,k,ξ⟩=ς u'/\Rw u u'
theorem vX.refl(w:World)(b:Nat):vX w w b:=λ_ u h=>⟨u,h,.inl rfl⟩
theorem vX.of_eq(h:w'.heap[b]?=w.heap[b]?):vX w w' b:=λ_ u hc=>⟨u,(Av h).trans hc,.inl rfl⟩
theorem vX.trans{w'':World}(h:vX w w' b)(h':vX w' w'' b):vX w w'' b:=λk u hc=>by
 obtain⟨u',h1,h2⟩:=h k u hc
 obtain⟨u'',h3,h4⟩:=h' k u' h1
 exact⟨u'',h3,h2.trans h4⟩
mutual
def rsD(w:World)(F:Nat->Prop):D->Value->Prop
 | .i k _,u=>∃m,u= .int k m
 | .b _,u=>∃x,u= .bool x
 | .str _,u=>∃s,u= .string s
 | .l xs,u=>∃A c,u= .slice A xs.length c/\xs.length<=c/\(xs=[]\/∃b off,A=ς ⟨b,off,ξ⟩/\F b/\rsLL w F xs b off)
 | .k A n c,u=>u= .slice A n c
def rsLL(w:World)(F:Nat->Prop):Lad->Nat->Nat->Prop
 |[],_,_=>True
 |e::es,b,k=>rsL w F e b k/\rsLL w F es b (k+e.length)
def rsL(w:World)(F:Nat->Prop):List D->Nat->Nat->Prop
 |[],_,_=>True
 |d::ds,b,k=>(∃u,w.cell? ⟨b,k,ξ⟩=ς u/\rsD w F d u)/\rsL w F ds b (k+1)
end
theorem acy{F:Nat->Prop}{d:D}{u':Value}(h:rsD w F d u)(hs:Rw u u'):rsD w F d u':=by
 rcases hs with rfl|⟨k,n,m,rfl,rfl⟩|⟨a,b,rfl,rfl⟩|⟨s,t,rfl,rfl⟩
 .exact h
 all_goals cases d<;>simp only[rsD] at h ⊢
 all_goals first
  |(obtain⟨A,c,h,_⟩:=h;cases h;done)
  |(obtain⟨m',h⟩:=h;cases h;done)
  |(obtain⟨m',h⟩:=h;cases h;exact⟨_,rfl⟩)
  |(cases h;done)
mutual
theorem ug{w w':World}{F F':Nat->Prop}(hw:∀b,F b->vX w w' b)(hF:∀b,F b->F' b):
 ∀(d:D) (u:Value),rsD w F d u->rsD w' F' d u
 | .i _ _,_,h=>by simpa [rsD] using h
 | .b _,_,h=>by simpa [rsD] using h
 | .str _,_,h=>by simpa [rsD] using h
 | .l xs,u,h=>by
  rw[rsD] at h ⊢
  obtain⟨A,c,hu,hlc,h⟩:=h
  refine⟨A,c,hu,hlc,?_⟩
  rcases h with h|⟨b,off,hA,hb,h⟩
  .exact .inl h
  exact .inr ⟨b,off,hA,hF b hb,rsLL_mono hw hF xs b off hb h⟩
 | .k _ _ _,_,h=>by simpa [rsD] using h
theorem rsLL_mono{w w':World}{F F':Nat->Prop}(hw:∀b,F b->vX w w' b)(hF:∀b,F b->F' b):
 ∀(xs:Lad) (b k:Nat),F b->rsLL w F xs b k->rsLL w' F' xs b k
 |[],_,_,_,_=>by simp[rsLL]
 |e::es,b,k,hb,h=>by
  rw[rsLL] at h ⊢
  exact⟨rsL_mono hw hF e b k hb h.1,rsLL_mono hw hF es b _ hb h.2⟩
theorem rsL_mono{w w':World}{F F':Nat->Prop}(hw:∀b,F b->vX w w' b)(hF:∀b,F b->F' b):
 ∀(xs:List D) (b k:Nat),F b->rsL w F xs b k->rsL w' F' xs b k
 |[],_,_,_,_=>by simp[rsL]
 |d::ds,b,k,hb,h=>by
  rw[rsL] at h ⊢
  obtain⟨⟨u,hc,hu⟩,h⟩:=h
  obtain⟨u',hc',hs⟩:=hw b hb k u hc
  exact⟨⟨u',hc',ug hw hF d u' (acy hu hs)⟩,rsL_mono hw hF ds b _ hb h⟩
end
mutual
theorem Zm{w:World}{F:Nat->Prop}:∀(d:D) (u:Value),rdD w F d u->rsD w F d u
 | .i _ n,_,h=>by rw[rdD] at h;rw[rsD];simp_all
 | .b x,_,h=>by rw[rdD] at h;rw[rsD];simp_all
 | .str s,_,h=>by rw[rdD] at h;rw[rsD];simp_all
 | .l xs,u,h=>by
  rw[rdD] at h;rw[rsD]
  obtain⟨A,c,hu,hlc,h⟩:=h
  refine⟨A,c,hu,hlc,?_⟩
  rcases h with h|⟨b,off,hA,hb,h⟩
  .exact .inl h
  exact .inr ⟨b,off,hA,hb,rsLL_of xs b off h⟩
 | .k _ _ _,_,h=>by rw[rdD] at h;rw[rsD];exact h
theorem rsLL_of{w:World}{F:Nat->Prop}:∀(xs:Lad) (b k:Nat),rdLL w F xs b k->rsLL w F xs b k
 |[],_,_,_=>by simp[rsLL]
 |e::es,b,k,h=>by
  rw[rdLL] at h;rw[rsLL]
  exact⟨rsL_of e b k h.1,rsLL_of es b _ h.2⟩
theorem rsL_of{w:World}{F:Nat->Prop}:∀(xs:List D) (b k:Nat),rdL w F xs b k->rsL w F xs b k
 |[],_,_,_=>by simp[rsL]
 |d::ds,b,k,h=>by
  rw[rdL] at h;rw[rsL]
  obtain⟨⟨u,hc,hu⟩,h⟩:=h
  exact⟨⟨u,hc,Zm d u hu⟩,rsL_of ds b _ h⟩
end
theorem Rn{w:World}{F:Nat->Prop}:∀{xs:List D} {b k:Nat} {j:Nat} {d:D},rsL w F xs b k->xs[j]?=ς d->∃u,w.cell? ⟨b,k+j,ξ⟩=ς u/\rsD w F d u
 |[],_,_,_,_,_,h=>by simp at h
 |_::_,b,k,0,d,h,hj=>by
  rw[rsL] at h
  simp_all
 |_::ds,b,k,j+1,d,h,hj=>by
  rw[rsL] at h
  have:=Rn (j:=j) h.2 (by simpa using hj)
  grind
theorem TH{w:World}{F:Nat->Prop}{sz:Nat}:∀{xs:Lad} {b k:Nat} {i:Nat} {e:List D},rsLL w F xs b k->(∀e∈xs,e.length=sz)->xs[i]?=ς e->rsL w F e b (k+i*sz)
 |[],_,_,_,_,_,_,h=>by simp at h
 |_::_,b,k,0,e,h,_,hi=>by
  rw[rsLL] at h
  simp_all
 |e0::es,b,k,i+1,e,h,hs,hi=>by
  rw[rsLL] at h
  have h0:e0.length=sz:=hs e0 (by simp)
  have:=TH (i:=i) h.2 (λx hx=>hs x (by simp[hx])) (by simpa using hi)
  grind
theorem Rm{F:Nat->Prop}{d:D}(h:rsD w F d u):u.oneCell'=ζ/\u.cells= #[u]:=by
 cases d<;>simp only[rsD] at h
 case l xs=>obtain⟨A,c,rfl,_⟩:=h;exact⟨rfl,rfl⟩
 all_goals obtain⟨_,rfl⟩:=h;exact⟨rfl,rfl⟩
def Sep(T:Nat->Prop)(b:Nat)(Q:Nat->Nat->Prop):Prop:=(∀k b',Q k b'->T b'/\b'≠b)/\∀k k' b',Q k b'->Q k' b'->k=k'
def GT(w:World)(b c:Nat)(xs:Lad):Prop:=∃arr ty sz,w.heap[b]?=ς (.cells arr ty (0,0))/\arr.size=c*sz/\c<=maxLen/\∀e∈xs,e.length=sz
theorem GT.keep{c:Nat}{xs:Lad}(h:GT w b c xs)(hb:w'.heap[b]?=w.heap[b]?):GT w' b c xs:=by
 obtain⟨arr,ty,sz,h1,h2⟩:=h
 exact⟨arr,ty,sz,hb.trans h1,h2⟩
mutual
def fw(w:World):(Nat->Prop)->D->Value->Prop
 |_,.i k n,u=>u= .int k n
 |_,.b x,u=>u= .bool x
 |_,.str s,u=>u= .string s
 |T,.l xs,u=>∃A c,u= .slice A xs.length c/\xs.length<=c/\(xs=[]\/∃b Q,A=ς ⟨b,0,ξ⟩/\T b/\Sep T b Q/\trLL w Q xs b 0/\GT w b c xs)
 |_,.k _ _ _,_=>False
def trLL(w:World)(Q:Nat->Nat->Prop):Lad->Nat->Nat->Prop
 |[],_,_=>True
 |e::es,b,k=>trL w Q e b k/\trLL w Q es b (k+e.length)
def trL(w:World)(Q:Nat->Nat->Prop):List D->Nat->Nat->Prop
 |[],_,_=>True
 |d::ds,b,k=>(∃u,w.cell? ⟨b,k,ξ⟩=ς u/\fw w (Q k) d u)/\trL w Q ds b (k+1)
end
theorem Sep.mono{T T':Nat->Prop}{Q:Nat->Nat->Prop}(h:Sep T b Q)(hT:∀b,T b->T' b):Sep T' b Q:=⟨λk b' hk=>⟨hT b' (h.1 k b' hk).1,(h.1 k b' hk).2⟩,h.2⟩
mutual
theorem fw.keep{w w':World}:∀{x:D} {T T':Nat->Prop} {u:Value},fw w T x u->(∀b,T b->w'.heap[b]?=w.heap[b]?)->(∀b,T b->T' b)->fw w' T' x u
 | .i _ _,_,_,_,h,_,_=>by simpa [fw] using h
 | .b _,_,_,_,h,_,_=>by simpa [fw] using h
 | .str _,_,_,_,h,_,_=>by simpa [fw] using h
 | .l xs,T,T',u,h,hw,hT=>by
  rw[fw] at h ⊢
  obtain⟨A,c,hu,hlc,h⟩:=h
  refine⟨A,c,hu,hlc,?_⟩
  rcases h with h|⟨b,Q,hA,hb,hs,h,hr⟩
  .exact .inl h
  exact .inr ⟨b,Q,hA,hT b hb,hs.mono hT,trLL_keep (xs:=xs) (hw b hb) (λk b' hk=>hw b' (hs.1 k b' hk).1) h,hr.keep (hw b hb)⟩
 | .k _ _ _,_,_,_,h,_,_=>by rw[fw] at h;exact h.elim
theorem trLL_keep{w w':World}{Q:Nat->Nat->Prop}:∀{xs:Lad} {b k:Nat},w'.heap[b]?=w.heap[b]?->(∀k b',Q k b'->w'.heap[b']?=w.heap[b']?)->trLL w Q xs b k->trLL w' Q xs b k
 |[],_,_,_,_,_=>by simp[trLL]
 |e::es,b,k,hb,hw,h=>by
  rw[trLL] at h ⊢
  exact⟨trL_keep (xs:=e) hb hw h.1,trLL_keep (xs:=es) hb hw h.2⟩
theorem trL_keep{w w':World}{Q:Nat->Nat->Prop}:∀{xs:List D} {b k:Nat},w'.heap[b]?=w.heap[b]?->(∀k b',Q k b'->w'.heap[b']?=w.heap[b']?)->trL w Q xs b k->trL w' Q xs b k
 |[],_,_,_,_,_=>by simp[trL]
 |d::ds,b,k,hb,hw,h=>by
  rw[trL] at h ⊢
  obtain⟨⟨u,hc,hu⟩,h⟩:=h
  exact⟨⟨u,(Av hb).trans hc,fw.keep (x:=d) hu (hw k) (λ_ h=>h)⟩,trL_keep (xs:=ds) hb hw h⟩
end
mutual
theorem fw.rdF{w:World}{F:Nat->Prop}:∀{x:D} {T:Nat->Prop} {u:Value},fw w T x u->(∀b,T b->F b)->rdD w F x u
 | .i _ _,_,_,h,_=>by rw[fw] at h;rw[rdD];exact h
 | .b _,_,_,h,_=>by rw[fw] at h;rw[rdD];exact h
 | .str _,_,_,h,_=>by rw[fw] at h;rw[rdD];exact h
 | .l xs,T,u,h,hF=>by
  rw[fw] at h;rw[rdD]
  obtain⟨A,c,hu,hlc,h⟩:=h
  refine⟨A,c,hu,hlc,?_⟩
  rcases h with h|⟨b,Q,hA,hb,hs,h,_⟩
  .exact .inl h
  exact .inr ⟨b,0,hA,hF b hb,trLL_rd (xs:=xs) (λk b' hk=>hF b' (hs.1 k b' hk).1) h⟩
 | .k _ _ _,_,_,h,_=>by rw[fw] at h;exact h.elim
theorem trLL_rd{w:World}{F:Nat->Prop}{Q:Nat->Nat->Prop}:∀{xs:Lad} {b k:Nat},(∀k b',Q k b'->F b')->trLL w Q xs b k->rdLL w F xs b k
 |[],_,_,_,_=>by simp[rdLL]
 |e::es,b,k,hF,h=>by
  rw[trLL] at h;rw[rdLL]
  exact⟨trL_rd (xs:=e) hF h.1,trLL_rd (xs:=es) hF h.2⟩
theorem trL_rd{w:World}{F:Nat->Prop}{Q:Nat->Nat->Prop}:∀{xs:List D} {b k:Nat},(∀k b',Q k b'->F b')->trL w Q xs b k->rdL w F xs b k
 |[],_,_,_,_=>by simp[rdL]
 |d::ds,b,k,hF,h=>by
  rw[trL] at h;rw[rdL]
  obtain⟨⟨u,hc,hu⟩,h⟩:=h
  exact⟨⟨u,hc,fw.rdF (x:=d) hu (hF k)⟩,trL_rd (xs:=ds) hF h⟩
end
theorem fw.rd{T:Nat->Prop}(h:fw w T x u):rdD w T x u:=h.rdF λ_ h=>h
def dJ(w:World)(T:Nat->Prop)(els:Lad)(b:Nat):Prop:=∃Q,Sep T b Q/\trLL w Q els b 0
theorem dJ.keep{T T':Nat->Prop}(h:dJ w T els b)(hb:w'.heap[b]?=w.heap[b]?)(hw:∀b,T b->w'.heap[b]?=w.heap[b]?)(hT:∀b,T b->T' b):dJ w' T' els b:=by
 obtain⟨Q,h1,h2⟩:=h
 exact⟨Q,h1.mono hT,trLL_keep hb (λk b' hk=>hw b' (h1.1 k b' hk).1) h2⟩
theorem dJ.tree{T:Nat->Prop}{c:Nat}(h:dJ w T els b)(hc:els.length<=c)(hx:GT w b c els):fw w (λk=>T k\/k=b) (.l els) (.slice (ς ⟨b,0,ξ⟩) els.length c):=by
 obtain⟨Q,h1,h2⟩:=h
 rw[fw]
 exact⟨_,_,rfl,hc,.inr ⟨b,Q,rfl,.inr rfl,h1.mono λ_ h=>.inl h,h2,hx⟩⟩
theorem DU{w:World}{Q:Nat->Nat->Prop}:∀{e:List D} {b k:Nat},trL w Q e b k↔∀j d,e[j]?=ς d->∃u,w.cell? ⟨b,k+j,ξ⟩=ς u/\fw w (Q (k+j)) d u
 |[],b,k=>by simp[trL]
 |d::ds,b,k=>by
  rw[trL,DU]
  constructor
  .rintro⟨h1,h2⟩ j x hj
   cases j with
   |zero=>simp at hj;subst hj;exact h1
   |succ j=>have:=h2 j x (by simpa using hj);rwa [show k+1+j=k+(j+1) by omega] at this
  intro h
  refine⟨h 0 d rfl,λj x hj=>?_⟩
  have:=h (j+1) x (by simpa using hj)
  rwa [show k+(j+1)=k+1+j by omega] at this
theorem PL{w:World}{Q:Nat->Nat->Prop}:∀{xs:Lad} {b k:Nat},trLL w Q xs b k↔trL w Q xs.flatten b k
 |[],b,k=>by simp[trLL,trL]
 |e::es,b,k=>by
  rw[trLL,PL,adr,DU,DU,DU]
  constructor
  .rintro⟨h1,h2⟩ j x hj
   by_cases h:j<e.length
   .rw[aa8 h] at hj;exact h1 j x hj
   rw[aa3 oaa] at hj
   have:=h2 _ x hj
   rwa [show k+e.length+(j-e.length)=k+j by omega] at this
  intro h
  refine⟨λj x hj=>h j x ?_,λj x hj=>?_⟩
  .rw[aa8 (f5.1 hj).1];exact hj
  have:=h (e.length+j) x (by rw[aa3 oaa];simpa using hj)
  rwa [<-Nat.add_assoc] at this
theorem dJ.iff{T:Nat->Prop} :dJ w T els b↔∃Q,Sep T b Q/\∀j d,els.flatten[j]?=ς d->∃u,w.cell? ⟨b,j,ξ⟩=ς u/\fw w (Q j) d u:=by
 unfold dJ
 simp only[PL,DU,aa5]
inductive Gr where
 |b (x:Bool)
 |s (n:Nat)
 |t (n:Nat)
variable{g g':Go.AM.Gr}
def Gr.sub:Gr->Gr
 | .t n=>.s n
 |g=>g
instance:Coe Bool Gr:=⟨Gr.b⟩
inductive C where
 |d (g:Gr) (x:D)
 |w (o n:Nat)
 |s (o sz off len:Nat)
 |p (o k:Nat)
 |e (o sz i j:Nat)
 |q (g:Gr) (x:List D) (j:Nat)
 |fn (f:FuncId)
 |nil
 |any
 |r (l:Nat) (x:D)
 |z (x:D)
 |zq (x:List D) (j:Nat)
 |wn (o n:Nat)
variable{cs:List Go.AM.C}
inductive V where
 |c (x:C)
 |agg (cs:List C)
variable{v:Go.AM.V}{vs:List Go.AM.V}
inductive T where
 |v (x:V)
 |tup (ts:List V)
 |any
variable{out:Go.AM.T}
abbrev Lab:=List (Nat×T)
variable{sl sl':Go.AM.Lab}
structure Hid where
 nl:Prop
 S:Nat->Nat->(Nat->Prop)->World->Prop
 st:∀(b c:Nat) (R R':Nat->Prop) (w w':World),S b c R w->(∀k,R k->R' k)->w'.heap[b]?=w.heap[b]?->(∀k,R k->w'.heap[k]?=w.heap[k]?)->S b c R' w'
inductive Ob where
 |var (ty:TypeId) (cs:List C)
 |row (ty:TypeId) (sz:Nat) (els:Lad) (g:Gr) (m:Bool)
 |rown (ty:TypeId) (sz:Nat) (els:Lad) (g:Gr)
 |abs (l:Nat) (h:Hid)
abbrev Laa:=List (Nat×Ob)
variable{nob ob':Go.AM.Laa}
abbrev tI(n:Int):T:=.v (.c (.d η (.i .i64 n)))
abbrev tB(b:Bool):T:=.v (.c (.d η (.b b)))
abbrev tS(s:ByteArray):T:=.v (.c (.d η (.str s)))
abbrev cI(n:Int):C:=.d η (.i .i64 n)
abbrev cB(b:Bool):C:=.d η (.b b)
structure Env where
 r:Nat->Option (Nat×Nat)
 F:Nat->Prop
 G:Nat->Prop
 T:Nat->Nat->Prop:=λ_ _=>False
 Z:Nat->Prop:=λ_=>False
 n:Nat->Prop:=λ_=>False
variable{E E':Go.AM.Env}
def Env.H(E:Env):Gr->Nat->Prop
 | .b g=>if g then E.G else E.F
 | .s n| .t n=>E.T n
def uf(E:Env)(w:World)(els:Lad)(b:Nat):Gr->Prop
 | .b _=>True
 | .s n| .t n=>dJ w (E.T n) els b
theorem Pq(hT:E'.T=E.T):∀{g:Gr},uf E w els b g->uf E' w els b g
 | .b _,_=>trivial
 | .s n,h| .t n,h=>h.keep rfl (λ_ _=>rfl) λk hk=>by rw[hT];exact hk
def gD(E:Env)(w:World):Gr->D->Value->Prop
 | .t l,x,u=>fw w (E.T l) x u
 | .b g,x,u=>rdD w (E.H (.b g)) x u
 | .s l,x,u=>rdD w (E.T l) x u
theorem mw:∀{g:Gr} {x:D} {u:Value},gD E w g x u->rdD w (E.H g) x u
 | .t l,x,u,h=>h.rd
 | .b g,x,u,h=>h
 | .s l,x,u,h=>h
theorem gD_sub:∀{g:Gr} {x:D} {u:Value},rdD w (E.H g) x u->gD E w g.sub x u
 | .t l,x,u,h=>h
 | .b g,x,u,h=>h
 | .s l,x,u,h=>h
def cvC(E:Env)(w:World):C->Value->Prop
 | .d g x,u=>gD E w g x u
 | .w o n,u=>∃b c,E.r o=ς (b,c)/\u= .slice (ς ⟨b,0,ξ⟩) n c
 | .s o sz off len,u=>∃A c b k,E.r o=ς (b,k)/\u= .slice A len c/\len<=c/\off+c<=k/\(c=0\/A=ς ⟨b,off*sz,ξ⟩)
 | .p o k,u=>∃b c,E.r o=ς (b,c)/\u= .pointer (ς ⟨b,k,ξ⟩)
 | .e o sz i j,u=>∃b c,E.r o=ς (b,c)/\u= .pointer (ς ⟨b,i*sz+j,ξ⟩)
 | .q g x j,u=>∃b k,u= .pointer (ς ⟨b,k+j,ξ⟩)/\E.H g b/\rdL w (E.H g) x b k
 | .fn f,u=>u= .func (.func f) #[] #[]
 | .nil,u=>u= .slice ξ 0 0
 | .any,_=>True
 | .r l x,u=>rdD w (E.T l) x u
 | .z x,u=>rsD w E.Z x u
 | .zq x j,u=>∃b k,u= .pointer (ς ⟨b,k+j,ξ⟩)/\E.Z b/\rsL w E.Z x b k
 | .wn o n,u=>(E.n o/\n=0/\u= .slice ξ 0 0)\/(¬E.n o/\∃b c,E.r o=ς (b,c)/\u= .slice (ς ⟨b,0,ξ⟩) n c)
theorem tk(h:cvC E w (.d g x) u):rdD w (E.H g) x u:=mw h
def CV(E:Env)(w:World):List C->Lae->Prop
 |[],[]=>True
 |c::cs,u::us=>cvC E w c u/\CV E w cs us
 |_,_=>False
def cvV(E:Env)(w:World):V->Value->Prop
 | .c x,u=>cvC E w x u
 | .agg cs,u=>∃arr,u= .agg arr/\CV E w cs arr.toList
def VV(E:Env)(w:World):List V->Lae->Prop
 |[],[]=>True
 |c::cs,u::us=>cvV E w c u/\VV E w cs us
 |_,_=>False
def cvT(E:Env)(w:World):T->Value->Prop
 | .v x,u=>cvV E w x u
 | .tup ts,u=>∃arr,u= .tuple arr/\VV E w ts arr.toList
 | .any,_=>True
theorem vA(h:cvT E w (.v (.c (.d g x))) u):rdD w (E.H g) x u:=mw h
def cN(E:Env)(w:World)(o:Nat):Ob->Prop
 | .var ty cs=>∃b c arr,E.r o=ς (b,c)/\w.heap[b]?=ς (.cells arr ty (0,0))/\CV E w cs arr.toList/\¬E.F b
 | .row ty sz els g m=>∃b c arr,E.r o=ς (b,c)/\w.heap[b]?=ς (.cells arr ty (0,0))/\arr.size=c*sz/\els.length<=c/\c<=maxLen/\
  (∀e∈els,e.length=sz)/\rdLL w (E.H g) els b 0/\(m=ζ->¬E.F b)/\(m=η->E.F b/\(g=ζ->E.G b))/\uf E w els b g
 | .rown ty sz els g=>(E.n o/\els=[])\/(¬E.n o/\∃b c arr,E.r o=ς (b,c)/\w.heap[b]?=ς (.cells arr ty (0,0))/\arr.size=c*sz/\els.length<=c/\c<=maxLen/\
  (∀e∈els,e.length=sz)/\rdLL w (E.H g) els b 0/\¬E.F b/\uf E w els b g)
 | .abs l h=>(E.n o/\h.nl)\/(¬E.n o/\∃b c,E.r o=ς (b,c)/\h.S b c (E.T l) w/\¬E.F b)
structure Cx where
 w0:World
 W:Nat->Prop
 r0:Nat->Option (Nat×Nat):=λ_=>ξ
 F0:Nat->Prop:=λ_=>True
 Z:Nat->Prop:=λ_=>False
 gw:TabsIn w0/\∀b∈qD,¬W b
 G0:Nat->Prop:=λ_=>False
variable{cx:Go.AM.Cx}
def rsv(o:Nat):Bool:=abD 190 o&&nlt o 210
def rsp(o:Nat):Bool:=abD 200 o&&nlt o 210
theorem GF{o:Nat}(h:rsp o=ζ):rsv o=true:=by
 simp only[rsp,rsv,nlt,f4,Nat.ble_eq] at h ⊢
 omega
theorem xT{o:Nat}(h:rsv o=η):rsp o=false:=by
 cases k:rsp o with
 |false=>rfl
 |true=>rw[GF k] at h;cases h
def fR(w:World)(b:Nat):Prop:=∃arr ty fz,w.heap[b]?=ς (.cells arr ty fz)/\(fz=(0,0)\/arr.size<=fz.1)
theorem fR.mk{arr:Array Value}{ty:TypeId}(h:w.heap[b]?=ς (.cells arr ty (0,0))):fR w b:=⟨arr,ty,_,h,.inl rfl⟩
def Cx.In(cx:Cx)(b:Nat):Prop:=cx.w0.heap.size<=b\/(cx.W b/\cx.G0 b/\cx.F0 b/\¬cx.Z b)
structure Ba(cx:Cx)(E:Env)(w:World):Prop where
 tb:∀l b,E.T l b->(b<w.heap.size/\cx.In b)/\¬E.F b/\(∀o c,E.r o≠ς (b,c))/\fR w b
 tt:∀l l' b,E.T l b->E.T l' b->l=l'
 zc:∀b,cx.Z b->(b<cx.w0.heap.size/\b<w.heap.size/\cx.W b)/\¬E.F b/\(∀o c,E.r o≠ς (b,c))/\fR w b
 zs:∀b,cx.Z b->vX cx.w0 w b
 ze:∀b,E.Z b->cx.Z b
theorem Ba.zb(s:Ba cx E w)(b:Nat)(h:E.Z b):(b<cx.w0.heap.size/\b<w.heap.size/\cx.W b)/\¬E.F b/\(∀o c,E.r o≠ς (b,c))/\fR w b:=s.zc b (s.ze b h)
theorem Cx.In.ng(h:cx.In b):cx.w0.heap.size<=b\/cx.G0 b:=h.imp id λh=>h.2.1
theorem Cx.In.nf(h:cx.In b):cx.F0 b\/cx.w0.heap.size<=b:=h.elim .inr λh=>.inl h.2.2.1
theorem Cx.In.nw(h:cx.In b):cx.w0.heap.size<=b\/cx.W b:=h.imp id λh=>h.1
theorem Ba.tz(s:Ba cx E w)(h:E.T l b):¬cx.Z b:=λhz=>(s.tb l b h).1.2.elim (λk=>by have:=(s.zc b hz).1.1;omega) (λk=>k.2.2.2 hz)
structure dr(cx:Cx)(E:Env)(w:World):Prop where
 fb:∀b,E.F b->b<w.heap.size
 gf:∀b,E.G b->E.F b
 gn:∀b,E.G b->cx.w0.heap.size<=b\/cx.G0 b
 rb:∀o b c,E.r o=ς (b,c)->b<w.heap.size/\(cx.In b\/(cx.W b/\rsv o=ζ))
 inj:∀o o' b c c',E.r o=ς (b,c)->E.r o'=ς (b,c')->o=o'
 os:w.os=cx.w0.os
 tape:w.tape=cx.w0.tape
 output:w.output=cx.w0.output
 size:cx.w0.heap.size<=w.heap.size
 block:∀b,b<cx.w0.heap.size->¬cx.W b->w.heap[b]?=cx.w0.heap[b]?
 pin:∀o x,rsp o=ζ->E.r o=ς x->cx.r0 o=ς x
 ff:∀b,E.F b->cx.F0 b\/cx.w0.heap.size<=b
 gc:∀b,E.F b->cx.In b->fR w b
 sf:Ba cx E w
theorem SB{o:Obj}(h:w.heap[b]?=ς o):b<w.heap.size:=by
 grind
theorem dr.tabs(ok:dr cx E w):TabsIn w:=
 ZJ cx.w0 w (λb hb=>ok.block b (MO _ cx.gw.1 b hb) (cx.gw.2 b hb)) cx.gw.1
theorem dr.nt(ok:dr cx E w)(hk:k∈qD)(h:E.T l k):False:=by
 have:=MO _ cx.gw.1 k hk
 rcases(ok.sf.tb l k h).1.2.nw with m|m
 .omega
 exact cx.gw.2 _ hk m
theorem dr.rw(ok:dr cx E w){o c:Nat}(h:E.r o=ς (b,c)):cx.w0.heap.size<=b\/cx.W b:=(ok.rb o b c h).2.elim Cx.In.nw λh=>.inr h.1
theorem dr.ntab(ok:dr cx E w){o c:Nat}(h:E.r o=ς (b,c)):∀k∈qD,k≠b:=λk hk e=>by
 have:=MO _ cx.gw.1 k hk
 subst e
 rcases ok.rw h with m|m
 .omega
 exact cx.gw.2 _ hk m
structure Ext(E:Env)(w:World)(E':Env)(w':World):Prop where
 r:∀o x,E.r o=ς x->E'.r o=ς x
 F:∀b,E.F b->E'.F b
 G:∀b,E.G b->E'.G b
 F':∀b,E'.F b->E.F b\/w.heap.size<=b
 heap:∀b,b<w.heap.size->w'.heap[b]?=w.heap[b]?
 T:∀l b,E.T l b->E'.T l b
 T':∀l b,E'.T l b->E.T l b\/(E.r l=ξ/\∃x,E'.r l=ς x)
 Z:E'.Z=E.Z
 n:E'.n=E.n
theorem Ext.refl(E:Env)(w:World):Ext E w E w:=⟨λ_ _ h=>h,λ_ h=>h,λ_ h=>h,λ_ h=>.inl h,λ_ _=>rfl,λ_ _ h=>h,λ_ _ h=>.inl h,rfl,rfl⟩
theorem fR.of_eq(h:w'.heap[b]?=w.heap[b]?)(p:fR w b):fR w' b:=by
 obtain⟨arr,ty,fz,hp,hf⟩:=p
 exact⟨arr,ty,fz,h.trans hp,hf⟩
theorem Ba.grow(s:Ba cx E w)(hT:E'.T=E.T)(hZ:E'.Z=E.Z)(hF:∀b,E'.F b->E.F b\/w.heap.size<=b)(hr:∀o b c,E'.r o=ς (b,c)->(∃o' c',E.r o'=ς (b,c'))\/w.heap.size<=b)(hs:w.heap.size<=w'.heap.size)(hh:∀b,b<w.heap.size->w'.heap[b]?=w.heap[b]?):Ba cx E' w':=by
 refine⟨λl b h=>?_,λl l' b h h'=>?_,λb h=>?_,λb h=>?_,λb h=>s.ze b (hZ▸h)⟩
 .rw[hT] at h
  obtain⟨⟨h1,h2⟩,h3,h4,h5⟩:=s.tb l b h
  refine⟨⟨by omega,h2⟩,λhf=>?_,λo c ho=>?_,h5.of_eq (hh b h1)⟩
  .grind
  grind
 .rw[hT] at h h';exact s.tt l l' b h h'
 .obtain⟨⟨h1,h2,h2'⟩,h3,h4,h5⟩:=s.zc b h
  refine⟨⟨h1,by omega,h2'⟩,λhf=>?_,λo c ho=>?_,h5.of_eq (hh b h2)⟩
  .grind
  grind
 exact(s.zs b h).trans (.of_eq (hh b (s.zc b h).1.2.1))
theorem dr.hb(ok:dr cx E w):∀{g:Gr} {b:Nat},E.H g b->b<w.heap.size
 | .b η,b,h=>ok.fb b h
 | .b ζ,b,h=>ok.fb b (ok.gf b h)
 | .s n,b,h| .t n,b,h=>(ok.sf.tb n b h).1.1
theorem Ext.H(x:Ext E w E' w'):∀{g:Gr} {b:Nat},E.H g b->E'.H g b
 | .b η,b,h=>x.F b h
 | .b ζ,b,h=>x.G b h
 | .s n,b,h| .t n,b,h=>x.T n b h
structure iG(E:Env)(w:World)(E':Env)(w':World):Prop where
 r:∀o x,E.r o=ς x->E'.r o=ς x
 H:∀(g:Bool) b,E.H g b->E'.H g b
 heap:∀(g:Bool) b,E.H g b->w'.heap[b]?=w.heap[b]?
 T:∀l b,E.T l b->E'.T l b/\w'.heap[b]?=w.heap[b]?
 Z:∀b,E.Z b->E'.Z b/\vX w w' b
 n:E'.n=E.n
theorem iG.HH(x:iG E w E' w'):∀(g:Gr) b,E.H g b->E'.H g b
 | .b g,b,h=>x.H g b h
 | .s n,b,h| .t n,b,h=>(x.T n b h).1
theorem iG.hp(x:iG E w E' w'):∀(g:Gr) b,E.H g b->w'.heap[b]?=w.heap[b]?
 | .b g,b,h=>x.heap g b h
 | .s n,b,h| .t n,b,h=>(x.T n b h).2
theorem K2(x:iG E w E' w')(hb:w'.heap[b]?=w.heap[b]?):∀{g:Gr},uf E w els b g->uf E' w' els b g
 | .b _,_=>trivial
 | .s n,h| .t n,h=>h.keep hb (λk hk=>(x.T n k hk).2) λk hk=>(x.T n k hk).1
theorem iG.of_ext(ok:dr cx E w)(x:Ext E w E' w'):iG E w E' w':=
 ⟨x.r,λ_ _ h=>x.H h,λ_ b h=>x.heap b (ok.hb h),λl b h=>⟨x.T l b h,x.heap b (ok.sf.tb l b h).1.1⟩,λb h=>⟨by rw[x.Z];exact h,.of_eq (x.heap b (ok.sf.zb b h).1.2.1)⟩,x.n⟩
theorem XN(x:iG E w E' w'):∀{g:Gr} {d:D} {u:Value},gD E w g d u->gD E' w' g d u
 | .b g,d,u,h=>bQ (x.hp (.b g)) (x.HH (.b g)) d u h
 | .s g,d,u,h=>bQ (x.hp (.s g)) (x.HH (.s g)) d u h
 | .t l,y,u,h=>h.keep (λb hb=>(x.T l b hb).2) λb hb=>(x.T l b hb).1
theorem wb(x:iG E w E' w'):∀{c:C} {u:Value},cvC E w c u->cvC E' w' c u
 | .d g d,u,h=>XN x h
 | .w o n,u,⟨b,c,h,hu⟩=>⟨b,c,x.r _ _ h,hu⟩
 | .s o sz off len,u,⟨A,c,b,k,h,hu⟩=>⟨A,c,b,k,x.r _ _ h,hu⟩
 | .p o k,u,⟨b,c,h,hu⟩=>⟨b,c,x.r _ _ h,hu⟩
 | .e o sz i j,u,⟨b,c,h,hu⟩=>⟨b,c,x.r _ _ h,hu⟩
 | .q g y j,u,⟨b,k,hu,hb,h⟩=>⟨b,k,hu,x.HH g b hb,rdL_mono (x.hp g) (x.HH g) y b k hb h⟩
 | .fn f,u,h=>h
 | .nil,u,h=>h
 | .any,u,_=>trivial
 | .r l d,u,h=>bQ (λb hb=>(x.T l b hb).2) (λb hb=>(x.T l b hb).1) d u h
 | .z d,u,h=>ug (λb hb=>(x.Z b hb).2) (λb hb=>(x.Z b hb).1) d u h
 | .zq y j,u,⟨b,k,hu,hb,h⟩=>⟨b,k,hu,(x.Z b hb).1,rsL_mono (λb hb=>(x.Z b hb).2) (λb hb=>(x.Z b hb).1) y b k hb h⟩
 | .wn o n,u,.inl ⟨h1,h2⟩=>.inl ⟨by rw[x.n];exact h1,h2⟩
 | .wn o n,u,.inr ⟨h1,b,c,h,hu⟩=>.inr ⟨by rw[x.n];exact h1,b,c,x.r _ _ h,hu⟩
theorem s9{E E':Env}{w w':World}(x:iG E w E' w'):∀{cs:List C} {us:Lae},CV E w cs us->CV E' w' cs us
 |[],[],_=>trivial
 |_::_,_::_,h=>⟨wb x h.1,s9 x h.2⟩
 |[],_::_,h=>h.elim
 |_::_,[],h=>h.elim
theorem Kj(x:iG E w E' w')(h:cvV E w v u):cvV E' w' v u:=by
 cases v with
 |c c=>exact wb x h
 |agg cs=>obtain⟨arr,hu,h⟩:=h;exact⟨arr,hu,s9 x h⟩
theorem Nh{E E':Env}{w w':World}(x:iG E w E' w'):∀{cs:List V} {us:Lae},VV E w cs us->VV E' w' cs us
 |[],[],_=>trivial
 |_::_,_::_,h=>⟨Kj x h.1,Nh x h.2⟩
 |[],_::_,h=>h.elim
 |_::_,[],h=>h.elim
theorem jx(x:iG E w E' w'){t:T}(h:cvT E w t u):cvT E' w' t u:=by
 cases t with
 |v v=>exact Kj x h
 |tup ts=>obtain⟨arr,hu,h⟩:=h;exact⟨arr,hu,Nh x h⟩
 |any=>trivial
theorem fG(x:iG E w E' w'){o:Nat}{ob:Ob}(hb:∀b c,E.r o=ς (b,c)->w'.heap[b]?=w.heap[b]?)(hF:∀b c,E.r o=ς (b,c)->¬E.F b->¬E'.F b)(h:cN E w o ob):cN E' w' o ob:=by
 cases ob with
 |var ty cs=>
  obtain⟨b,c,arr,hr,hh,hc,hf⟩:=h
  exact⟨b,c,arr,x.r _ _ hr,(hb b c hr).trans hh,s9 x hc,hF b c hr hf⟩
 |row ty sz els g m=>
  obtain⟨b,c,arr,hr,hh,h1,h2,h3,h4,h5,h6,h7,h8⟩:=h
  exact⟨b,c,arr,x.r _ _ hr,(hb b c hr).trans hh,h1,h2,h3,h4,bP (x.hp g) (x.HH g) (hb b c hr) _ _ h5,λhm=>hF b c hr (h6 hm),λhm=>⟨x.H η b (h7 hm).1,λhg=>x.H ζ b ((h7 hm).2 hg)⟩,K2 x (hb b c hr) h8⟩
 |rown ty sz els g=>
  rcases h with⟨h0,h1⟩|⟨h0,b,c,arr,hr,hh,h1,h2,h3,h4,h5,h6,h7⟩
  .exact .inl ⟨by rw[x.n];exact h0,h1⟩
  exact .inr ⟨by rw[x.n];exact h0,b,c,arr,x.r _ _ hr,(hb b c hr).trans hh,h1,h2,h3,h4,bP (x.hp g) (x.HH g) (hb b c hr) _ _ h5,hF b c hr h6,K2 x (hb b c hr) h7⟩
 |abs l y=>
  rcases h with⟨h0,h1⟩|⟨h0,b,c,hr,h1,h2⟩
  .exact .inl ⟨by rw[x.n];exact h0,h1⟩
  exact .inr ⟨by rw[x.n];exact h0,b,c,x.r _ _ hr,y.st b c _ _ w w' h1 (λk hk=>(x.T l k hk).1) (hb b c hr) (λk hk=>(x.T l k hk).2),hF b c hr h2⟩
theorem EN(ok:dr cx E w)(x:Ext E w E' w'){o:Nat}{ob:Ob}(h:cN E w o ob):cN E' w' o ob:=
 fG (.of_ext ok x) (λb c hr=>x.heap b (ok.rb _ _ _ hr).1) (λb c hr hf hf'=>by
  have:=(ok.rb _ _ _ hr).1
  rcases x.F' b hf' with h|h
  .exact hf h
  omega) h
def gt:Lab->Nat->T
 |[],_=>.any
 |(k,v)::r,n=>bif fW k n then v else gt r n
def go:Laa->Nat->Option Ob
 |[],_=>ξ
 |(k,v)::r,n=>bif fW k n then ς v else go r n
theorem gQ(h:k≠n):fW k n=false:=by
 rcases hb:fW k n with _|_
 .rfl
 simp_all
theorem da(k:Nat)(v:T)(r:Lab):gt ((k,v)::r) k=v:=by simp[gt]
theorem ck(v:T)(r:Lab)(h:k≠n):gt ((k,v)::r) n=gt r n:=by simp[gt,gQ h]
theorem bX(k:Nat)(v:Ob)(r:Laa):go ((k,v)::r) k=ς v:=by simp[go]
theorem bg(v:Ob)(r:Laa)(h:k≠n):go ((k,v)::r) n=go r n:=by simp[go,gQ h]
structure St where
 sl:Lab
 ob:Laa
 nx:Nat
variable{st s:Go.AM.St}
structure Rel(N:Nat)(cx:Cx)(E:Env)(st:St)(a:Act)(w:World):Prop where
 ok:dr cx E w
 dom:∀o x,E.r o=ς x->o<st.nx
 obs:∀o ob,go st.ob o=ς ob->cN E w o ob
 sl:∀k,cvT E w (gt st.sl k) (a.tmps.getD k undef)
 dfr:a.defers=[]
 size:a.tmps.size=N
 td:∀l b,E.T l b->l<st.nx
def BD:Value->C
 | .int k n=>.d η (.i k n)
 | .bool b=>.d η (.b b)
 | .string s=>.d η (.str s)
 | .slice a n c=>bif a.isNone&&fW n 0&&fW c 0 then .nil else .any
 |_=>.any
theorem Aw(E:Env)(w:World)(u:Value):cvC E w (BD u) u:=by
 cases u with
 |slice a n c=>
  simp only[BD]
  cases h:a.isNone&&fW n 0&&fW c 0 with
  |false=>exact θ
  |true=>
   simp only[f4,Option.isNone_iff_eq_none] at h
   obtain⟨⟨rfl,h1⟩,h2⟩:=h
   have e1:=aat h1
   have e2:=aat h2
   subst e1;subst e2
   exact rfl
 |_=>simp only[BD,cvC,gD,rdD]
def opT(sl:Lab):Operand->T
 | .tmp k=>gt sl k
 | .const (.int k n)=>.v (.c (.d η (.i k n)))
 | .const (.bool b)=>.v (.c (.d η (.b b)))
 | .const (.string s)=>.v (.c (.d η (.str s)))
 | .const (.agg cs)=>.v (.agg (cs.toList.map BD))
 | .const v=>.v (.c (BD v))
 | .func f=>.v (.c (.fn f))
 | .global _=>.any
theorem vV(E:Env)(w:World):∀us:Lae,CV E w (us.map BD) us
 |[]=>trivial
 |u::us=>⟨Aw E w u,vV E w us⟩
theorem Rel.op(h:Rel N cx E st a w)(x:Operand):cvT E w (opT st.sl x) (a.eval x):=by
 cases x with
 |tmp k=>exact h.sl k
 |const v=>
  cases v<;>simp only[opT,Act.eval,cvT,cvV]<;>first|exact Aw E w _|exact⟨_,rfl,vV E w _⟩|(simp only[cvC,gD,rdD])
 |func f=>rfl
 |global g=>simp[opT,cvT]
def AWN(P:Program)(o:Oper)(needs:List (Operand×T))(nob:Laa)(out:T)(nw:Laa):Prop:=
 ∀(cx:Cx) (E:Env) (a:Act) (w:World),dr cx E w->(∀x t,(x,t)∈needs->cvT E w t (a.eval x))->(∀l ob,(l,ob)∈nob->cN E w l ob)->
  (∀l ob,(l,ob)∈nw->E.r l=ξ/\rsv l=η)->
  o.wp P a w (λa' w'=>∃v E',a'=a.put o.dst v/\dr cx E' w'/\Ext E w E' w'/\cvT E' w' out v/\(∀l ob,(l,ob)∈nw->cN E' w' l ob)/\
   (∀l x,E'.r l=ς x->E.r l=ς x\/∃ob,(l,ob)∈nw)) (λ_ _ _=>False)
theorem cA{o:Oper}{needs:List (Operand×T)}(h:∀(E:Env) (a:Act) (w:World),(∀x t,(x,t)∈needs->cvT E w t (a.eval x))->(∀l ob,(l,ob)∈nob->cN E w l ob)->
 ∃v,(execOp a.eval o).run P w= .ok (.value v) w/\cvT E w out v):AWN P o needs nob out []:=by
 intro cx E a w ok hn hb _
 obtain⟨v,hr,hv⟩:=h E a w hn hb
 unfold Oper.wp
 rw[hr]
 exact⟨v,E,rfl,ok,Ext.refl E w,hv,(λ_ _ h=>by simp at h),λ_ _ h=>.inl h⟩
def AWO(P:Program)(N:Nat)(o:Oper)(st st':St):Prop:=
 ∀(cx:Cx) (E:Env) (a:Act) (w:World),Rel N cx E st a w->o.wp P a w (λa' w'=>∃E',Rel N cx E' st' a' w') (λ_ _ _=>False)
def Lk(sl:Lab):List (Operand×T)->Prop
 |[]=>True
 |(x,t)::r=>opT sl x=t/\Lk sl r
def Lo(ob:Laa):Laa->Prop
 |[]=>True
 |(l,x)::r=>go ob l=ς x/\Lo ob r
def Nw(nx:Nat):Laa->Nat->Prop
 |[],n=>n=nx
 |(l,_)::r,n=>(l=nx/\rsv l=η)/\Nw (nx+1) r n
theorem Lk.mem:∀{l:List (Operand×T)},Lk sl l->∀x t,(x,t)∈l->opT sl x=t
 |(y,s)::r,h,x,t,hm=>by
  rcases aa2.1 hm with e|e
  .cases e;exact h.1
  exact Lk.mem h.2 x t e
theorem Lo.mem{ob:Laa}:∀{l:Laa},Lo ob l->∀x t,(x,t)∈l->go ob x=ς t
 |(y,s)::r,h,x,t,hm=>by
  rcases aa2.1 hm with e|e
  .cases e;exact h.1
  exact Lo.mem h.2 x t e
theorem Nw.mem:∀{l:Laa} {nx n:Nat},Nw nx l n->nx<=n/\∀x t,(x,t)∈l->nx<=x/\x<n/\rsv x=η
 |[],nx,n,h=>⟨by rw[Nw] at h;omega,λ_ _ h=>by simp at h⟩
 |(y,s)::r,nx,n,h=>by
  rw[Nw] at h
  obtain⟨h1,h2⟩:=Nw.mem h.2
  grind
theorem Ei{nw ob:Laa}{o:Nat}{x:Ob}(h:go (nw++ob) o=ς x):(o,x)∈nw\/go ob o=ς x:=by
 induction nw with
 |nil=>exact .inr h
 |cons p r ih=>
  obtain⟨k,v⟩:=p
  by_cases hk:k=o
  .subst hk
   rw[ade,bX] at h
   simp_all
  rw[ade,bg v _ hk] at h
  grind
theorem ef{d:Tmp}{v:Value}(h:d<a.tmps.size)(k:Nat):(a.put (ς d) v).tmps.getD k undef=if d=k then v else a.tmps.getD k undef:=by
 by_cases hk:d=k
 .subst hk;simp[Act.put,h]
 simp[Act.put,hk,Array.getElem?_setIfInBounds_ne hk]
theorem Qh{o:Oper}{needs:List (Operand×T)}{nw:Laa}{d:Tmp}(h:AWN P o needs nob out nw)(hd:o.dst=ς d)(hN:d<N)(hn:Lk st.sl needs)(hb:Lo st.ob nob)(hw:Nw st.nx nw n):
 AWO P N o st ⟨(d,out)::st.sl,nw++st.ob,n⟩:=by
 intro cx E a w hR
 obtain⟨hx1,hx2⟩:=Nw.mem hw
 refine Oper.wp_mono ?_ (h cx E a w hR.ok (λx t hm=>by have:=hR.op x;rwa [Lk.mem hn x t hm] at this) (λl ob hm=>hR.obs l ob (Lo.mem hb l ob hm))
  (λl ob hm=>by
   refine⟨?_,(hx2 l ob hm).2.2⟩
   rcases hr:E.r l with _|x
   .rfl
   have:=hR.dom l x hr;grind))
 rintro a' w' ⟨v,E',rfl,ok',ext,hv,hob,hdom⟩
 refine⟨E',ok',λl x hl=>?_,λl ob hl=>?_,λk=>?_,?_,?_,?_⟩
 .rcases hdom l x hl with h|⟨ob,h⟩
  .have:=hR.dom l x h;grind
  grind
 .rcases Ei hl with h|h
  .simp_all
  exact EN hR.ok ext (hR.obs l ob h)
 .rw[hd,ef (by rw[hR.size];exact hN)]
  by_cases hk:d=k
  .subst hk;rw[da,if_pos rfl];exact hv
  rw[ck _ _ hk,if_neg hk];exact jx (.of_ext hR.ok ext) (hR.sl k)
 .rw[hd];exact hR.dfr
 .rw[hd];simpa [Act.put] using hR.size
 intro l b h
 rcases ext.T' l b h with h|⟨h0,x,h⟩
 .exact aci (hR.td l b h) hx1
 rcases hdom l x h with h|⟨ob,h⟩
 .rw[h0] at h;cases h
 exact(hx2 l ob h).2.1
theorem ux{o:Oper}{K:Act->World->Prop}{Q Q':Exit->Act->World->Prop}(hQ:∀e a w,Q e a w->Q' e a w)(hh:o.wp P a w K Q):o.wp P a w K Q':=by
 unfold Oper.wp at*
 generalize (execOp a.eval o).run P w=r at*
 cases r with
 |ok n w'=>
  cases n<;>simp only[Oper.upon] at hh ⊢<;>
   first
    |exact hh
    |exact Calls.mono hh (λe w'' he=>by
     cases e<;>first|exact he|exact hQ _ _ _ he|(obtain⟨a0,w0,h0⟩:=he;exact⟨a0,w0,hQ _ _ _ h0⟩))
 |halt x w'=>cases x<;>simp only[Oper.upon] at hh ⊢<;>first|exact hh|exact hQ _ _ _ hh
def H4(N:Nat)(cx:Cx)(AQ:Exit->St->Prop):Exit->Act->World->Prop:=λe a w=>∃E st,Rel N cx E st a w/\AQ e st
def onN(K:St->Prop):Exit->St->Prop
 | .normal,s=>K s
 |_,_=>False
def vw(K:St->Prop)(AQ:Exit->St->Prop):Exit->St->Prop
 | .normal,s=>K s
 |e,s=>AQ e s
def AWR(P:Program)(N:Nat)(ops:Array Oper)(l:List Oper)(st:St)(K:St->Prop):Prop:=
 ∀(cx:Cx) (E:Env) (a:Act) (w:World),Rel N cx E st a w->wpList P ops (H4 N cx (onN K)) l a w
def AWC(P:Program)(N:Nat)(c:Code)(st:St)(AQ:Exit->St->Prop):Prop:=
 ∀(cx:Cx) (E:Env) (a:Act) (w:World),Rel N cx E st a w->c.wp P (H4 N cx AQ) a w
section
variable{P:Program}{N:Nat}{ops:Array Oper}{l:List Oper}{o:Oper}{st st':St}{K:St->Prop}{AQ:Exit->St->Prop}
theorem Sa(h:K st):AWR P N ops [] st K:=λcx E a w hR=>wpList_nil ⟨E,st,hR,h⟩
theorem lV{Q:Exit->Act->World->Prop} :wpList P ops Q (o::l) a w=if Region.wanted o (yielded ops a.tmps) then o.wp P a w (wpList P ops Q l) Q\/(o.asks P a w/\LetsOut Q) else wpList P ops Q l (a.put o.dst undef) w:=rfl
theorem qK(hg:o.guard=ξ)(h:AWO P N o st st')(h':AWR P N ops l st' K):AWR P N ops (o::l) st K:=by
 intro cx E a w hR
 rw[lV,if_pos (by simp[Region.wanted,hg])]
 exact .inl (ux (λ_ _ _ h=>h.elim) (Oper.wp_mono (λa' w' ⟨E',hR'⟩=>h' cx E' a' w' hR') (h cx E a w hR)))
theorem Js{b:Bool}(hR:Rel N cx E st a w)(hj:(ops[j]?).bind (·.dst)=ς dj)(hdj:dj<N)(hb:gt st.sl dj=tB b):
 yielded ops a.tmps j=ς b:=by
 have:=hR.sl dj
 rw[hb] at this
 simp only[cvT,cvV,cvC,gD,rdD] at this
 have hs:dj<a.tmps.size:=by rw[hR.size];exact hdj
 have h2:a.tmps[dj]?=ς (.bool b):=by
  rw[adg hs]
  simpa [adK,hs] using this
 unfold yielded
 simp_all
theorem Bm{b:Bool}(hg:o.guard=ς (j,b))(hj:(ops[j]?).bind (·.dst)=ς dj)(hdj:dj<N)(hb:gt st.sl dj=tB b)(h:AWO P N o st st')(h':AWR P N ops l st' K):
 AWR P N ops (o::l) st K:=by
 intro cx E a w hR
 rw[lV,if_pos (by simp[Region.wanted,hg,Js hR hj hdj hb])]
 exact .inl (ux (λ_ _ _ h=>h.elim) (Oper.wp_mono (λa' w' ⟨E',hR'⟩=>h' cx E' a' w' hR') (h cx E a w hR)))
theorem Rel.putAny(hR:Rel N cx E st a w){d:Tmp}(hd:d<N)(v:Value):Rel N cx E ⟨(d,.any)::st.sl,st.ob,st.nx⟩ (a.put (ς d) v) w:=by
 refine⟨hR.ok,hR.dom,hR.obs,λk=>?_,hR.dfr,by simpa [Act.put] using hR.size,hR.td⟩
 rw[ef (by rw[hR.size];exact hd)]
 by_cases hk:d=k
 .subst hk;rw[da];trivial
 rw[ck _ _ hk,if_neg hk];exact hR.sl k
def noG(b:Bool):T->Bool
 | .v (.c (.d _ (.b c)))=>c==!b
 | .tup []=>ζ
 |_=>η
theorem Jt{N:Nat}{ops:Array Oper}{tmps:Array Value}{b:Bool}{t:T}(hv:cvT E w t (tmps.getD dj undef))(hs:dj<tmps.size)(hj:(ops[j]?).bind (·.dst)=ς dj)(hb:noG b t=ζ):
 yielded ops tmps j≠ς b:=by
 have h2:tmps[dj]?=ς (tmps.getD dj undef):=by rw[adg hs];simp[adK,hs]
 unfold yielded
 rw[hj]
 simp only[Option.bind_some,h2]
 unfold noG at hb
 split at hb
 .rename_i g c
  have hv:gD E w g (.b c) (tmps.getD dj undef):=hv
  have hv:=mw hv
  simp only[rdD] at hv
  simp_all
 .obtain⟨arr,h1,h3⟩:=hv
  rw[h1];simp
 cases hb
theorem Rel.putUnd(hR:Rel N cx E st a w){d:Tmp}(hd:d<N):Rel N cx E ⟨(d,.tup [])::st.sl,st.ob,st.nx⟩ (a.put (ς d) undef) w:=by
 refine⟨hR.ok,hR.dom,hR.obs,λk=>?_,hR.dfr,by simpa [Act.put] using hR.size,hR.td⟩
 rw[ef (by rw[hR.size];exact hd)]
 by_cases hk:d=k
 .subst hk;rw[da,if_pos rfl];exact⟨#[],rfl,θ⟩
 rw[ck _ _ hk,if_neg hk];exact hR.sl k
theorem GY{d:Tmp}{b:Bool}(hg:o.guard=ς (j,b))(hj:(ops[j]?).bind (·.dst)=ς dj)(hdj:dj<N)(hb:noG b (gt st.sl dj)=ζ)(hd:o.dst=ς d)(hN:d<N)(h':AWR P N ops l ⟨(d,.tup [])::st.sl,st.ob,st.nx⟩ K):AWR P N ops (o::l) st K:=by
 intro cx E a w hR
 rw[lV,if_neg (by simp[Region.wanted,hg,Jt (N:=N) (hR.sl dj) (by rw[hR.size];exact hdj) hj hb]),hd]
 exact h' cx E _ w (hR.putUnd hN)
theorem Rel.decide(hR:Rel N cx E st a w){d:Tmp}{b c:Bool}(hb:gt st.sl d=tB b)(h:b=c):Rel N cx E ⟨(d,tB c)::st.sl,st.ob,st.nx⟩ a w:=by
 refine⟨hR.ok,hR.dom,hR.obs,λk=>?_,hR.dfr,hR.size,hR.td⟩
 by_cases hk:d=k
 .subst hk;rw[da,<-h,<-hb];exact hR.sl d
 rw[ck _ _ hk];exact hR.sl k
theorem Ur{d:Tmp}{b:Bool}(hb:gt st.sl d=tB b)(h1:b=ζ->AWR P N ops l ⟨(d,tB ζ)::st.sl,st.ob,st.nx⟩ K)(h0:b=η->AWR P N ops l ⟨(d,tB η)::st.sl,st.ob,st.nx⟩ K):
 AWR P N ops l st K:=by
 intro cx E a w hR
 cases hc:b with
 |true=>exact h1 hc cx E a w (hR.decide hb hc)
 |false=>exact h0 hc cx E a w (hR.decide hb hc)
theorem W1{K':St->Prop}(h:∀s,K s->K' s)(hh:AWR P N ops l st K):AWR P N ops l st K':=by
 intro cx E a w hR
 have:=hh cx E a w hR
 revert this
 have key:∀(l:List Oper) (a:Act) (w:World),wpList P ops (H4 N cx (onN K)) l a w->wpList P ops (H4 N cx (onN K')) l a w:=by
  intro l
  have hQ:∀e a w,H4 N cx (onN K) e a w->H4 N cx (onN K') e a w:=by
   rintro e a w ⟨E,s,hR,hq⟩
   refine⟨E,s,hR,?_⟩
   cases e<;>simp only[onN] at hq ⊢
   exact h s hq
  induction l with
  |nil=>exact λa w h=>hQ _ _ _ h
  |cons o l ih=>
   intro a w hw
   rw[lV] at hw ⊢
   split
   .rename_i hwt
    rw[if_pos hwt] at hw
    rcases hw with hw|⟨h1,a0,w0,h2⟩
    .exact .inl (ux hQ (Oper.wp_mono ih hw))
    exact .inr ⟨h1,a0,w0,hQ _ _ _ h2⟩
   simp_all
 simp_all
theorem Cz{c:Code}{AQ':Exit->St->Prop}(h:AWC P N c st AQ)(hq:∀e s,AQ e s->AQ' e s):AWC P N c st AQ':=
 λcx E a w hR=>wp_mono (h cx E a w hR) λe a w ⟨E,s,hR,q⟩=>⟨E,s,hR,hq e s q⟩
theorem Nu(h:AQ .normal st):AWC P N .skip st AQ:=λcx E a w hR=>wp_skip ⟨E,st,hR,h⟩
theorem R9(h:AQ .ret st):AWC P N .ret st AQ:=λcx E a w hR=>wp_ret ⟨E,st,hR,h⟩
theorem Nq(h:AQ (.exit id) st):AWC P N (.exit id) st AQ:=λcx E a w hR=>wp_exit ⟨E,st,hR,h⟩
theorem Lu{x:Code}(h:AWC P N x st (vw (λs=>AWC P N y s AQ) AQ)):AWC P N (x.seq y) st AQ:=λcx E a w hR=>
 wp_seq (wp_mono (h cx E a w hR) λe a w ⟨E,s,hR,q⟩=>by
  cases e<;>first|exact q cx E a w hR|exact⟨E,s,hR,q⟩)
theorem BC{l:List Oper}(h:AWR P N l.toArray l st (λs=>AQ .normal s)):AWC P N (.region id l.toArray η) st AQ:=λcx E a w hR=>
 wp_mono (wp_region_lit (h cx E a w hR)) λe a w ⟨E,s,hR,q⟩=>⟨E,s,hR,by cases e<;>first|exact q|exact q.elim⟩
theorem yR{l:List Oper}(h:AWR P N l.toArray l st (λs=>AWC P N y s AQ)):AWC P N ((Code.region id l.toArray η).seq y) st AQ:=
 Lu (BC h)
theorem Eg{c:Operand}{b:Bool}(hR:Rel N cx E st a w)(hb:opT st.sl c=tB b):a.eval c= .bool b:=by
 have:=hR.op c
 rw[hb] at this
 simpa [rdD] using vA this
theorem Bl{c:Operand}{x:Code}(hb:opT st.sl c=tB ζ)(h:AWC P N x st AQ):AWC P N (.cond c x y) st AQ:=λcx E a w hR=>wp_cond_true (Eg hR hb) (h cx E a w hR)
theorem yP{c:Operand}{x:Code}(hb:opT st.sl c=tB η)(h:AWC P N y st AQ):AWC P N (.cond c x y) st AQ:=λcx E a w hR=>wp_cond_false (Eg hR hb) (h cx E a w hR)
theorem WX{c:Operand}{x:Code}{b:Bool}(hb:opT st.sl c=tB b)(h1:b=ζ->AWC P N x st AQ)(h0:b=η->AWC P N y st AQ):AWC P N (.cond c x y) st AQ:=λcx E a w hR=>
 wp_cond_split (Eg hR hb) (λh=>h1 h cx E a w hR) (λh=>h0 h cx E a w hR)
def jv(id:Nat)(AQ:Exit->St->Prop):Exit->St->Prop
 | .exit n,s=>bif fW n id then AQ .normal s else AQ (.exit n) s
 |e,s=>AQ e s
theorem Kd{c:Code}(h:AWC P N c st (jv id AQ)):AWC P N (.block id c) st AQ:=λcx E a w hR=>
 wp_block (wp_mono (h cx E a w hR) λe a w ⟨E,s,hR,q⟩=>by
  cases e with
  |exit n=>
   simp only[Exit.inBlock]
   by_cases hn:n=id
   .subst hn;rw[if_pos rfl];exact⟨E,s,hR,by simpa [jv] using q⟩
   rw[if_neg hn];exact⟨E,s,hR,by simpa [jv,gQ hn] using q⟩
  |_=>exact⟨E,s,hR,q⟩)
def cO(N:Nat)(st st':St):Prop:=∀(cx:Cx) (E:Env) (a:Act) (w:World),Rel N cx E st a w->∃E',Rel N cx E' st' a w
theorem wa{c:Code}(hw:cO N st st')(h:AWC P N c st' AQ):AWC P N c st AQ:=λcx E a w hR=>let ⟨E',hR'⟩:=hw cx E a w hR;h cx E' a w hR'
theorem cd(hw:cO N st st')(h:AWR P N ops l st' K):AWR P N ops l st K:=λcx E a w hR=>let ⟨E',hR'⟩:=hw cx E a w hR;h cx E' a w hR'
def C.lt(n:Nat):C->Bool
 | .w o _| .s o _ _ _| .p o _| .e o _ _ _| .r o _| .wn o _| .d (.s o) _| .d (.t o) _| .q (.s o) _ _| .q (.t o) _ _=>nlt o n
 |_=>ζ
def V.lt(n:Nat):V->Bool
 | .c x=>x.lt n
 | .agg cs=>cs.all (C.lt n)
def T.lt(n:Nat):T->Bool
 | .v x=>x.lt n
 | .tup ts=>ts.all (V.lt n)
 | .any=>ζ
def Ob.lt(n:Nat):Ob->Bool
 | .var _ cs=>cs.all (C.lt n)
 | .row _ _ _ (.s l) _| .row _ _ _ (.t l) _| .rown _ _ _ (.s l)| .rown _ _ _ (.t l)=>nlt l n
 | .row .. | .rown .. =>ζ
 | .abs l _=>nlt l n
theorem bV{a:Nat}(h:nlt a b=ζ):a<b:=adp h
def LeS(sl:Lab)(n:Nat):Lab->Prop
 |[]=>True
 |(k,t)::r=>gt sl k=t/\t.lt n=ζ/\LeS sl n r
def LeO(ob:Laa)(n:Nat):Laa->Prop
 |[]=>True
 |(l,x)::r=>go ob l=ς x/\(nlt l n=ζ/\x.lt n=ζ)/\LeO ob n r
theorem LeS.gt(h:LeS sl n sl')(k:Nat):(AM.gt sl' k= .any\/AM.gt sl' k=AM.gt sl k)/\(AM.gt sl' k).lt n=true:=by
 induction sl' with
 |nil=>exact⟨.inl rfl,rfl⟩
 |cons p r ih=>
  obtain⟨j,t⟩:=p
  by_cases hj:j=k
  .subst hj;rw[da];exact⟨.inr h.1.symm,h.2.1⟩
  rw[ck _ _ hj];exact ih h.2.2
theorem LeO.go{ob:Laa}(h:LeO ob n ob'){l:Nat}{x:Ob}(hl:AM.go ob' l=ς x):AM.go ob l=ς x/\l<n/\x.lt n=true:=by
 induction ob' with
 |nil=>cases hl
 |cons p r ih=>
  obtain⟨j,t⟩:=p
  by_cases hj:j=l
  .subst hj;rw[bX] at hl;cases hl;exact⟨h.1,bV h.2.1.1,h.2.1.2⟩
  rw[bg _ _ hj] at hl;exact ih h.2.2 hl
def Env.below(E:Env)(n:Nat):Env:={E with r:=λo=>if o<n then E.r o else ξ,T:=λl b=>l<n/\E.T l b}
theorem Se{l:Nat}(h:l<n):(E.below n).T l=E.T l:=funext λb=>propext ⟨λk=>k.2,λk=>⟨h,k⟩⟩
theorem W9:∀{c:C} {u:Value},c.lt n=ζ->cvC E w c u->cvC (E.below n) w c u
 | .d (.b g) d,u,_,h=>h
 | .d (.s l) d,u,hl,h=>bQ (F':=(E.below n).T l) (λ_ _=>rfl) (λb hb=>⟨bV hl,hb⟩) d u h
 | .d (.t l) d,u,hl,h=>h.keep (λ_ _=>rfl) λb hb=>⟨bV hl,hb⟩
 | .w o m,u,hl,⟨b,c,h,hu⟩=>⟨b,c,by rw[Env.below];simp only;rw[if_pos (bV hl)];exact h,hu⟩
 | .s o sz off len,u,hl,⟨A,c,b,k,h,hu⟩=>⟨A,c,b,k,by rw[Env.below];simp only;rw[if_pos (bV hl)];exact h,hu⟩
 | .p o k,u,hl,⟨b,c,h,hu⟩=>⟨b,c,by rw[Env.below];simp only;rw[if_pos (bV hl)];exact h,hu⟩
 | .e o sz i j,u,hl,⟨b,c,h,hu⟩=>⟨b,c,by rw[Env.below];simp only;rw[if_pos (bV hl)];exact h,hu⟩
 | .q (.b g) y j,u,_,h=>h
 | .q (.s l) y j,u,hl,h| .q (.t l) y j,u,hl,h=>by simpa only[cvC,Env.H,Se (bV hl)] using h
 | .fn f,u,_,h=>h
 | .nil,u,_,h=>h
 | .any,u,_,_=>trivial
 | .r l d,u,hl,h=>bQ (F':=(E.below n).T l) (λ_ _=>rfl) (λb hb=>⟨bV hl,hb⟩) d u h
 | .z d,u,_,h=>h
 | .zq y j,u,_,h=>h
 | .wn o m,u,_,.inl h=>.inl h
 | .wn o m,u,hl,.inr ⟨h0,b,c,h,hu⟩=>.inr ⟨h0,b,c,by rw[Env.below];simp only;rw[if_pos (bV hl)];exact h,hu⟩
theorem WB{E:Env}{w:World}{n:Nat}:∀{cs:List C} {us:Lae},cs.all (C.lt n)=ζ->CV E w cs us->CV (E.below n) w cs us
 |[],[],_,_=>trivial
 |c::cs,u::us,hl,h=>by
  simp only[adm,f4] at hl
  exact⟨W9 hl.1 h.1,WB hl.2 h.2⟩
 |[],_::_,_,h=>h.elim
 |_::_,[],_,h=>h.elim
theorem Xd(hl:v.lt n=ζ)(h:cvV E w v u):cvV (E.below n) w v u:=by
 cases v with
 |c c=>exact W9 hl h
 |agg cs=>obtain⟨arr,hu,h⟩:=h;exact⟨arr,hu,WB hl h⟩
theorem VV_lt{E:Env}{w:World}{n:Nat}:∀{cs:List V} {us:Lae},cs.all (V.lt n)=ζ->VV E w cs us->VV (E.below n) w cs us
 |[],[],_,_=>trivial
 |c::cs,u::us,hl,h=>by
  simp only[adm,f4] at hl
  exact⟨Xd hl.1 h.1,VV_lt hl.2 h.2⟩
 |[],_::_,_,h=>h.elim
 |_::_,[],_,h=>h.elim
theorem cvT_lt{t:T}(hl:t.lt n=ζ)(h:cvT E w t u):cvT (E.below n) w t u:=by
 cases t with
 |v v=>exact Xd hl h
 |tup ts=>obtain⟨arr,hu,h⟩:=h;exact⟨arr,hu,VV_lt hl h⟩
 |any=>trivial
def Gr.lt(n:Nat):Gr->Prop
 | .b _=>True
 | .s l| .t l=>l<n
theorem Sd:∀{g:Gr},g.lt n->(E.below n).H g=E.H g
 | .b _,_=>rfl
 | .s l,h| .t l,h=>Se h
theorem Sc:∀{g:Gr},g.lt n->uf E w els b g->uf (E.below n) w els b g
 | .b _,_,_=>trivial
 | .s l,h,k| .t l,h,k=>k.keep rfl (λ_ _=>rfl) λb hb=>⟨h,hb⟩
theorem Zd{o:Nat}{ob:Ob}(ho:o<n)(hl:ob.lt n=ζ)(h:cN E w o ob):cN (E.below n) w o ob:=by
 cases ob with
 |var ty cs=>
  obtain⟨b,c,arr,hr,hh,hc,hF⟩:=h
  exact⟨b,c,arr,by simp only[Env.below];simp_all,hh,WB hl hc,hF⟩
 |row ty sz els g m=>
  obtain⟨b,c,arr,hr,h1,h2,h3,h4,h5,h6,h7,h8,h9⟩:=h
  have hg:g.lt n:=by
   cases g with
   |b x=>trivial
   |s l=>exact bV hl
   |t l=>exact bV hl
  exact⟨b,c,arr,by simp only[Env.below];simp_all,h1,h2,h3,h4,h5,by rw[Sd hg];exact h6,h7,h8,Sc hg h9⟩
 |rown ty sz els g=>
  rcases h with h|⟨h0,b,c,arr,hr,h⟩
  .exact .inl h
  obtain⟨h1,h2,h3,h4,h5,h6,h7,h9⟩:=h
  have hg:g.lt n:=by
   cases g with
   |b x=>trivial
   |s l=>exact bV hl
   |t l=>exact bV hl
  exact .inr ⟨h0,b,c,arr,by simp only[Env.below];simp_all,h1,h2,h3,h4,h5,by rw[Sd hg];exact h6,h7,Sc hg h9⟩
 |abs l y=>
  rcases h with h|⟨h0,b,c,hr,h1,h2⟩
  .exact .inl h
  exact .inr ⟨h0,b,c,by simp only[Env.below];simp_all,y.st b c _ _ w w h1 (λk hk=>⟨bV hl,hk⟩) rfl (λ_ _=>rfl),h2⟩
theorem dr.below(ok:dr cx E w)(n:Nat):dr cx (E.below n) w:=by
 have hr:∀o x,(E.below n).r o=ς x->E.r o=ς x:=λo x h=>by
  simp only[Env.below] at h;simp_all
 refine⟨ok.fb,ok.gf,ok.gn,λo b c h=>ok.rb o b c (hr o _ h),λo o' b c c' h h'=>ok.inj o o' b c c' (hr _ _ h) (hr _ _ h'),ok.os,ok.tape,ok.output,ok.size,ok.block,λo x hv h=>ok.pin o x hv (hr o _ h),ok.ff,ok.gc,⟨λl b h=>?_,λl l' b h h'=>ok.sf.tt l l' b h.2 h'.2,λb h=>?_,ok.sf.zs,ok.sf.ze⟩⟩
 .obtain⟨h1,h2,h3,h4⟩:=ok.sf.tb l b h.2
  exact⟨h1,h2,λo c ho=>h3 o c (hr o _ ho),h4⟩
 obtain⟨h1,h2,h3,h4⟩:=ok.sf.zc b h
 exact⟨h1,h2,λo c ho=>h3 o c (hr o _ ho),h4⟩
theorem M7(h1:LeS st.sl st'.nx st'.sl)(h2:LeO st.ob st'.nx st'.ob):cO N st st':=by
 intro cx E a w hR
 refine⟨E.below st'.nx,hR.ok.below _,λo x h=>?_,λo ob h=>?_,λk=>?_,hR.dfr,hR.size,λl b h=>h.1⟩
 .simp only[Env.below] at h;simp_all
 .obtain⟨h1,h2,h3⟩:=h2.go h
  exact Zd h2 h3 (hR.obs o ob h1)
 obtain⟨h1,h2⟩:=h1.gt k
 rcases h1 with h1|h1
 .rw[h1];trivial
 rw[h1] at h2 ⊢;exact cvT_lt h2 (hR.sl k)
theorem WZ{c:Code}(I:σ->Prop)(S:σ->St)(μ:σ->Nat)(x0:σ)(i0:I x0)(h0:cO N st (S x0))(round:∀x,I x->AWC P N c (S x) (vw (λs=>∃x',I x'/\cO N s (S x')/\μ x'<μ x) AQ)):AWC P N (.loop c) st AQ:=by
 intro cx E a w hR b k cs
 have key:∀n x,μ x=n->I x->∀E a w,Rel N cx E (S x) a w->
  ∃e a' w',H4 N cx AQ e a' w'/\Arrives P (lone (b.at a (.code c:: .inLoop c::k)) cs w) b k cs e a' w':=by
  intro n
  induction n using adN with
  |_ n ih=>
   intro x hn hI E a w hR
   obtain⟨e,a₁,w₁,⟨E₁,s₁,hR₁,hq⟩,harr⟩:=round x hI cx E a w hR b (.inLoop c::k) cs
   cases e with
   |normal=>
    obtain⟨x',hI',hW,hlt⟩:=hq
    obtain⟨E',hR'⟩:=hW cx E₁ a₁ w₁ hR₁
    obtain⟨e₂,a₂,w₂,hq₂,harr₂⟩:=ih (μ x') (hn▸hlt) x' rfl hI' E' a₁ w₁ hR'
    exact⟨e₂,a₂,w₂,hq₂,.of_steps (Steps.trans harr (.one step_inLoop)) harr₂⟩
   |exit id=>exact⟨_,a₁,w₁,⟨E₁,s₁,hR₁,hq⟩,.pass (x:=.inLoop c) rfl (λ_ _=>.inl (by simp)) harr⟩
   |goto l=>exact⟨_,a₁,w₁,⟨E₁,s₁,hR₁,hq⟩,.pass (x:=.inLoop c) rfl (λ_ _=>.inl (by simp)) harr⟩
   |ret=>exact⟨_,a₁,w₁,⟨E₁,s₁,hR₁,hq⟩,.pass (x:=.inLoop c) rfl (λ_ _=>.inl (by simp)) harr⟩
   |panic ch=>exact⟨_,a₁,w₁,⟨E₁,s₁,hR₁,hq⟩,.pass (x:=.inLoop c) rfl (λ_ _=>.inl (by simp)) harr⟩
   |outgrown=>exact⟨_,a₁,w₁,⟨E₁,s₁,hR₁,hq⟩,.pass (x:=.inLoop c) rfl (λ_ _=>.inl (by simp)) harr⟩
 obtain⟨E',hR'⟩:=h0 cx E a w hR
 obtain⟨e,a',w',hq,harr⟩:=key _ x0 rfl i0 E' a w hR'
 exact⟨e,a',w',hq,.of_steps (.one step_loop) harr⟩
end
class TyU(P:Program)(t:TypeId)(d:outParam TypeDesc):Prop where
 h:P.underlying t=ς d
class TyI(P:Program)(t:TypeId)(z:outParam Value)(n:outParam Nat)(b:outParam Nat):Prop where
 h:(P.info? t).map (λi=>(i.zero,i.size,i.bytes))=ς (ς z,n,b)
class g9(P:Program)(t:TypeId):Prop where
 h:∀w,(isAgg t).run P w= .ok η w
 n:∃i,P.info? t=ς i/\i.size=1
class en(P:Program)(t:TypeId)(n:outParam Nat):Prop where
 h:∀w,(isAgg t).run P w= .ok ζ w
 n:∃i,P.info? t=ς i/\i.size=n
class dz(P:Program)(t:TypeId)(e:outParam TypeId)(sz:outParam Nat)(by_:outParam Nat):Prop where
 u:P.underlying t=ς (.slice e)
 i:∃i z,P.info? e=ς i/\i.size=sz/\i.bytes=by_/\i.zero=ς z/\z.cells.size=sz
 p:0<sz
class TyF(P:Program)(t:TypeId)(f:Nat)(off:outParam Nat)(ft:outParam TypeId):Prop where
 h:∃fs fd,P.underlying t=ς (.struct fs)/\fs[f]?=ς fd/\fd.offset=off/\fd.type=ft/\∃i,P.info? ft=ς i/\i.size≠0
class TyZ(P:Program)(t:TypeId)(zs:outParam (List C)):Prop where
 h:∃i z,P.info? t=ς i/\i.zero=ς z/\z.cells.toList.map BD=zs
theorem ey{i:TypeInfo}(h:P.info? t=ς i)(w:World):(sizeOf t).run P w= .ok i.size w:=by
 simp[sizeOf,typeInfo,h]
section
variable{P:Program}{d:Option Tmp}{ty:TypeId}{ps:String}{af:Array Edge}{gd:Option (Nat×Bool)}{x y z:Operand}
theorem QJ{t:T}:AWN P ⟨d,.move x,ty,ps,af,gd⟩ [(x,t)] [] t []:=
 cA λE a w hn _=>⟨a.eval x,by simp[execOp],hn x t (.head _)⟩
theorem Ip{t:T}:AWN P ⟨d,.assign x,ty,ps,af,gd⟩ [(x,t)] [] t []:=
 cA λE a w hn _=>⟨a.eval x,by simp[execOp],hn x t (.head _)⟩
theorem ic{k:IntKind}{n:Int}(h:cvT E w (.v (.c (.d g (.i k n)))) u):u= .int k n:=by
 have h:cvC E w (.d g _) u:=h
 simpa [rdD] using mw h
theorem wX{b:Bool}(h:cvT E w (.v (.c (.d g (.b b)))) u):u= .bool b:=by
 have h:cvC E w (.d g _) u:=h
 simpa [rdD] using mw h
theorem G8{s:ByteArray}(h:cvT E w (.v (.c (.d g (.str s)))) u):u= .string s:=by
 have h:cvC E w (.d g _) u:=h
 simpa [rdD] using mw h
theorem OI{t:T}:AWN P ⟨d,.pick x y z,ty,ps,af,gd⟩ [(x,.v (.c (.d g (.b ζ)))),(y,t)] [] t []:=
 cA λE a w hn _=>⟨a.eval y,by
  have h:=wX (hn x _ (.head _))
  simp[execOp,asBool,h],hn y t (.tail _ (.head _))⟩
theorem Ml{t:T}:AWN P ⟨d,.pick x y z,ty,ps,af,gd⟩ [(x,.v (.c (.d g (.b η)))),(z,t)] [] t []:=
 cA λE a w hn _=>⟨a.eval z,by
  have h:=wX (hn x _ (.head _))
  simp[execOp,asBool,h],hn z t (.tail _ (.head _))⟩
@[irreducible] def ltB (a b:Int):Bool:=decide (a<b)
@[irreducible] def leB (a b:Int):Bool:=decide (a<=b)
@[irreducible] def eqB (a b:Int):Bool:=decide (a=b)
@[irreducible] def strB (a b:ByteArray):Bool:=a.toList==b.toList
@[simp] theorem ltB_t {a b:Int}:ltB a b=ζ↔a<b:=by simp[ltB]
@[simp] theorem ltB_f {a b:Int}:ltB a b=η↔b<=a:=by simp[ltB]
@[simp] theorem leB_t {a b:Int}:leB a b=ζ↔a<=b:=by simp[leB]
@[simp] theorem leB_f {a b:Int}:leB a b=η↔b<a:=by simp[leB]
@[simp] theorem eqB_t {a b:Int}:eqB a b=ζ↔a=b:=by simp[eqB]
@[simp] theorem eqB_f {a b:Int}:eqB a b=η↔a≠b:=by simp[eqB]
theorem RH{a b:ByteArray}(h:a.toList=b.toList):a=b:=by
 have:=congrArg List.toArray h
 simp only[ByteArray.toList_eq,adG] at this
 exact ByteArray.ext this
@[simp] theorem strB_t {a b:ByteArray}:strB a b=ζ↔a=b:=by simp[strB];exact⟨RH,λh=>by rw[h]⟩
@[simp] theorem strB_f {a b:ByteArray}:strB a b=η↔a≠b:=by
 rw[<-Bool.not_eq_true,strB_t]
theorem lt_dec(a b:Int):decide (a<b)=ltB a b:=by simp[ltB]
theorem le_dec(a b:Int):decide (a<=b)=leB a b:=by simp[leB]
theorem eq_dec(a b:Int):decide (a=b)=eqB a b:=by simp[eqB]
theorem Sf(a b:Int):(a==b)=eqB a b:=by rw[<-eq_dec];rfl
def X6(op:BinOp)(k:IntKind)(a b:Int):Option D:=
 match op with
 | .add=>ς (.i k (k.wrap (a+b)))
 | .sub=>ς (.i k (k.wrap (a-b)))
 | .mul=>ς (.i k (k.wrap (a*b)))
 | .eql=>ς (.b (eqB a b))
 | .neq=>ς (.b (!eqB a b))
 | .lss=>ς (.b (ltB a b))
 | .leq=>ς (.b (leB a b))
 | .gtr=>ς (.b (ltB b a))
 | .geq=>ς (.b (leB b a))
 |_=>ξ
theorem n_int{op:BinOp}{k:IntKind}{a b:Int}{r:D}(h:X6 op k a b=ς r):
 AWN P ⟨d,.binOp op t x y t',ty,ps,af,gd⟩ [(x,.v (.c (.d g (.i k a)))),(y,.v (.c (.d g' (.i k b))))] [] (.v (.c (.d η r))) []:=
 cA λE ac w hn _=>by
  have h1:=ic (hn x _ (.head _))
  have h2:=ic (hn y _ (.tail _ (.head _)))
  cases op<;>simp only[X6,Option.some.injEq,reduceCtorEq] at h<;>subst h<;>
   exact⟨_,by simp[execOp,h1,h2,eqGuard,binOp,Op.intArith,Op.intCmp];rfl,by simp[cvT,cvV,cvC,gD,rdD,bne,Sf,lt_dec,le_dec]⟩
theorem n_rem{k:IntKind}{a b:Int}(h:b≠0):
 AWN P ⟨d,.binOp .rem t x y t',ty,ps,af,gd⟩ [(x,.v (.c (.d g (.i k a)))),(y,.v (.c (.d g' (.i k b))))] [] (.v (.c (.d η (.i k (a.tmod b))))) []:=
 cA λE ac w hn _=>by
  have h1:=ic (hn x _ (.head _))
  have h2:=ic (hn y _ (.tail _ (.head _)))
  exact⟨_,by simp[execOp,h1,h2,eqGuard,binOp,Op.intDiv,h];rfl,by rfl⟩
theorem n_quo{k:IntKind}{a b:Int}(h:b≠0):
 AWN P ⟨d,.binOp .quo t x y t',ty,ps,af,gd⟩ [(x,.v (.c (.d g (.i k a)))),(y,.v (.c (.d g' (.i k b))))] [] (.v (.c (.d η (.i k (k.wrap (a.tdiv b)))))) []:=
 cA λE ac w hn _=>by
  have h1:=ic (hn x _ (.head _))
  have h2:=ic (hn y _ (.tail _ (.head _)))
  exact⟨_,by simp[execOp,h1,h2,eqGuard,binOp,Op.intDiv,h];rfl,by rfl⟩
theorem YB{a b:ByteArray}:
 AWN P ⟨d,.binOp .eql t x y t',ty,ps,af,gd⟩ [(x,.v (.c (.d g (.str a)))),(y,.v (.c (.d g' (.str b))))] [] (.v (.c (.d η (.b (strB a b))))) []:=
 cA λE ac w hn _=>by
  have h1:=G8 (hn x _ (.head _))
  have h2:=G8 (hn y _ (.tail _ (.head _)))
  exact⟨_,by simp[execOp,h1,h2,eqGuard,binOp,Op.stringOp];rfl,by simp[cvT,cvV,cvC,gD,rdD,strB]⟩
theorem YC{a b:ByteArray}:
 AWN P ⟨d,.binOp .neq t x y t',ty,ps,af,gd⟩ [(x,.v (.c (.d g (.str a)))),(y,.v (.c (.d g' (.str b))))] [] (.v (.c (.d η (.b (!strB a b))))) []:=
 cA λE ac w hn _=>by
  have h1:=G8 (hn x _ (.head _))
  have h2:=G8 (hn y _ (.tail _ (.head _)))
  exact⟨_,by simp[execOp,h1,h2,eqGuard,binOp,Op.stringOp];rfl,by simp[cvT,cvV,cvC,gD,rdD,strB]⟩
theorem n_not{b:Bool}:AWN P ⟨d,.unOp .not t x,ty,ps,af,gd⟩ [(x,.v (.c (.d g (.b b))))] [] (.v (.c (.d η (.b (!b))))) []:=
 cA λE ac w hn _=>by
  have h1:=wX (hn x _ (.head _))
  exact⟨_,by simp[execOp,h1,Op.unary];rfl,by rfl⟩
theorem n_neg{k:IntKind}{n:Int}:AWN P ⟨d,.unOp .neg t x,ty,ps,af,gd⟩ [(x,.v (.c (.d g (.i k n))))] [] (.v (.c (.d η (.i k (k.wrap (0-n)))))) []:=
 cA λE ac w hn _=>by
  have h1:=ic (hn x _ (.head _))
  exact⟨_,by simp[execOp,h1,Op.unary,Op.intArith];rfl,by simp[cvT,cvV,cvC,gD,rdD]⟩
theorem n_conv{ds:TypeDesc}{k k':IntKind}{n:Int}[hs:TyU P t ds][hd:TyU P t' (.int k')]:
 AWN P ⟨d,.convert t t' x,ty,ps,af,gd⟩ [(x,.v (.c (.d g (.i k n))))] [] (.v (.c (.d η (.i k' (k'.wrap n))))) []:=
 cA λE ac w hn _=>by
  have h1:=ic (hn x _ (.head _))
  refine⟨.int k' (k'.wrap n),?_,by rfl⟩
  simp only[execOp,h1,convert]
  simp[underlying,hs.h,hd.h,Conv.intToInt]
theorem U9{ts:List V}(h:ts[i]?=ς v):AWN P ⟨d,.extract x i,ty,ps,af,gd⟩ [(x,.tup ts)] [] (.v v) []:=
 cA λE ac w hn _=>by
  obtain⟨arr,h1,h2⟩:=hn x _ (.head _)
  have key:∀(ts:List V) (us:Lae) (i:Nat),VV E w ts us->ts[i]?=ς v->∃u,us[i]?=ς u/\cvV E w v u:=by
   intro ts
   induction ts with
   |nil=>simp_all
   |cons t ts ih=>
    intro us i h9 hi
    cases us with
    |nil=>exact h9.elim
    |cons u us=>
     cases i with
     |zero=>simp at hi;subst hi;exact⟨u,rfl,h9.1⟩
     |succ i=>exact ih us i h9.2 (by simp_all)
  obtain⟨u,hu,hv⟩:=key ts arr.toList i h2 h
  exact⟨u,by simp[execOp,h1,Instr.extract,show arr[i]?=ς u by simp_all],hv⟩
theorem Mj{o:Nat}:AWN P ⟨d,.nilCheck x,ty,ps,af,gd⟩ [(x,.v (.c (.p o k)))] [] (.v (.c (.p o k))) []:=
 cA λE ac w hn _=>by
  have h:=hn x _ (.head _)
  obtain⟨b,c,hr,hu⟩:=h
  exact⟨.pointer (ς ⟨b,k,ξ⟩),by simp[execOp,hu],b,c,hr,rfl⟩
theorem acg{o:Nat}[ht:dz P t e sz by_]:AWN P ⟨d,.call ⟨.builtin .len,#[x],#[t]⟩,ty,ps,af,gd⟩ [(x,.v (.c (.w o n)))] [] (tI n) []:=
 cA λE ac w hn _=>by
  obtain⟨b,c,hr,hu⟩:=hn x _ (.head _)
  exact⟨_,by simp[execOp,resolve,invoke,builtin,hu,Builtin.len_,underlying,ht.u,goInt];rfl,by rfl⟩
theorem acf{o z:Nat}[ht:dz P t e sz by_]:AWN P ⟨d,.call ⟨.builtin .len,#[x],#[t]⟩,ty,ps,af,gd⟩ [(x,.v (.c (.s o z off n)))] [] (tI n) []:=
 cA λE ac w hn _=>by
  obtain⟨A,c,b,k,hr,hu,_⟩:=hn x _ (.head _)
  exact⟨_,by simp[execOp,resolve,invoke,builtin,hu,Builtin.len_,underlying,ht.u,goInt];rfl,by rfl⟩
theorem ace{xs:Lad}[ht:dz P t e sz by_]:AWN P ⟨d,.call ⟨.builtin .len,#[x],#[t]⟩,ty,ps,af,gd⟩ [(x,.v (.c (.d g (.l xs))))] [] (tI xs.length) []:=
 cA λE ac w hn _=>by
  have h:=hn x _ (.head _)
  replace h:=vA h;simp only[rdD] at h
  obtain⟨A,c,hu,_⟩:=h
  exact⟨_,by simp[execOp,resolve,invoke,builtin,hu,Builtin.len_,underlying,ht.u,goInt];rfl,by rfl⟩
theorem Vh[ht:dz P t e sz by_]:AWN P ⟨d,.call ⟨.builtin .len,#[x],#[t]⟩,ty,ps,af,gd⟩ [(x,.v (.c .nil))] [] (tI 0) []:=
 cA λE ac w hn _=>by
  have hu:ac.eval x= .slice ξ 0 0:=hn x _ (.head _)
  exact⟨_,by simp[execOp,resolve,invoke,builtin,hu,Builtin.len_,underlying,ht.u,goInt];rfl,by rfl⟩
theorem Vi{s:ByteArray}[ht:TyU P t .string]:AWN P ⟨d,.call ⟨.builtin .len,#[x],#[t]⟩,ty,ps,af,gd⟩ [(x,.v (.c (.d g (.str s))))] [] (tI s.size) []:=
 cA λE ac w hn _=>by
  have hu:=G8 (hn x _ (.head _))
  exact⟨_,by simp[execOp,resolve,invoke,builtin,hu,Builtin.len_,underlying,ht.h,goInt];rfl,by rfl⟩
theorem vy(b k j:Nat):(⟨b,k,ξ⟩:Addr).add j=⟨b,k+j,ξ⟩:=by
 unfold Addr.add;simp_all
theorem uI[h:TyF P t f off ft](b k:Nat)(w:World):(Instr.fieldAt t (.pointer (ς ⟨b,k,ξ⟩)) f).run P w= .ok (.pointer (ς ⟨b,k+off,ξ⟩)) w:=by
 obtain⟨fs,fd,h1,h2,rfl,rfl,i,h3,h4⟩:=h.h
 simp[Instr.fieldAt,underlying,h1,h2,Instr.sureAddr,fieldPlace,ey h3,h4,vy]
theorem Vb{o:Nat}[h:TyF P t f off ft]:AWN P ⟨d,.fieldAddr t x f,ty,ps,af,gd⟩ [(x,.v (.c (.p o k)))] [] (.v (.c (.p o (k+off)))) []:=
 cA λE ac w hn _=>by
  obtain⟨b,c,hr,hu⟩:=hn x _ (.head _)
  exact⟨.pointer (ς ⟨b,k+off,ξ⟩),by simp[execOp,hu,uI],b,c,hr,rfl⟩
theorem Va{o:Nat}[h:TyF P t f off ft]:AWN P ⟨d,.fieldAddr t x f,ty,ps,af,gd⟩ [(x,.v (.c (.e o sz i j)))] [] (.v (.c (.e o sz i (j+off)))) []:=
 cA λE ac w hn _=>by
  obtain⟨b,c,hr,hu⟩:=hn x _ (.head _)
  exact⟨_,by simp[execOp,hu,uI];rfl,b,c,hr,by grind⟩
theorem Vc{e:List D}[h:TyF P t f off ft]:AWN P ⟨d,.fieldAddr t x f,ty,ps,af,gd⟩ [(x,.v (.c (.q g e j)))] [] (.v (.c (.q g e (j+off)))) []:=
 cA λE ac w hn _=>by
  obtain⟨b,k,hu,hr⟩:=hn x _ (.head _)
  exact⟨_,by simp[execOp,hu,uI];rfl,b,k,by grind,hr⟩
theorem uV[ht:dz P t e sz by_]{len cap:Nat}{i:Int}(h0:0<=i)(h1:i<len)(w:World):
 (Instr.indexAt t (.slice (ς ⟨b,k,ξ⟩) len cap) (.int kd i)).run P w= .ok (.pointer (ς ⟨b,k+i.toNat*sz,ξ⟩)) w:=by
 obtain⟨ii,z,h2,h3,_⟩:=ht.i
 have:=ey h2 w
 simp[Instr.indexAt,asIntOf,underlying,ht.u,h0,h1,this,h3,vy]
theorem KL{o:Nat}{i:Int}[ht:dz P t e sz by_](h0:0<=i)(h1:i<n):
 AWN P ⟨d,.indexAddr t x y,ty,ps,af,gd⟩ [(x,.v (.c (.w o n))),(y,.v (.c (.d g (.i kd i))))] [] (.v (.c (.e o sz i.toNat 0))) []:=
 cA λE ac w hn _=>by
  obtain⟨b,c,hr,hu⟩:=hn x _ (.head _)
  have h2:=ic (hn y _ (.tail _ (.head _)))
  exact⟨_,by simp[execOp,hu,h2,uV h0 h1];rfl,b,c,hr,by simp⟩
theorem Vf{o:Nat}{i:Int}[ht:dz P t e sz by_](h0:0<=i)(h1:i<n):
 AWN P ⟨d,.indexAddr t x y,ty,ps,af,gd⟩ [(x,.v (.c (.s o sz off n))),(y,.v (.c (.d g (.i kd i))))] [] (.v (.c (.e o sz (off+i.toNat) 0))) []:=
 cA λE ac w hn _=>by
  obtain⟨A,c,b,k,hr,hu,hc,_,hA⟩:=hn x _ (.head _)
  have h2:=ic (hn y _ (.tail _ (.head _)))
  obtain rfl:A=ς ⟨b,off*sz,ξ⟩:=hA.resolve_left oaa
  exact⟨_,by simp[execOp,hu,h2,uV h0 h1];rfl,b,k,hr,by grind⟩
theorem Ve{xs:Lad}{i:Int}[ht:dz P t e sz by_](h0:0<=i)(he:xs[i.toNat]?=ς el)(hs:∀e∈xs,e.length=sz):
 AWN P ⟨d,.indexAddr t x y,ty,ps,af,gd⟩ [(x,.v (.c (.d g (.l xs)))),(y,.v (.c (.d g' (.i kd i))))] [] (.v (.c (.q g el 0))) []:=
 cA λE ac w hn _=>by
  have h:=hn x _ (.head _)
  replace h:=vA h;simp only[rdD] at h
  obtain⟨A,c,hu,_,h⟩:=h
  have h2:=ic (hn y _ (.tail _ (.head _)))
  have hl:i.toNat<xs.length:=(f5.1 he).1
  rcases h with h|⟨b,off,rfl,hb,h⟩
  .simp_all
  exact⟨_,by simp[execOp,hu,h2,uV (kd:=kd) h0 (by omega:i<(xs.length:Int))];rfl,b,off+i.toNat*sz,by simp,hb,sH h hs he⟩
def ldC(g:Gr):D->C
 | .l xs=>.d g.sub (.l xs)
 |x=>.d η x
theorem HV{x:D}(h:rdD w (E.H g) x u):cvC E w (ldC g x) u:=by
 cases x<;>simp only[ldC,cvC]<;>first|exact gD_sub h|exact h|(simp only[gD,rdD] at h ⊢;exact h)
theorem pV[h:g9 P t](hc:w.cell? ⟨b,k,ξ⟩=ς u):(Instr.loadAt t (.pointer (ς ⟨b,k,ξ⟩))).run P w= .ok u w:=by
 simp[Instr.loadAt,Instr.sureAddr,loadVar,h.h,load,Sem.run,hc]
theorem lg{b k:Nat}{w:World}:∀(us:Lae) (i:Nat) (acc:Array Value),(∀j u,us[j]?=ς u->w.cell? ⟨b,k+(i+j),ξ⟩=ς u)->
 (loadCellsFrom ⟨b,k,ξ⟩ i us.length acc).run P w= .ok (acc++us.toArray) w
 |[],i,acc,_=>by rfl
 |u::us,i,acc,h=>by
  have h0:=h 0 u rfl
  have ih:=lg us (i+1) (acc.push u) (λj v hj=>by have:=h (j+1) v (by simp_all);rwa [show i+1+j=i+(j+1) from by omega])
  simp only[acn,loadCellsFrom,load,vy]
  simp[Sem.run,show w.cell? ⟨b,k+i,ξ⟩=ς u by omega,ih]
theorem tR[h:en P t n]{us:Lae}(hl:us.length=n)(hc:∀j u,us[j]?=ς u->w.cell? ⟨b,k+j,ξ⟩=ς u):
 (Instr.loadAt t (.pointer (ς ⟨b,k,ξ⟩))).run P w= .ok (.agg us.toArray) w:=by
 obtain⟨i,hi,hn⟩:=h.n
 have:=lg (P:=P) (b:=b) (k:=k) (w:=w) us 0 #[] (λj u hj=>by simp_all)
 simp[Instr.loadAt,Instr.sureAddr,loadVar,h.h,ey hi,hn,<-hl,loadCells,this]
theorem J8{E:Env}{w:World}:∀{cs:List C} {us:Lae} {k:Nat} {c:C},CV E w cs us->cs[k]?=ς c->∃u,us[k]?=ς u/\cvC E w c u
 |c::cs,u::us,0,c',h,hk=>by simp at hk;subst hk;exact⟨u,rfl,h.1⟩
 |c::cs,u::us,k+1,c',h,hk=>by
  obtain⟨v,hv,h'⟩:=J8 (k:=k) h.2 (by simpa using hk)
  simp_all
 |[],_,_,_,_,hk=>by simp at hk
 |_::_,[],_,_,h,_=>h.elim
theorem jt{E:Env}{w:World}:∀{cs:List C} {us:Lae},CV E w cs us->us.length=cs.length
 |[],[],_=>rfl
 |c::cs,u::us,h=>by simp[jt h.2]
 |[],_::_,h=>h.elim
 |_::_,[],h=>h.elim
theorem Lg{E:Env}{w:World}:∀{cs:List C} {us:Lae} (k:Nat),CV E w cs us->CV E w (cs.drop k) (us.drop k)
 |cs,us,0,h=>by simpa using h
 |[],[],k+1,h=>by simpa using h
 |c::cs,u::us,k+1,h=>by simpa using Lg k h.2
 |[],_::_,_+1,h=>h.elim
 |_::_,[],_+1,h=>h.elim
theorem Lj{E:Env}{w:World}:∀{cs:List C} {us:Lae} (k:Nat),CV E w cs us->CV E w (cs.take k) (us.take k)
 |cs,us,0,h=>by simp[CV]
 |[],[],k+1,h=>by simp[CV]
 |c::cs,u::us,k+1,h=>by rw[ado,ado];exact⟨h.1,Lj k h.2⟩
 |[],_::_,_+1,h=>h.elim
 |_::_,[],_+1,h=>h.elim
theorem dX{arr:Array Value}{ty':TypeId}(h:w.heap[b]?=ς (.cells arr ty' (0,0))):w.cell? ⟨b,k,ξ⟩=arr[k]?:=by
 simp[World.cell?,h]
theorem Yy{o:Nat}{c:C}[ht:g9 P t](hc:cs[k]?=ς c):
 AWN P ⟨d,.load t x,ty,ps,af,gd⟩ [(x,.v (.c (.p o k)))] [(o,.var vt cs)] (.v (.c c)) []:=
 cA λE ac w hn hb=>by
  obtain⟨b,c',hr,hu⟩:=hn x _ (.head _)
  obtain⟨b',c'',arr,hr',hh,hcv,_⟩:=hb o _ (.head _)
  rw[hr] at hr';cases hr'
  obtain⟨u,hu',hcu⟩:=J8 hcv hc
  exact⟨u,by simp[execOp,hu,pV (P:=P) (show w.cell? ⟨b,k,ξ⟩=ς u by rw[dX hh];simp_all)],hcu⟩
theorem Mg{o:Nat}[ht:en P t n](hk:k+n<=cs.length):
 AWN P ⟨d,.load t x,ty,ps,af,gd⟩ [(x,.v (.c (.p o k)))] [(o,.var vt cs)] (.v (.agg ((cs.drop k).take n))) []:=
 cA λE ac w hn hb=>by
  obtain⟨b,c',hr,hu⟩:=hn x _ (.head _)
  obtain⟨b',c'',arr,hr',hh,hcv,_⟩:=hb o _ (.head _)
  rw[hr] at hr';cases hr'
  have hl:=jt hcv
  refine⟨.agg ((arr.toList.drop k).take n).toArray,by
   simp[execOp,hu,tR (P:=P) (t:=t) (n:=n) (b:=b) (k:=k) (us:=(arr.toList.drop k).take n) (w:=w) (by grind) (λj u hj=>by
    rw[dX hh]
    grind)],_,rfl,Lj n (Lg k hcv)⟩
theorem Yz{e:List D}{xd:D}[ht:g9 P t](hc:e[j]?=ς xd):AWN P ⟨d,.load t x,ty,ps,af,gd⟩ [(x,.v (.c (.q g e j)))] [] (.v (.c (ldC g xd))) []:=
 cA λE ac w hn hb=>by
  obtain⟨b,k,hu,hF,hr⟩:=hn x _ (.head _)
  obtain⟨u,hc,hd⟩:=iz hr hc
  exact⟨u,by simp[execOp,hu,pV (P:=P) hc],HV hd⟩
theorem Dy{w:World}{F:Nat->Prop}:∀{e:List D} {b k:Nat},rdL w F e b k->∃us:Lae,us.length=e.length/\(∀(j:Nat) (u:Value),us[j]?=ς u->w.cell? ⟨b,k+j,ξ⟩=ς u)/\∀(j:Nat) (xd:D),e[j]?=ς xd->∃u,us[j]?=ς u/\rdD w F xd u
 |[],b,k,_=>⟨[],rfl,by simp,by simp⟩
 |x::e,b,k,h=>by
  rw[rdL] at h
  obtain⟨⟨u,hc,hd⟩,h⟩:=h
  obtain⟨us,h1,h2,h3⟩:=Dy h
  refine⟨u::us,by simp[h1],λj v hj=>?_,λj xd hj=>?_⟩
  .grind
  grind
theorem D1{E:Env}{w:World}{g:Gr}:∀{e:List D} {us:Lae},us.length=e.length->(∀(j:Nat) (xd:D),e[j]?=ς xd->∃u,us[j]?=ς u/\rdD w (E.H g) xd u)->CV E w (e.map (ldC g)) us
 |[],[],_,_=>trivial
 |x::e,u::us,hl,h=>by
  obtain⟨v,h1,h2⟩:=h 0 x rfl
  simp at h1;subst h1
  exact⟨HV h2,D1 (by simp_all) λj xd hj=>by
   obtain⟨v,h3,h4⟩:=h (j+1) xd (by simp_all)
   simp_all⟩
 |[],_::_,hl,_=>by simp at hl
 |_::_,[],hl,_=>by simp at hl
theorem Pf{F:Nat->Prop}{e:List D}(h:rdL w F e b k)(j n:Nat):rdL w F ((e.drop j).take n) b (k+j):=
 mG λi xd hi=>by
  rw[adj] at hi
  split at hi
  .rw[adE] at hi
   have:=iz h hi
   grind
  cases hi
theorem Mh{e:List D}[ht:en P t n](hj:j+n<=e.length):
 AWN P ⟨d,.load t x,ty,ps,af,gd⟩ [(x,.v (.c (.q g e j)))] [] (.v (.agg (((e.drop j).take n).map (ldC g)))) []:=
 cA λE ac w hn hb=>by
  obtain⟨b,k,hu,hF,hr⟩:=hn x _ (.head _)
  obtain⟨us,h1,h2,h3⟩:=Dy (Pf hr j n)
  exact⟨.agg us.toArray,by simp[execOp,hu,tR (P:=P) (t:=t) (n:=n) (us:=us) (by grind) h2],_,rfl,D1 h1 h3⟩
theorem Yx{o:Nat}{rt:TypeId}{xd:D}[ht:g9 P t](he:els[i]?=ς el)(hc:el[j]?=ς xd):
 AWN P ⟨d,.load t x,ty,ps,af,gd⟩ [(x,.v (.c (.e o sz i j)))] [(o,.row rt sz els g m)] (.v (.c (ldC g xd))) []:=
 cA λE ac w hn hb=>by
  obtain⟨b,c',hr,hu⟩:=hn x _ (.head _)
  obtain⟨b',c'',arr,hr',hh,h1,h2,h3,h4,h5,_⟩:=hb o _ (.head _)
  rw[hr] at hr';cases hr'
  obtain⟨u,hc,hd⟩:=iz (sH h5 h4 he) hc
  exact⟨u,by simp[execOp,hu,pV (P:=P) (t:=t) (show w.cell? ⟨b,i*sz+j,ξ⟩=ς u by simp_all)],HV hd⟩
theorem Mf{o:Nat}{rt:TypeId}[ht:en P t n](he:els[i]?=ς el)(hj:j+n<=el.length):
 AWN P ⟨d,.load t x,ty,ps,af,gd⟩ [(x,.v (.c (.e o sz i j)))] [(o,.row rt sz els g m)] (.v (.agg (((el.drop j).take n).map (ldC g)))) []:=
 cA λE ac w hn hb=>by
  obtain⟨b,c',hr,hu⟩:=hn x _ (.head _)
  obtain⟨b',c'',arr,hr',hh,h1,h2,h3,h4,h5,_⟩:=hb o _ (.head _)
  rw[hr] at hr';cases hr'
  obtain⟨us,h6,h7,h8⟩:=Dy (Pf (sH h5 h4 he) j n)
  exact⟨.agg us.toArray,by simp[execOp,hu,tR (P:=P) (t:=t) (n:=n) (b:=b) (k:=i*sz+j) (us:=us) (by grind) (λj' u hj'=>by have:=h7 j' u hj';simpa using this)],_,rfl,D1 h6 h8⟩
theorem Yv{c:C}[h:TyF P t f off ft][ht:g9 P ft](hc:cs[off]?=ς c):AWN P ⟨d,.field t x f,ty,ps,af,gd⟩ [(x,.v (.agg cs))] [] (.v (.c c)) []:=
 cA λE ac w hn hb=>by
  obtain⟨arr,hu,hcv⟩:=hn x _ (.head _)
  obtain⟨u,hu',hcu⟩:=J8 hcv hc
  obtain⟨fs,fd,h1,h2,rfl,rfl,i,h3,h4⟩:=h.h
  exact⟨u,by simp[execOp,hu,Instr.field,underlying,h1,h2,asAgg,part,ht.h,show arr[fd.offset]?=ς u by simp_all],hcu⟩
theorem Me[h:TyF P t f off ft][ht:en P ft n]:AWN P ⟨d,.field t x f,ty,ps,af,gd⟩ [(x,.v (.agg cs))] [] (.v (.agg ((cs.drop off).take n))) []:=
 cA λE ac w hn hb=>by
  obtain⟨arr,hu,hcv⟩:=hn x _ (.head _)
  obtain⟨fs,fd,h1,h2,rfl,rfl,i,h3,h4⟩:=h.h
  obtain⟨i',h5,h6⟩:=ht.n
  refine⟨.agg (arr.extract fd.offset (fd.offset+n)),by simp[execOp,hu,Instr.field,underlying,h1,h2,asAgg,part,ht.h,ey h5,h6],_,rfl,?_⟩
  have:=Lj n (Lg fd.offset hcv)
  simp_all
end
def tkO{α:Type}:Nat->List α->Option (List α)
 |0,_=>ς []
 |n+1,x::xs=>match tkO n xs with|some r=>ς (x::r)|none=>ξ
 |_+1,[]=>ξ
def drO{α:Type}:Nat->List α->Option (List α)
 |0,xs=>ς xs
 |n+1,_::xs=>drO n xs
 |_+1,[]=>ξ
def Dl(k n:Nat)(xs:List α):Option (List α):=match drO k xs with|some r=>tkO n r|none=>ξ
def mI{α:Type}:Nat->List α->List α->Option (List α)
 |0,[],cs=>ς cs
 |0,n::ns,_::cs=>match mI 0 ns cs with|some r=>ς (n::r)|none=>ξ
 |0,_::_,[]=>ξ
 |k+1,ns,c::cs=>match mI k ns cs with|some r=>ς (c::r)|none=>ξ
 |_+1,_,[]=>ξ
theorem Z1{α:Type}:∀{n:Nat} {xs r:List α},tkO n xs=ς r->r=xs.take n/\n<=xs.length
 |0,xs,r,h=>by simp[tkO] at h;subst h;simp
 |n+1,[],r,h=>by simp[tkO] at h
 |n+1,x::xs,r,h=>by
  simp only[tkO] at h
  cases h1:tkO n xs with
  |none=>simp_all
  |some s=>simp[h1] at h;obtain⟨h2,h3⟩:=Z1 h1;simp_all
theorem Xo{α:Type}:∀{n:Nat} {xs r:List α},drO n xs=ς r->r=xs.drop n/\n<=xs.length
 |0,xs,r,h=>by simp[drO] at h;subst h;simp
 |n+1,[],r,h=>by simp[drO] at h
 |n+1,x::xs,r,h=>by simp only[drO] at h;obtain⟨h2,h3⟩:=Xo h;simp_all
theorem Dm{xs r:List α}(h:Dl k n xs=ς r):r=(xs.drop k).take n/\k+n<=xs.length:=by
 unfold Dl at h
 cases h1:drO k xs with
 |none=>simp_all
 |some s=>
  simp[h1] at h
  obtain⟨h2,h3⟩:=Xo h1
  obtain⟨h4,h5⟩:=Z1 h
  grind
theorem qH{α:Type}:∀{k:Nat} {ns cs r:List α},mI k ns cs=ς r->r=cs.take k++ns++cs.drop (k+ns.length)/\k+ns.length<=cs.length
 |0,[],cs,r,h=>by simp[mI] at h;subst h;simp
 |0,n::ns,[],r,h=>by simp[mI] at h
 |0,n::ns,c::cs,r,h=>by
  simp only[mI] at h
  cases h1:mI 0 ns cs with
  |none=>simp_all
  |some s=>simp[h1] at h;obtain⟨h2,h3⟩:=qH h1;simp_all
 |k+1,ns,[],r,h=>by cases ns<;>simp[mI] at h
 |k+1,ns,c::cs,r,h=>by
  have h':(match mI k ns cs with|some r=>ς (c::r)|none=>ξ)=ς r:=by cases ns<;>simpa [mI] using h
  cases h1:mI k ns cs with
  |none=>simp_all
  |some s=>
   simp[h1] at h';obtain⟨h2,h3⟩:=qH h1;grind
theorem Je{ns cs r:List α}(h:mI k ns cs=ς r)(i:Nat):r[i]?=if k<=i/\i<k+ns.length then ns[i-k]? else cs[i]?:=by
 obtain⟨h1,h2⟩:=qH h
 subst h1
 have hk:(cs.take k).length=k:=by simp;omega
 grind
theorem CV_of{E:Env}{w:World}:∀{cs:List C} {us:Lae},us.length=cs.length->(∀(k:Nat) (c:C),cs[k]?=ς c->∃u,us[k]?=ς u/\cvC E w c u)->CV E w cs us
 |[],[],_,_=>trivial
 |c::cs,u::us,hl,h=>by
  obtain⟨v,h1,h2⟩:=h 0 c rfl
  simp at h1;subst h1
  exact⟨h2,CV_of (by simp_all) λk c' hk=>by
   obtain⟨v,h3,h4⟩:=h (k+1) c' (by simp_all)
   simp_all⟩
 |[],_::_,hl,_=>by simp at hl
 |_::_,[],hl,_=>by simp at hl
section
variable{P:Program}{N:Nat}{d:Option Tmp}{ty:TypeId}{ps:String}{af:Array Edge}{gd:Option (Nat×Bool)}{x y z:Operand}
theorem JY{o:Nat}{r:List C}[ht:en P t n](hk:Dl k n cs=ς r):
 AWN P ⟨d,.load t x,ty,ps,af,gd⟩ [(x,.v (.c (.p o k)))] [(o,.var vt cs)] (.v (.agg r)) []:=by
 obtain⟨h1,h2⟩:=Dm hk
 subst h1
 exact Mg h2
def ldO(g:Gr):List D->Option (List C)
 |[]=>ς []
 | .i k n::r=>match ldO g r with|some cs=>ς (.d η (.i k n)::cs)|none=>ξ
 | .b x::r=>match ldO g r with|some cs=>ς (.d η (.b x)::cs)|none=>ξ
 | .str s::r=>match ldO g r with|some cs=>ς (.d η (.str s)::cs)|none=>ξ
 | .l xs::r=>match ldO g r with|some cs=>ς (.d g.sub (.l xs)::cs)|none=>ξ
 | .k A n c::r=>match ldO g r with|some cs=>ς (.d η (.k A n c)::cs)|none=>ξ
theorem L0{g:Gr}:∀{xs:List D} {cs:List C},ldO g xs=ς cs->cs=xs.map (ldC g)
 |[],cs,h=>by simp[ldO] at h;subst h;rfl
 |x::xs,cs,h=>by
  cases h1:ldO g xs with
  |none=>cases x<;>simp[ldO,h1] at h
  |some r=>have:=L0 h1;subst this;cases x<;>simp[ldO,h1] at h<;>subst h<;>rfl
def HW(g:Gr)(j n:Nat)(e:List D):Option (List C):=match Dl j n e with|some r=>ldO g r|none=>ξ
theorem L1{e:List D}(h:HW g j n e=ς cs):cs=((e.drop j).take n).map (ldC g)/\j+n<=e.length:=by
 unfold HW at h
 cases h1:Dl j n e with
 |none=>simp_all
 |some r=>simp[h1] at h;obtain⟨h2,h3⟩:=Dm h1;subst h2;exact⟨L0 h,h3⟩
def ld1(g:Gr)(j:Nat)(e:List D):Option C:=match HW g j 1 e with|some [c]=>ς c|_=>ξ
theorem Yc{e:List D}{c:C}(h:ld1 g j e=ς c):∃xd,e[j]?=ς xd/\c=ldC g xd:=by
 unfold ld1 at h
 split at h
 .rename_i c' h1
  simp at h;subst h
  obtain⟨h2,h3⟩:=L1 h1
  have hj:j<e.length:=by omega
  refine⟨e[j],hV hj,?_⟩
  rw[adI hj,ado] at h2
  injection h2
 cases h
theorem JZ{e:List D}[ht:en P t n](hj:HW g j n e=ς cs):
 AWN P ⟨d,.load t x,ty,ps,af,gd⟩ [(x,.v (.c (.q g e j)))] [] (.v (.agg cs)) []:=by
 obtain⟨h1,h2⟩:=L1 hj
 subst h1
 exact Mh h2
theorem Vk{e:List D}{c:C}[ht:g9 P t](hc:ld1 g j e=ς c):AWN P ⟨d,.load t x,ty,ps,af,gd⟩ [(x,.v (.c (.q g e j)))] [] (.v (.c c)) []:=by
 obtain⟨xd,h1,rfl⟩:=Yc hc
 exact Yz h1
theorem KM{o:Nat}{rt:TypeId}{c:C}[ht:g9 P t](he:els[i]?=ς el)(hc:ld1 g j el=ς c):
 AWN P ⟨d,.load t x,ty,ps,af,gd⟩ [(x,.v (.c (.e o sz i j)))] [(o,.row rt sz els g m)] (.v (.c c)) []:=by
 obtain⟨xd,h1,rfl⟩:=Yc hc
 exact Yx he h1
theorem Bw{o:Nat}{rt:TypeId}[ht:en P t n](he:els[i]?=ς el)(hj:HW g j n el=ς cs):
 AWN P ⟨d,.load t x,ty,ps,af,gd⟩ [(x,.v (.c (.e o sz i j)))] [(o,.row rt sz els g m)] (.v (.agg cs)) []:=by
 obtain⟨h1,h2⟩:=L1 hj
 subst h1
 exact Mf he h2
theorem JW{r:List C}[h:TyF P t f off ft][ht:en P ft n](hr:Dl off n cs=ς r):AWN P ⟨d,.field t x f,ty,ps,af,gd⟩ [(x,.v (.agg cs))] [] (.v (.agg r)) []:=by
 obtain⟨h1,h2⟩:=Dm hr
 subst h1
 exact Me
def Env.new(E:Env)(l b c:Nat):Env:={E with r:=λo=>if o=l then ς (b,c) else E.r o}
theorem abj(ok:dr cx E w)(hl:E.r l=ξ)(hv:rsv l=η)(o:Obj)(c:Nat):
 dr cx (E.new l w.heap.size c) (w.alloc o)/\Ext E w (E.new l w.heap.size c) (w.alloc o):=by
 have hne:∀o' x,E.r o'=ς x->o'≠l:=λo' x h e=>by simp_all
 refine⟨⟨λb hb=>?_,ok.gf,ok.gn,λo' b c' h=>?_,λo1 o2 b c1 c2 h1 h2=>?_,ok.os,ok.tape,ok.output,?_,λb hb hW=>?_,λo' x hx h=>?_,ok.ff,λb h h'=>(ok.gc b h h').of_eq (Below.heap_alloc w o b (ok.fb b h)),ok.sf.grow rfl rfl (λ_ h=>.inl h) (λo' b c' h=>?_) (by simp) (λb hb=>Below.heap_alloc w o b hb)⟩,⟨λo' x h=>?_,λ_ h=>h,λ_ h=>h,λ_ h=>.inl h,λb hb=>Below.heap_alloc w o b hb,λ_ _ h=>h,λ_ _ h=>.inl h,rfl,rfl⟩⟩
 .have:=ok.fb b hb;simp;omega
 .simp only[Env.new] at h
  split at h
  .cases h;exact⟨by simp,.inl (.inl ok.size)⟩
  obtain⟨h3,h4⟩:=ok.rb o' b c' h;exact⟨by simp;omega,h4⟩
 .simp only[Env.new] at h1 h2
  split at h1<;>split at h2
  .omega
  .cases h1;have:=ok.rb o2 _ _ h2;omega
  .cases h2;have:=ok.rb o1 _ _ h1;omega
  exact ok.inj o1 o2 b c1 c2 h1 h2
 .have:=ok.size;simp;omega
 .have:=ok.size;rw[Below.heap_alloc w o b oaa];exact ok.block b hb hW
 .simp only[Env.new] at h
  split at h
  .rename_i e;subst e;rw[xT hv] at hx;cases hx
  exact ok.pin o' x hx h
 .simp only[Env.new] at h
  grind
 simp only[Env.new];grind
theorem LG(ok:dr cx E w)(hl:E.r l=ξ)(o:Obj)(c:Nat):Ext E w (E.new l w.heap.size c) (w.alloc o):=
 ⟨λo' x h=>by
  have hne:o'≠l:=λe=>by simp_all
  simp only[Env.new];simp_all,λ_ h=>h,λ_ h=>h,λ_ h=>.inl h,λb hb=>Below.heap_alloc w o b hb,λ_ _ h=>h,λ_ _ h=>.inl h,rfl,rfl⟩
theorem Bx(E:Env)(l b c:Nat):(E.new l b c).r l=ς (b,c):=by simp[Env.new]
theorem tW(w:World)(o:Obj):(w.alloc o).heap[w.heap.size]?=ς o:=heap_alloc_new w o
theorem CA{o:Oper}{needs:List (Operand×T)}{nb:Ob}(h:∀(cx:Cx) (E:Env) (a:Act) (w:World),dr cx E w->(∀x t,(x,t)∈needs->cvT E w t (a.eval x))->(∀l ob,(l,ob)∈nob->cN E w l ob)->E.r l=ξ->
 ∃v ob c,(execOp a.eval o).run P w= .ok (.value v) (w.alloc ob)/\cvT (E.new l w.heap.size c) (w.alloc ob) out v/\cN (E.new l w.heap.size c) (w.alloc ob) l nb):AWN P o needs nob out [(l,nb)]:=by
 intro cx E a w ok hn hb hl
 obtain⟨v,ob,c,hr,hv,ho⟩:=h cx E a w ok hn hb (hl l nb (by simp)).1
 obtain⟨ok',ext⟩:=abj ok (hl l nb (by simp)).1 (hl l nb (by simp)).2 ob c
 unfold Oper.wp
 rw[hr]
 refine⟨v,_,rfl,ok',ext,hv,λl' ob' hm=>?_,λl' x hx=>?_⟩
 .simp_all
 simp only[Env.new] at hx
 grind
theorem zE(ok:dr cx E w)(l c:Nat):¬(E.new l w.heap.size c).F w.heap.size:=λh=>by have:=ok.fb _ h;omega
theorem ab8{zs:List C}[hz:TyZ P t zs]:AWN P ⟨d,.alloc t,ty,ps,af,gd⟩ [] [] (.v (.c (.p l 0))) [(l,.var t zs)]:=
 CA λcx E a w ok _ _ hl=>by
  obtain⟨i,z,h1,h2,h3⟩:=hz.h
  refine⟨.pointer (ς ⟨w.heap.size,0,ξ⟩),.cells z.cells t,0,by simp[execOp,Instr.alloc,zeroValue,typeInfo,h1,h2,newVar,newRow],?_,?_⟩
  .exact⟨_,_,Bx _ _ _ _,rfl⟩
  refine⟨_,_,z.cells,Bx _ _ _ _,tW _ _,?_,zE ok _ _⟩
  rw[<-h3];exact vV _ _ _
theorem U8:AWN P ⟨d,.box t x,ty,ps,af,gd⟩ [(x,.v (.agg cs))] [] (.v (.c (.p l 0))) [(l,.var t cs)]:=
 CA λcx E a w ok hn _ hl=>by
  obtain⟨arr,hu,hcv⟩:=hn x _ (.head _)
  refine⟨.pointer (ς ⟨w.heap.size,0,ξ⟩),.cells arr t,0,by simp[execOp,Instr.box,hu,newVar,newRow,Value.cells],⟨_,_,Bx _ _ _ _,rfl⟩,?_⟩
  exact⟨_,_,arr,Bx _ _ _ _,tW _ _,s9 (.of_ext ok (LG ok hl _ 0)) hcv,zE ok _ _⟩
def C.sto:C->Bool
 | .any=>η
 |_=>ζ
theorem RF{c:C}(hs:c.sto=ζ)(h:cvC E w c u):u.oneCell'=ζ/\u.cells= #[u]:=by
 cases c with
 |d g x=>exact⟨kj (mw h),p6 (mw h)⟩
 |w o n=>obtain⟨b,c,_,rfl⟩:=h;exact⟨rfl,rfl⟩
 |wn o n=>
  rcases h with⟨_,_,rfl⟩|⟨_,b,c,_,rfl⟩
  .exact⟨rfl,rfl⟩
  exact⟨rfl,rfl⟩
 |s o sz off len=>obtain⟨A,c,b,k,_,rfl,_⟩:=h;exact⟨rfl,rfl⟩
 |p o k=>obtain⟨b,c,_,rfl⟩:=h;exact⟨rfl,rfl⟩
 |e o sz i j=>obtain⟨b,c,_,rfl⟩:=h;exact⟨rfl,rfl⟩
 |q g x j=>obtain⟨b,k,rfl,_⟩:=h;exact⟨rfl,rfl⟩
 |fn f=>subst h;exact⟨rfl,rfl⟩
 |nil=>subst h;exact⟨rfl,rfl⟩
 |any=>cases hs
 |r l x=>exact⟨kj h,p6 h⟩
 |z x=>exact Rm h
 |zq x j=>obtain⟨b,k,rfl,_⟩:=h;exact⟨rfl,rfl⟩
theorem ab9{c:C}(hs:c.sto=ζ):AWN P ⟨d,.box t x,ty,ps,af,gd⟩ [(x,.v (.c c))] [] (.v (.c (.p l 0))) [(l,.var t [c])]:=
 CA λcx E a w ok hn _ hl=>by
  have hu:cvC E w c (a.eval x):=hn x _ (.head _)
  obtain⟨h1,h2⟩:=RF hs hu
  refine⟨.pointer (ς ⟨w.heap.size,0,ξ⟩),.cells #[a.eval x] t,0,by simp[execOp,Instr.box,h2,newVar,newRow],⟨_,_,Bx _ _ _ _,rfl⟩,?_⟩
  exact⟨_,_,#[a.eval x],Bx _ _ _ _,tW _ _,⟨wb (.of_ext ok (LG ok hl _ 0)) hu,θ⟩,zE ok _ _⟩
def cD:C->Option (D×Bool)
 | .d (.b g) (.l xs)=>ς (.l xs,g)
 | .d _ (.i k n)=>ς (.i k n,ζ)
 | .d _ (.b b)=>ς (.b b,ζ)
 | .d _ (.str s)=>ς (.str s,ζ)
 | .d _ (.k A n c)=>ς (.k A n c,ζ)
 | .nil=>ς (.l [],ζ)
 |_=>ξ
def csD:List C->Option (List D×Bool)
 |[]=>ς ([],ζ)
 |c::cs=>match cD c,csD cs with
  |some (x,g),ς (xs,g')=>ς (x::xs,g&&g')
  |_,_=>ξ
def vD:V->Option (List D×Bool)
 | .c c=>match cD c with
  |some (x,g)=>ς ([x],g)
  |none=>ξ
 | .agg cs=>csD cs
theorem cD_ok(ok:dr cx E w){c:C}{x:D}{g:Bool}(h:cD c=ς (x,g))(hc:cvC E w c u):rdD w (E.H g) x u/\u.oneCell'=ζ/\u.cells= #[u]:=by
 cases c with
 |d g' x'=>
  refine⟨?_,kj (mw hc),p6 (mw hc)⟩
  cases g'<;>cases x'<;>simp[cD] at h<;>obtain⟨rfl,rfl⟩:=h<;>first|exact hc|(replace hc:=tk hc;simp only[rdD] at hc ⊢;exact hc)
 |nil=>
  simp[cD] at h
  obtain⟨rfl,rfl⟩:=h
  have hu:u= .slice ξ 0 0:=hc
  subst hu
  exact⟨by rw[rdD];simp_all,rfl,rfl⟩
 |_=>simp[cD] at h
theorem qX(ok:dr cx E w){g g':Bool}{x:D}(h:rdD w (E.H (g)) x u)(hg:g'=ζ->g=ζ):rdD w (E.H g') x u:=by
 cases g' with
 |true=>simp_all
 |false=>
  cases g with
  |false=>exact h
  |true=>exact bQ (λ_ _=>rfl) (λb hb=>ok.gf b hb) x u h
theorem W6{cx:Cx}{E:Env}{w:World}(ok:dr cx E w):∀{cs:List C} {xs:List D} {g:Bool} {us:Lae},csD cs=ς (xs,g)->CV E w cs us->
 xs.length=us.length/\(∀u∈us,u.oneCell'=ζ)/\∀(j:Nat) (xd:D),xs[j]?=ς xd->∃u,us[j]?=ς u/\rdD w (E.H g) xd u
 |[],xs,g,us,h,hc=>by
  simp[csD] at h;obtain⟨rfl,rfl⟩:=h
  cases us with
  |nil=>simp_all
  |cons _ _=>exact hc.elim
 |c::cs,xs,g,us,h,hc=>by
  cases us with
  |nil=>exact hc.elim
  |cons u us=>
   cases h1:cD c with
   |none=>simp[csD,h1] at h
   |some p=>
    obtain⟨x,g1⟩:=p
    cases h2:csD cs with
    |none=>simp[csD,h1,h2] at h
    |some p=>
     obtain⟨xs',g2⟩:=p
     simp[csD,h1,h2] at h
     obtain⟨rfl,rfl⟩:=h
     obtain⟨k1,k2,k3⟩:=cD_ok ok h1 hc.1
     obtain⟨m1,m2,m3⟩:=W6 ok h2 hc.2
     refine⟨by simp[m1],by simp_all,λj xd hj=>?_⟩
     cases j with
     |zero=>simp at hj;subst hj;exact⟨u,rfl,qX ok k1 (by simp_all)⟩
     |succ j=>
      obtain⟨v,n1,n2⟩:=m3 j xd (by simp_all)
      exact⟨v,by simp_all,qX ok n2 (by simp)⟩
theorem aah(ok:dr cx E w){xs:List D}{g:Bool}(h:vD v=ς (xs,g))(hv:cvV E w v u):
 u.cells.size=xs.length/\(∀c∈u.cells.toList,c.oneCell'=ζ)/\∀(j:Nat) (xd:D),xs[j]?=ς xd->∃c,u.cells[j]?=ς c/\rdD w (E.H g) xd c:=by
 cases v with
 |c c=>
  cases h1:cD c with
  |none=>simp[vD,h1] at h
  |some p=>
   obtain⟨x,g1⟩:=p
   simp[vD,h1] at h
   obtain⟨rfl,rfl⟩:=h
   obtain⟨k1,k2,k3⟩:=cD_ok ok h1 hv
   grind
 |agg cs=>
  obtain⟨arr,rfl,hc⟩:=hv
  obtain⟨m1,m2,m3⟩:=W6 ok h hc
  refine⟨by simpa [Value.cells] using m1.symm,by simpa [Value.cells] using m2,λj xd hj=>?_⟩
  obtain⟨c,n1,n2⟩:=m3 j xd hj
  exact⟨c,by simpa [Value.cells] using n1,n2⟩
end
class TyB(P:Program)(t:TypeId)(pl:outParam Lac):Prop where
 h:∃fs,P.underlying t=ς (.struct fs)/\∀w,(fs.mapM (λf=>Prod.mk f.offset<$>sizeOf f.type):Sem (Array (Nat×Nat))).run P w= .ok pl.toArray w
def sa:Lae->Option (List D)
 |[]=>ς []
 | .int k n::r=>match sa r with|some xs=>ς (.i k n::xs)|none=>ξ
 | .bool b::r=>match sa r with|some xs=>ς (.b b::xs)|none=>ξ
 | .string s::r=>match sa r with|some xs=>ς (.str s::xs)|none=>ξ
 | .slice ξ 0 0::r=>match sa r with|some xs=>ς (.l []::xs)|none=>ξ
 |_=>ξ
class TyE(P:Program)(e:TypeId)(zd:outParam (List D)):Prop where
 h:∃i z,P.info? e=ς i/\i.zero=ς z/\sa z.cells.toList=ς zd
theorem BE{w:World}{F:Nat->Prop}:∀{us:Lae} {xs:List D},sa us=ς xs->us.length=xs.length/\∀(j:Nat) (xd:D),xs[j]?=ς xd->∃u,us[j]?=ς u/\rdD w F xd u
 |[],xs,h=>by simp[sa] at h;simp_all
 |u::us,xs,h=>by
  have key:∃x xs',xs=x::xs'/\sa us=ς xs'/\rdD w F x u:=by
   unfold sa at h
   split at h
   .simp at*
   .rename_i e;injection e with e1 e2;subst e1;subst e2;split at h
    .rename_i r h1;simp at h;exact⟨_,r,h.symm,h1,by simp[rdD]⟩
    cases h
   .rename_i e;injection e with e1 e2;subst e1;subst e2;split at h
    .rename_i r h1;simp at h;exact⟨_,r,h.symm,h1,by simp[rdD]⟩
    cases h
   .rename_i e;injection e with e1 e2;subst e1;subst e2;split at h
    .rename_i r h1;simp at h;exact⟨_,r,h.symm,h1,by simp[rdD]⟩
    cases h
   .rename_i e;injection e with e1 e2;subst e1;subst e2;split at h
    .rename_i r h1;simp at h;exact⟨_,r,h.symm,h1,by rw[rdD];simp_all⟩
    cases h
   cases h
  obtain⟨x,xs',rfl,h1,h2⟩:=key
  obtain⟨k1,k2⟩:=BE (w:=w) (F:=F) h1
  grind
def vcs:V->Option (List C)
 | .c c=>match c.sto with|true=>ς [c]|false=>ξ
 | .agg cs=>ς cs
theorem M5(h:vcs v=ς cs)(hv:cvV E w v u):CV E w cs u.cells.toList:=by
 cases v with
 |c c=>
  simp only[vcs] at h
  cases hs:c.sto with
  |false=>simp_all
  |true=>simp[hs] at h;subst h;obtain⟨_,h2⟩:=RF hs hv;rw[h2];exact⟨hv,θ⟩
 |agg cs'=>simp[vcs] at h;subst h;obtain⟨arr,rfl,hc⟩:=hv;exact hc
def Ke(pl:Lac):List C->List (Nat×V)->Option (List C)
 |cs,[]=>ς cs
 |cs,(i,v)::r=>match pl[i]?,vcs v with
  |some (off,n),ς ns=>match fW ns.length n,mI off ns cs with
   |true,ς cs'=>Ke pl cs' r
   |_,_=>ξ
  |_,_=>ξ
def PV(E:Env)(w:World):List (Nat×V)->List (Nat×Value)->Prop
 |[],[]=>True
 |(i,v)::r,(j,u)::s=>i=j/\cvV E w v u/\PV E w r s
 |_,_=>False
theorem D2{ns r:List C}{us vs ws:Lae}(h:mI off ns cs=ς r)(hn:CV E w ns us)(hc:CV E w cs vs)(hl:ws.length=vs.length)(hw:∀k,ws[k]?=if off<=k/\k<off+us.length then us[k-off]? else vs[k]?):CV E w r ws:=by
 have hln:=jt hn
 have hlc:=jt hc
 refine CV_of ?_ λk c hk=>?_
 .obtain⟨h1,h2⟩:=qH h;grind
 rw[Je h k] at hk
 rw[hw k,hln]
 split at hk
 .rename_i hi;rw[if_pos hi];exact J8 hn hk
 rename_i hi;rw[if_neg hi];exact J8 hc hk
theorem Ss{E:Env}{w:World}{pl:Lac}:∀{ps:List (Nat×V)} {us:List (Nat×Value)} {cs r:List C} {arr:Array Value},PV E w ps us->CV E w cs arr.toList->Ke pl cs ps=ς r->
 ∃arr',Instr.fill (pl.toArray[·]?) arr us=ς arr'/\CV E w r arr'.toList
 |[],[],cs,r,arr,_,hc,h=>by simp[Ke] at h;subst h;exact⟨arr,rfl,hc⟩
 |(i,v)::ps,(j,u)::us,cs,r,arr,hp,hc,h=>by
  obtain⟨rfl,hv,hp⟩:=hp
  simp only[Ke] at h
  split at h
  .rename_i off n ns h1 h2
   split at h
   .rename_i cs' h3 h4
    have h3':=aat h3
    have hcn:=M5 h2 hv
    have hl:=jt hcn
    have hlc:=jt hc
    obtain⟨g1,g2⟩:=Go.Great.foldl_set off u.cells.toList 0 arr
    have hsz:u.cells.size=n:=by simp at hl;omega
    have hle:=(qH h4).2
    have hsp:CV E w cs' ((u.cells.toList.zipIdx 0).foldl (λcs (x:Value×Nat)=>cs.setIfInBounds (off+x.2) x.1) arr).toList:=by
     refine D2 h4 hcn hc (by simp[g1]) λk=>?_
     rw[Array.getElem?_toList,g2 k]
     simp only[adC]
     by_cases hk:off<=k/\k<off+u.cells.toList.length
     .grind
     grind
    obtain⟨arr',k1,k2⟩:=Ss (pl:=pl) hp hsp h
    refine⟨arr',?_,k2⟩
    rw[<-k1]
    conv=>lhs;unfold Instr.fill
    have hpl:pl.toArray[i]?=ς (off,n):=by simpa using h1
    simp only[hpl]
    rw[if_neg (by simp_all)]
    congr 1
    rw[<-Array.foldl_toList,Array.toList_zipIdx]
   cases h
  cases h
 |[],_::_,_,_,_,hp,_,_=>hp.elim
 |_::_,[],_,_,_,hp,_,_=>hp.elim
section
variable{P:Program}{N:Nat}{d:Option Tmp}{ty:TypeId}{ps:String}{af:Array Edge}{gd:Option (Nat×Bool)}{x y z:Operand}
theorem WF{E:Env}{a:Act}{w:World}:∀{parts:List (Nat×Operand)} {vs:List V},vs.length=parts.length->(∀x t,(x,t)∈(parts.map (·.2)).zip (vs.map T.v)->cvT E w t (a.eval x))->
 PV E w ((parts.map (·.1)).zip vs) (parts.map λp=>(p.1,a.eval p.2))
 |[],[],_,_=>trivial
 |(i,x)::ps,v::vs,hl,h=>⟨rfl,h x (.v v) (by simp),WF (by simp_all) λx t hm=>h x t (by simp_all)⟩
 |[],_::_,hl,_=>by simp at hl
 |_::_,[],hl,_=>by simp at hl
theorem aca{zs:List C}{pl:Lac}{parts:List (Nat×Operand)}[hz:TyZ P t zs][hb:TyB P t pl](hv:vs.length=parts.length)(h:Ke pl zs ((parts.map (·.1)).zip vs)=ς cs):AWN P ⟨d,.build t parts.toArray,ty,ps,af,gd⟩ ((parts.map (·.2)).zip (vs.map T.v)) [] (.v (.agg cs)) []:=
 cA λE a w hn _=>by
  obtain⟨i,z,h1,h2,h3⟩:=hz.h
  obtain⟨fs,h4,h5⟩:=hb.h
  obtain⟨arr',k1,k2⟩:=Ss (arr:=z.cells) (WF hv hn) (by rw[<-h3];exact vV _ _ _) h
  refine⟨.agg arr',?_,arr',rfl,k2⟩
  have k1':Instr.fill (λx=>pl[x]?) z.cells (List.map (λp=>(p.fst,a.eval p.snd)) parts)=ς arr':=by simpa using k1
  simp[execOp,Instr.build,zeroValue,typeInfo,h1,h2,underlying,h4,h5,k1']
def vsD:List V->Option (Lad×Bool)
 |[]=>ς ([],ζ)
 |v::vs=>match vD v,vsD vs with
  |some (e,g),ς (es,g')=>ς (e::es,g&&g')
  |_,_=>ξ
theorem aaj{cx:Cx}{E:Env}{w:World}(ok:dr cx E w):∀{vs:List V} {els:Lad} {g:Bool},vsD vs=ς (els,g)->els.length=vs.length/\
 ∀(i:Nat) (e:List D),els[i]?=ς e->∃v g',vs[i]?=ς v/\vD v=ς (e,g')/\(g=ζ->g'=ζ)
 |[],els,g,h=>by simp[vsD] at h;simp_all
 |v::vs,els,g,h=>by
  cases h1:vD v with
  |none=>simp[vsD,h1] at h
  |some p=>
   obtain⟨e,g1⟩:=p
   cases h2:vsD vs with
   |none=>simp[vsD,h1,h2] at h
   |some p=>
    obtain⟨es,g2⟩:=p
    simp[vsD,h1,h2] at h
    obtain⟨rfl,rfl⟩:=h
    obtain⟨k1,k2⟩:=aaj ok h2
    grind
def UR(sz:Nat):Lad->Bool
 |[]=>ζ
 |e::es=>fW e.length sz&&UR sz es
theorem SU{sz:Nat}:∀{els:Lad},UR sz els=ζ->∀e∈els,e.length=sz
 |e::es,h,e',hm=>by
  simp only[UR,f4] at h
  rcases aa2.1 hm with rfl|hm
  .simp_all
  exact SU h.2 e' hm
theorem Dh{len:Nat}{parts:List (Nat×Operand)}{g:Bool}[ht:dz P t e sz by_](hlen:len=parts.length)(hv:vs.length=parts.length)(hi:parts.map (·.1)=f6 len)(he:vsD vs=ς (els,g))(hs:UR sz els=ζ)(h24:len*sz<=16777216):
 AWN P ⟨d,.buildSlice t len parts.toArray,ty,ps,af,gd⟩ ((parts.map (·.2)).zip (vs.map T.v)) [] (.v (.c (.w l len))) [(l,.row e sz els g ζ)]:=
 CA λcx E a w ok hn _ hl=>by
  subst hlen
  have hsz:=SU hs
  obtain⟨ii,zz,i1,i2,i3,i4,i5⟩:=ht.i
  obtain⟨m1,m2⟩:=aaj ok he
  have hval:∀(i:Nat) (v:V),vs[i]?=ς v->∃p,parts[i]?=ς p/\cvV E w v (a.eval p.2):=by
   intro i v hi
   have hlt:i<vs.length:=(f5.1 hi).1
   have hp:i<parts.length:=by omega
   refine⟨parts[i],hV hp,hn parts[i].2 (.v v) ?_⟩
   refine v0 (i:=i) ?_
   rw[List.getElem?_zip_eq_some]
   simp[hi,hp]
  have hcell:∀p∈parts,(a.eval p.2).cells.size=sz:=by
   intro p hp
   obtain⟨i,hi⟩:=ac7 hp
   have hlt:i<parts.length:=(f5.1 hi).1
   obtain⟨v,hv'⟩:∃v,vs[i]?=ς v:=⟨_,hV oaa⟩
   obtain⟨e',he'⟩:∃e',els[i]?=ς e':=⟨_,hV oaa⟩
   obtain⟨v2,g',n1,n2,n3⟩:=m2 i e' he'
   rw[hv'] at n1;cases n1
   obtain⟨p',q1,q2⟩:=hval i v hv'
   rw[hi] at q1;cases q1
   rw[(aah ok n2 q2).1];exact hsz e' (v0 he')
  have hparts:(parts.map λp=>(p.1,a.eval p.2))=(((parts.map λp=>a.eval p.2).zipIdx 0).map λx=>(x.2,x.1)):=by
   apply List.ext_getElem?
   intro i
   simp only[ada,List.getElem?_zipIdx]
   cases hp:parts[i]? with
   |none=>simp
   |some p=>
    have:(parts.map (·.1))[i]?=ς p.1:=by simp[hp]
    grind
  obtain⟨r,f1,f2,f3⟩:=Go.Great.fill_dense (s:=sz) ht.p (parts.map λp=>a.eval p.2) 0 ((Array.range (parts.length*sz)).map ((if parts.length*sz=0 then #[] else zz.cells)[· %(if parts.length*sz=0 then #[] else zz.cells).size]!))
   (by grind) (by simp)
  refine⟨.slice (ς ⟨w.heap.size,0,ξ⟩) parts.length parts.length,.cells r e,parts.length,?_,⟨_,_,Bx _ _ _ _,rfl⟩,?_⟩
  .have hroom:¬parts.length*ii.size>2^24:=by rw[i2];omega
   by_cases h0:parts.length*sz=0
   .simp only[execOp,Instr.buildSlice]
    simp[underlying,ht.u,ey i1,i2,h0,newRow]
    simp_all
   simp only[execOp,Instr.buildSlice]
   have hroom':¬16777216<parts.length*sz:=by omega
   simp only[h0,if_false] at f1
   rw[<-hparts] at f1
   simp[underlying,ht.u,ey i1,i2,h0,hroom',newRow,zeroValue,typeInfo,i1,i4,f1]
  refine⟨_,_,r,Bx _ _ _ _,tW _ _,by simp[f2],by omega,?_,hsz,?_,λ_=>zE ok _ _,(λh=>by cases h),θ⟩
  .have:=ht.p
   have:parts.length<=parts.length*sz:=Nat.le_mul_of_pos_right _ this
   unfold maxLen;omega
  refine AY hsz λi e' hi'=>mG λj xd hj=>?_
  obtain⟨v,g',n1,n2,n3⟩:=m2 i e' hi'
  obtain⟨p,q1,q2⟩:=hval i v n1
  obtain⟨r1,r2,r3⟩:=aah ok n2 q2
  obtain⟨c,s1,s2⟩:=r3 j xd hj
  have hjs:j<sz:=by rw[<-hsz e' (v0 hi')];exact(f5.1 hj).1
  have hil:i<parts.length:=(f5.1 q1).1
  refine⟨c,?_,?_⟩
  .rw[dX (tW w _),f3]
   have hlt:0+i*sz+j<(0+(parts.map λp=>a.eval p.2).length)*sz:=by
    simp only[adb,aa5]
    calc i*sz+j<i*sz+sz:=by omega
     _=(i+1)*sz:=by grind
     _<=parts.length*sz:=adh _ hil
   rw[if_pos ⟨by simp,hlt⟩]
   have hdiv:(0+i*sz+j)/sz=i:=by
    rw[aa5,adL,Nat.add_mul_div_right _ _ ht.p,Nat.div_eq_of_lt hjs];omega
   have hmod:(0+i*sz+j)%sz=j:=by
    rw[aa5,adL,adO];exact adM hjs
   simp_all
  have h9:=qX ok s2 n3
  exact bQ (λb hb=>Below.heap_alloc _ _ b (ok.hb hb)) (λb hb=>(LG ok hl (.cells r e) parts.length).H hb) _ _ h9
theorem n_make{zd:List D}{k k':IntKind}{c:Int}[ht:dz P t e sz by_][he:TyE P e zd](hc:n<=c)(hb:(by_:Int)*c<=281474976710656)(h63:c<=9223372036854775807):
 AWN P ⟨d,.makeSlice t x y,ty,ps,af,gd⟩ [(x,.v (.c (.d g (.i k n)))),(y,.v (.c (.d g' (.i k' c))))] [] (.v (.c (.w l n))) [(l,.row e sz (aal n zd) ζ ζ)]:=
 CA λcx E a w ok hn _ hl=>by
  obtain⟨ii,zz,i1,i2,i3,i4,i5⟩:=ht.i
  obtain⟨i',z',j1,j2,j3⟩:=he.h
  rw[i1] at j1;cases j1
  rw[i4] at j2;cases j2
  have h1:=ic (hn x _ (.head _))
  have h2:=ic (hn y _ (.tail _ (.head _)))
  have hzl:=(BE (w:=w) (F:=λ_=>True) j3).1
  have hzd:zd.length=sz:=by rw[<-hzl];simpa using i5
  have hsz:∀x∈aal n zd,x.length=sz:=λx hx=>by simp_all
  refine⟨.slice (ς ⟨w.heap.size,0,ξ⟩) n c.toNat,.cells (madeCells zz.cells (c.toNat*sz)) e,c.toNat,?_,⟨_,_,Bx _ _ _ _,rfl⟩,?_⟩
  .have:=run_make (P:=P) w t e ii zz ht.u i1 i4 k k' n c oaa hc (by simp_all) h63
   simp[execOp,h1,h2,this,i2]
  refine⟨_,_,_,Bx _ _ _ _,tW _ _,by simp[size_madeCells],by simp;omega,by unfold maxLen;omega,hsz,?_,λ_=>zE ok _ _,(λh=>by cases h),θ⟩
  refine AY hsz λi e' hi'=>mG λj xd hj=>?_
  have hin:i<n:=by simpa using(f5.1 hi').1
  have he':e'=zd:=List.eq_of_mem_replicate (v0 hi')
  subst he'
  obtain⟨u,u1,u2⟩:=(BE (w:=w.alloc (.cells (madeCells zz.cells (c.toNat*sz)) e)) (F:=(E.new l w.heap.size c.toNat).H ζ) j3).2 j xd hj
  have hjs:j<sz:=by rw[<-hzd];exact(f5.1 hj).1
  refine⟨u,?_,u2⟩
  rw[dX (tW w _)]
  have hlt:0+i*sz+j<c.toNat*sz:=by
   calc 0+i*sz+j<i*sz+sz:=by omega
    _=(i+1)*sz:=by grind
    _<=c.toNat*sz:=adh _ oaa
  have hmod:(0+i*sz+j)%zz.cells.size=j:=by
   rw[i5,aa5,adL,adO];exact adM hjs
  have hzj:zz.cells[j]?=ς u:=by simpa using u1
  have hzs:j<zz.cells.size:=by rw[i5];exact hjs
  simp only[madeCells,Array.getElem?_map,Array.getElem?_range,if_pos hlt,Option.map_some,hmod]
  simp_all
end
class TyN(P:Program)(t:TypeId)(n:outParam Nat):Prop where
 n:∃i,P.info? t=ς i/\i.size=n
theorem dP(w:World)(b k:Nat)(cs:Array Value)(h:k≠b):(w.setRow b cs).heap[k]?=w.heap[k]?:=by
 simp only[World.setRow,Array.getElem?_modify]
 grind
theorem g8{arr:Array Value}(cs:Array Value)(h:w.heap[b]?=ς (.cells arr t (0,0))):(w.setRow b cs).heap[b]?=ς (.cells cs t (0,0)):=
 setRow_heap w b arr cs t (0,0) h
section
variable{P:Program}{N:Nat}{d:Option Tmp}{ty:TypeId}{ps:String}{af:Array Edge}{gd:Option (Nat×Bool)}{x y z:Operand}{st:St}
theorem mc{o c:Nat}{cs:Array Value}(ok:dr cx E w)(hr:E.r o=ς (b,c))(hF:¬E.F b):iG E w E (w.setRow b cs):=
 ⟨λ_ _ h=>h,λ_ _ h=>h,λg k hk=>dP w b k cs (λe=>by
  subst e
  cases g
  .exact hF hk
  .exact hF (ok.gf _ hk)),λl k hk=>⟨hk,dP w b k cs (λe=>by subst e;exact(ok.sf.tb l k hk).2.2.1 o c hr)⟩,
  λk hk=>⟨hk,.of_eq (dP w b k cs (λe=>by subst e;exact(ok.sf.zb k hk).2.2.1 o c hr))⟩,rfl⟩
theorem Ba.setRow{o c:Nat}{cs:Array Value}(s:Ba cx E w)(hr:E.r o=ς (b,c)):Ba cx E (w.setRow b cs):=by
 have hsz:(w.setRow b cs).heap.size=w.heap.size:=by simp
 refine⟨λl k h=>?_,s.tt,λk h=>?_,λk h=>?_,s.ze⟩
 .obtain⟨h1,h2,h3,h4⟩:=s.tb l k h
  exact⟨⟨by rw[hsz];exact h1.1,h1.2⟩,h2,h3,h4.of_eq (dP w b k cs (λe=>by simp_all))⟩
 .obtain⟨h1,h2,h3,h4⟩:=s.zc k h
  exact⟨by simp_all,h2,h3,h4.of_eq (dP w b k cs (λe=>by simp_all))⟩
 obtain⟨h1,h2,h3,h4⟩:=s.zc k h
 exact(s.zs k h).trans (.of_eq (dP w b k cs (λe=>by simp_all)))
theorem ud{o c:Nat}{ob':Ob}{cs:Array Value}(hR:Rel N cx E st a w)(hr:E.r o=ς (b,c))(hF:¬E.F b)(h':cN E (w.setRow b cs) o ob'):Rel N cx E ⟨st.sl,(o,ob')::st.ob,st.nx⟩ a (w.setRow b cs):=by
 have hk:=mc (cs:=cs) (w:=w) hR.ok hr hF
 have hsz:(w.setRow b cs).heap.size=w.heap.size:=by simp
 refine⟨⟨λk hk=>by rw[hsz];exact hR.ok.fb k hk,hR.ok.gf,hR.ok.gn,λo b c h=>by rw[hsz];exact hR.ok.rb o b c h,hR.ok.inj,hR.ok.os,hR.ok.tape,hR.ok.output,by rw[hsz];exact hR.ok.size,λk hk hW=>?_,hR.ok.pin,hR.ok.ff,λk hg hk'=>(hR.ok.gc k hg hk').of_eq (dP w b k cs (λe=>hF (by simp_all))),hR.ok.sf.setRow hr⟩,hR.dom,λl ob hl=>?_,λk=>jx hk (hR.sl k),hR.dfr,hR.size,hR.td⟩
 .rw[dP _ _ _ _ (λe=>by
   subst e
   rcases hR.ok.rw hr with h|h
   .omega
   simp_all)]
  exact hR.ok.block k hk hW
 by_cases ho:o=l
 .subst ho;rw[bX] at hl;simp_all
 rw[bg _ _ ho] at hl
 exact fG hk (λb' c' h=>dP _ _ _ _ (λe=>ho (by subst e;exact hR.ok.inj _ _ _ _ _ hr h))) (λ_ _ _ h=>h) (hR.obs l ob hl)
theorem vu{arr:Array Value}[ht:TyN P t n](hu:u.cells.size=n)(h1:∀c∈u.cells.toList,c.oneCell'=ζ)(hh:w.heap[b]?=ς (.cells arr vt (0,0)))(hk:k+n<=arr.size):
 (Instr.storeAt t (.pointer (ς ⟨b,k,ξ⟩)) u).run P w= .ok () (w.setRow b (arr.toList.take k++u.cells.toList++arr.toList.drop (k+n)).toArray):=by
 obtain⟨i,hi,hn⟩:=ht.n
 have:=run_storeCells_at (P:=P) b k vt u.cells.toList 0 arr w hh (by simp_all) h1
 simp only[adC,Array.length_toList,hu] at this
 simp[Instr.storeAt,Instr.sureAddr,storeVar,ey hi,hn,hu,this]
theorem WC{ns:List C}(h:vcs v=ς ns)(hs:ns.all C.sto=ζ)(hv:cvV E w v u):∀c∈u.cells.toList,c.oneCell'=true:=by
 have hc:=M5 h hv
 have key:∀(ns:List C) (us:Lae),ns.all C.sto=ζ->CV E w ns us->∀c∈us,c.oneCell'=true:=by
  intro ns
  induction ns with
  |nil=>intro us _ hc;cases us with
   |nil=>simp
   |cons _ _=>exact hc.elim
  |cons n ns ih=>
   intro us hs hc
   cases us with
   |nil=>exact hc.elim
   |cons u us=>
    simp only[adm,f4] at hs
    intro c hm
    rcases aa2.1 hm with rfl|hm
    .exact(RF hs.1 hc.1).1
    exact ih us hs.2 hc.2 c hm
 grind
theorem mW{us vs:Lae}(hn:us.length=n)(hk:k+n<=vs.length)(i:Nat):(vs.take k++us++vs.drop (k+n))[i]?=if k<=i/\i<k+us.length then us[i-k]? else vs[i]?:=by
 subst hn
 have hk':(vs.take k).length=k:=by simp;omega
 grind
theorem Vp{o:Nat}{cs' ns:List C}[ht:TyN P t n](hx:opT st.sl x= .v (.c (.p o k)))(hy:opT st.sl y= .v v)(ho:go st.ob o=ς (.var vt cs))(hv:vcs v=ς ns)(hn:fW ns.length n=ζ)(hst:ns.all C.sto=ζ)(hs:mI k ns cs=ς cs'):AWO P N ⟨ξ,.store t x y,ty,ps,af,gd⟩ st ⟨st.sl,(o,.var vt cs')::st.ob,st.nx⟩:=by
 intro cx E a w hR
 have h1:=hR.op x;rw[hx] at h1
 have h2:=hR.op y;rw[hy] at h2
 obtain⟨b,c,hr,hu⟩:=h1
 obtain⟨b',c',arr,hr',hh,hcv,hF⟩:=hR.obs o _ ho
 rw[hr] at hr';cases hr'
 have hvc:=M5 hv h2
 have hl1:=jt hvc
 have hl2:=jt hcv
 have hnn:=aat hn
 have hle:=(qH hs).2
 have hsz:(a.eval y).cells.size=n:=by simp at hl1;omega
 have hrun:=vu (P:=P) (t:=t) (n:=n) (k:=k) hsz (WC hv hst h2) hh (by simp_all)
 unfold Oper.wp
 simp only[execOp,hu,Sem.run_bind,hrun,Result.andThen_ok,Sem.run_pure,Oper.upon_skip,Act.put]
 refine⟨E,ud hR hr hF ⟨b,c,_,hr,g8 _ hh,?_,hF⟩⟩
 have hk:=mc (cs:=(arr.toList.take k++(a.eval y).cells.toList++arr.toList.drop (k+n)).toArray) (w:=w) hR.ok hr hF
 refine s9 hk (D2 hs hvc hcv ?_ λi=>?_)
 .grind
 rw[show(arr.toList.take k++(a.eval y).cells.toList++arr.toList.drop (k+n)).toArray.toList=arr.toList.take k++(a.eval y).cells.toList++arr.toList.drop (k+n) from rfl]
 exact mW oaa oaa i
theorem eN{w:World}{F:Nat->Prop}:∀{xs:Lad} {b k:Nat},rdLL w F xs b k↔rdL w F xs.flatten b k
 |[],b,k=>by rfl
 |e::es,b,k=>by
  rw[rdLL,eN,adr]
  constructor
  .rintro⟨h1,h2⟩
   refine mG λj d hj=>?_
   by_cases hje:j<e.length
   .rw[aa8 hje] at hj;exact iz h1 hj
   rw[aa3 oaa] at hj
   have:=iz h2 hj
   grind
  intro h
  refine⟨mG λj d hj=>?_,mG λj d hj=>?_⟩
  .have hje:j<e.length:=(f5.1 hj).1
   exact iz h (by grind)
  have:=iz (j:=e.length+j) h (by rw[aa3 oaa];simpa using hj)
  grind
theorem eF{xs:Lad}(h:∀e∈xs,e.length=sz):xs.flatten.length=xs.length*sz:=by
 rw[List.length_flatten];exact T5 h
theorem Hn{sz:Nat}(hp:0<sz):∀{xs:Lad} (h:∀e∈xs,e.length=sz) (i j:Nat),j<sz->xs.flatten[i*sz+j]?=(xs[i]?).bind (·[j]?)
 |[],_,i,j,_=>by simp
 |e::es,h,0,j,hj=>by
  grind
 |e::es,h,i+1,j,hj=>by
  have he:e.length=sz:=h e (by simp)
  rw[adr,aa3 (by grind),he,show(i+1)*sz+j-sz=i*sz+j from by grind,
   Hn hp (λx hx=>h x (by simp[hx])) i j hj]
  simp
theorem Vo{o:Nat}{rt:TypeId}{el' ns:List D}{g g':Bool}[ht:TyN P t n](hx:opT st.sl x= .v (.c (.e o sz i j)))(hy:opT st.sl y= .v v)(ho:go st.ob o=ς (.row rt sz els g ζ))(hv:vD v=ς (ns,g'))(hn:fW ns.length n=ζ)(he:els[i]?=ς el)(hs:mI j ns el=ς el'):
 AWO P N ⟨ξ,.store t x y,ty,ps,af,gd⟩ st ⟨st.sl,(o,.row rt sz (els.set i el') (g&&g') ζ)::st.ob,st.nx⟩:=by
 intro cx E a w hR
 have h1:=hR.op x;rw[hx] at h1
 have h2:=hR.op y;rw[hy] at h2
 obtain⟨b,c,hr,hu⟩:=h1
 obtain⟨b',c',arr,hr',hh,ha,hlc,hmx,hes,hrd,hFm,_⟩:=hR.obs o _ ho
 rw[hr] at hr';cases hr'
 have hF:=hFm rfl
 obtain⟨v1,v2,v3⟩:=aah hR.ok hv h2
 have hnn:=aat hn
 have hil:i<els.length:=(f5.1 he).1
 have hel:el.length=sz:=hes el (v0 he)
 obtain⟨hsp,hle⟩:=qH hs
 have hel':el'.length=sz:=by rw[hsp];simp;omega
 have hbound:i*sz+j+n<=arr.size:=by
  rw[ha]
  calc i*sz+j+n<=i*sz+sz:=by omega
   _=(i+1)*sz:=by grind
   _<=c*sz:=adh _ oaa
 have hrun:=vu (P:=P) (t:=t) (n:=n) (k:=i*sz+j) oaa v2 hh hbound
 unfold Oper.wp
 simp only[execOp,hu,Sem.run_bind,hrun,Result.andThen_ok,Sem.run_pure,Oper.upon_skip,Act.put]
 have hk:=mc (cs:=(arr.toList.take (i*sz+j)++(a.eval y).cells.toList++arr.toList.drop (i*sz+j+n)).toArray) (w:=w) hR.ok hr hF
 have hes':∀e∈els.set i el',e.length=sz:=λe hm=>by
  grind
 refine⟨E,ud hR hr hF ⟨b,c,_,hr,g8 _ hh,?_,by simp_all,hmx,hes',?_,λ_=>hF,(λh=>by cases h),θ⟩⟩
 .grind
 refine AY hes' λi' e' hi'=>mG λj' xd hj'=>?_
 rw[dX (g8 _ hh)]
 have hj'l:j'<sz:=by rw[<-hes' e' (v0 hi')];exact(f5.1 hj').1
 rw[List.getElem?_toArray,mW (by simp;omega) (by simp;omega)]
 have hlen:(a.eval y).cells.toList.length=n:=by simp;omega
 rw[hlen,aa5]
 rw[List.getElem?_set] at hi'
 by_cases hii:i=i'
 .subst hii
  rw[if_pos rfl,if_pos hil] at hi'
  cases hi'
  rw[Je hs] at hj'
  by_cases hin:j<=j'/\j'<j+ns.length
  .rw[if_pos hin] at hj'
   obtain⟨u,u1,u2⟩:=v3 _ _ hj'
   refine⟨u,?_,?_⟩
   .grind
   exact bQ (hk.heap _) (hk.H _) _ _ (qX hR.ok u2 (by simp))
  rw[if_neg hin] at hj'
  obtain⟨u,u1,u2⟩:=iz (sH hrd hes he) hj'
  refine⟨u,?_,?_⟩
  .rw[if_neg oaa];rw[dX hh] at u1;simp_all
  exact bQ (hk.heap _) (hk.H _) _ _ (qX hR.ok u2 (by simp_all))
 rw[if_neg hii] at hi'
 obtain⟨u,u1,u2⟩:=iz (sH hrd hes hi') hj'
 refine⟨u,?_,?_⟩
 .have hel'':j'<sz:=hj'l
  rw[if_neg ?_]
  .rw[dX hh] at u1;simp_all
  rintro⟨k1,k2⟩
  rcases Nat.lt_or_gt_of_ne hii with h|h
  .have:(i+1)*sz<=i'*sz:=adh _ h
   grind
  have:(i'+1)*sz<=i*sz:=adh _ h
  grind
 exact bQ (hk.heap _) (hk.H _) _ _ (qX hR.ok u2 (by simp_all))
end
def C.has(o:Nat):C->Bool
 | .w l _| .s l _ _ _| .p l _| .e l _ _ _| .wn l _=>fW l o
 |_=>η
def Kx(o:Nat):List C->Bool
 |[]=>η
 |c::cs=>c.has o||Kx o cs
def V.has(o:Nat):V->Bool
 | .c x=>x.has o
 | .agg cs=>Kx o cs
def SA(o:Nat):List V->Bool
 |[]=>η
 |c::cs=>c.has o||SA o cs
def T.has(o:Nat):T->Bool
 | .v x=>x.has o
 | .tup ts=>SA o ts
 | .any=>η
def nX(o:Nat):Lab->Option Lab
 |[]=>ς []
 |(k,t)::r=>match nX o r,t.has o with
  |some r',ζ=>ς ((k,.any)::r')
  |some r',η=>ς ((k,t)::r')
  |none,_=>ξ
def Fi(o:Nat):List C->Option (List C)
 |[]=>ς []
 |c::r=>match Fi o r,c.has o with
  |some r',ζ=>ς (.any::r')
  |some r',η=>ς (c::r')
  |none,_=>ξ
def jE(o:Nat):Laa->Option Laa
 |[]=>ς []
 |(k,.var t cs)::r=>match jE o r,Fi o cs with
  |some r',ς cs'=>ς ((k,.var t cs')::r')
  |_,_=>ξ
 |(k,.row t sz els g m)::r=>match jE o r with
  |some r'=>ς ((k,.row t sz els g m)::r')
  |none=>ξ
 |(k,.rown t sz els g)::r=>match jE o r with
  |some r'=>ς ((k,.rown t sz els g)::r')
  |none=>ξ
 |(k,.abs l y)::r=>match jE o r with
  |some r'=>ς ((k,.abs l y)::r')
  |none=>ξ
theorem zl{o:Nat}:∀{sl sl':Lab},nX o sl=ς sl'->∀k,gt sl' k= .any\/(gt sl' k=gt sl k/\(gt sl k).has o=η)
 |[],sl',h,k=>by simp[nX] at h;subst h;exact .inl rfl
 |(j,t)::r,sl',h,k=>by
  simp only[nX] at h
  cases h1:nX o r with
  |none=>simp_all
  |some r'=>
   have ih:=zl h1 k
   cases h2:t.has o with
   |true=>
    simp[h1,h2] at h;subst h
    by_cases hj:j=k
    .subst hj;rw[da];simp_all
    rw[ck _ _ hj,ck _ _ hj];exact ih
   |false=>
    simp[h1,h2] at h;subst h
    by_cases hj:j=k
    .subst hj;rw[da,da];simp_all
    rw[ck _ _ hj,ck _ _ hj];exact ih
def Env.upd(E:Env)(o b c:Nat):Env:={E with r:=λl=>if l=o then ς (b,c) else E.r l}
structure eP(o:Nat)(E:Env)(w:World)(E':Env)(w':World):Prop where
 r:∀l x,l≠o->E.r l=ς x->E'.r l=ς x
 H:∀(g:Bool) b,E.H g b->E'.H g b
 heap:∀(g:Bool) b,E.H g b->w'.heap[b]?=w.heap[b]?
 T:∀l b,E.T l b->E'.T l b/\w'.heap[b]?=w.heap[b]?
 Z:∀b,E.Z b->E'.Z b/\vX w w' b
 n:∀l,l≠o->(E'.n l↔E.n l)
theorem eP.HH{o:Nat}(x:eP o E w E' w'):∀(g:Gr) b,E.H g b->E'.H g b
 | .b g,b,h=>x.H g b h
 | .s n,b,h| .t n,b,h=>(x.T n b h).1
theorem eP.hp{o:Nat}(x:eP o E w E' w'):∀(g:Gr) b,E.H g b->w'.heap[b]?=w.heap[b]?
 | .b g,b,h=>x.heap g b h
 | .s n,b,h| .t n,b,h=>(x.T n b h).2
theorem qY{o:Nat}(x:eP o E w E' w')(hb:w'.heap[b]?=w.heap[b]?):∀{g:Gr},uf E w els b g->uf E' w' els b g
 | .b _,_=>trivial
 | .s n,h| .t n,h=>h.keep hb (λk hk=>(x.T n k hk).2) λk hk=>(x.T n k hk).1
theorem Ba.turn(s:Ba cx E w){o c:Nat}(h0:E.r o=ς (b,c))(hT:E'.T=E.T)(hZ:E'.Z=E.Z)(hF:∀b,E'.F b->E.F b\/w.heap.size<=b)(hr:∀o b c,E'.r o=ς (b,c)->(∃o' c',E.r o'=ς (b,c'))\/w.heap.size<=b)(hs:w.heap.size<=w'.heap.size)(hh:∀k,k<w.heap.size->k≠b->w'.heap[k]?=w.heap[k]?):Ba cx E' w':=by
 refine⟨λl k h=>?_,λl l' k h h'=>?_,λk h=>?_,λk h=>?_,λk h=>s.ze k (hZ▸h)⟩
 .rw[hT] at h
  obtain⟨⟨h1,h2⟩,h3,h4,h5⟩:=s.tb l k h
  refine⟨⟨by omega,h2⟩,λhf=>?_,λo c ho=>?_,h5.of_eq (hh k h1 (λe=>by simp_all))⟩
  .grind
  grind
 .rw[hT] at h h';exact s.tt l l' k h h'
 .obtain⟨⟨h1,h2,h2'⟩,h3,h4,h5⟩:=s.zc k h
  refine⟨⟨h1,by omega,h2'⟩,λhf=>?_,λo c ho=>?_,h5.of_eq (hh k h2 (λe=>by simp_all))⟩
  .grind
  grind
 obtain⟨⟨h1,h2,h2'⟩,h3,h4,h5⟩:=s.zc k h
 exact(s.zs k h).trans (.of_eq (hh k h2 (λe=>by simp_all)))
theorem hP{o:Nat}(h:fW l o=η):l≠o:=λe=>by simp_all
theorem gD_but{o:Nat}(x:eP o E w E' w'):∀{g:Gr} {d:D} {u:Value},gD E w g d u->gD E' w' g d u
 | .b g,d,u,h=>bQ (x.hp (.b g)) (x.HH (.b g)) d u h
 | .s g,d,u,h=>bQ (x.hp (.s g)) (x.HH (.s g)) d u h
 | .t l,y,u,h=>h.keep (λb hb=>(x.T l b hb).2) λb hb=>(x.T l b hb).1
theorem CE{o:Nat}(x:eP o E w E' w'):∀{c:C} {u:Value},c.has o=η->cvC E w c u->cvC E' w' c u
 | .d g d,u,_,h=>gD_but x h
 | .w l n,u,hl,⟨b,c,h,hu⟩=>⟨b,c,x.r _ _ (hP hl) h,hu⟩
 | .s l sz off len,u,hl,⟨A,c,b,k,h,hu⟩=>⟨A,c,b,k,x.r _ _ (hP hl) h,hu⟩
 | .p l k,u,hl,⟨b,c,h,hu⟩=>⟨b,c,x.r _ _ (hP hl) h,hu⟩
 | .e l sz i j,u,hl,⟨b,c,h,hu⟩=>⟨b,c,x.r _ _ (hP hl) h,hu⟩
 | .q g y j,u,_,⟨b,k,hu,hb,h⟩=>⟨b,k,hu,x.HH g b hb,rdL_mono (x.hp g) (x.HH g) y b k hb h⟩
 | .fn f,u,_,h=>h
 | .nil,u,_,h=>h
 | .any,u,_,_=>trivial
 | .r l d,u,_,h=>bQ (λb hb=>(x.T l b hb).2) (λb hb=>(x.T l b hb).1) d u h
 | .z d,u,_,h=>ug (λb hb=>(x.Z b hb).2) (λb hb=>(x.Z b hb).1) d u h
 | .zq y j,u,_,⟨b,k,hu,hb,h⟩=>⟨b,k,hu,(x.Z b hb).1,rsL_mono (λb hb=>(x.Z b hb).2) (λb hb=>(x.Z b hb).1) y b k hb h⟩
 | .wn l n,u,hl,.inl ⟨h1,h2⟩=>.inl ⟨(x.n l (hP hl)).2 h1,h2⟩
 | .wn l n,u,hl,.inr ⟨h1,b,c,h,hu⟩=>.inr ⟨λk=>h1 ((x.n l (hP hl)).1 k),b,c,x.r _ _ (hP hl) h,hu⟩
theorem Lf{o:Nat}{E E':Env}{w w':World}(x:eP o E w E' w'):∀{cs:List C} {us:Lae},Kx o cs=η->CV E w cs us->CV E' w' cs us
 |[],[],_,_=>trivial
 |c::cs,u::us,hl,h=>by
  simp only[Kx,adc] at hl
  exact⟨CE x hl.1 h.1,Lf x hl.2 h.2⟩
 |[],_::_,_,h=>h.elim
 |_::_,[],_,h=>h.elim
theorem Sk{o:Nat}(x:eP o E w E' w')(hl:v.has o=η)(h:cvV E w v u):cvV E' w' v u:=by
 cases v with
 |c c=>exact CE x hl h
 |agg cs=>obtain⟨arr,hu,h⟩:=h;exact⟨arr,hu,Lf x hl h⟩
theorem WL{o:Nat}{E E':Env}{w w':World}(x:eP o E w E' w'):∀{cs:List V} {us:Lae},SA o cs=η->VV E w cs us->VV E' w' cs us
 |[],[],_,_=>trivial
 |c::cs,u::us,hl,h=>by
  simp only[SA,adc] at hl
  exact⟨Sk x hl.1 h.1,WL x hl.2 h.2⟩
 |[],_::_,_,h=>h.elim
 |_::_,[],_,h=>h.elim
theorem Gj{o:Nat}(x:eP o E w E' w'){t:T}(hl:t.has o=η)(h:cvT E w t u):cvT E' w' t u:=by
 cases t with
 |v v=>exact Sk x hl h
 |tup ts=>obtain⟨arr,hu,h⟩:=h;exact⟨arr,hu,WL x hl h⟩
 |any=>trivial
theorem wj{o:Nat}{E E':Env}{w w':World}(x:eP o E w E' w'):∀{cs cs':List C} {us:Lae},Fi o cs=ς cs'->CV E w cs us->CV E' w' cs' us
 |[],cs',us,h,hc=>by simp[Fi] at h;subst h;cases us with
  |nil=>trivial
  |cons _ _=>exact hc.elim
 |c::cs,cs',us,h,hc=>by
  cases us with
  |nil=>exact hc.elim
  |cons u us=>
   simp only[Fi] at h
   cases h1:Fi o cs with
   |none=>simp_all
   |some r=>
    cases h2:c.has o with
    |true=>simp[h1,h2] at h;subst h;exact⟨θ,wj x h1 hc.2⟩
    |false=>simp[h1,h2] at h;subst h;exact⟨CE x h2 hc.1,wj x h1 hc.2⟩
theorem tG{o:Nat}:∀{ob ob':Laa},jE o ob=ς ob'->∀{l:Nat} {x:Ob},go ob' l=ς x->
 (∃t cs cs',go ob l=ς (.var t cs)/\Fi o cs=ς cs'/\x= .var t cs')\/(∃t sz els g m,go ob l=ς (.row t sz els g m)/\x= .row t sz els g m)\/(∃t sz els g,go ob l=ς (.rown t sz els g)/\x= .rown t sz els g)\/(∃k y,go ob l=ς (.abs k y)/\x= .abs k y)
 |[],ob',h,l,x,hl=>by simp[jE] at h;subst h;cases hl
 |(k,.var t cs)::r,ob',h,l,x,hl=>by
  simp only[jE] at h
  cases h1:jE o r with
  |none=>simp_all
  |some r'=>
   cases h2:Fi o cs with
   |none=>simp_all
   |some cs'=>
    simp[h1,h2] at h;subst h
    by_cases hk:k=l
    .subst hk;rw[bX] at hl ⊢;grind
    rw[bg _ _ hk] at hl ⊢;exact tG h1 hl
 |(k,.row t sz els g m)::r,ob',h,l,x,hl=>by
  simp only[jE] at h
  cases h1:jE o r with
  |none=>simp_all
  |some r'=>
   simp[h1] at h;subst h
   by_cases hk:k=l
   .subst hk;rw[bX] at hl ⊢;grind
   rw[bg _ _ hk] at hl ⊢;exact tG h1 hl
 |(k,.rown t sz els g)::r,ob',h,l,x,hl=>by
  simp only[jE] at h
  cases h1:jE o r with
  |none=>simp_all
  |some r'=>
   simp[h1] at h;subst h
   by_cases hk:k=l
   .subst hk;rw[bX] at hl ⊢;grind
   rw[bg _ _ hk] at hl ⊢;exact tG h1 hl
 |(k,.abs j y)::r,ob',h,l,x,hl=>by
  simp only[jE] at h
  cases h1:jE o r with
  |none=>simp_all
  |some r'=>
   simp[h1] at h;subst h
   by_cases hk:k=l
   .subst hk;rw[bX] at hl ⊢;grind
   rw[bg _ _ hk] at hl ⊢;exact tG h1 hl
section
variable{P:Program}{N:Nat}{d:Tmp}{ty:TypeId}{ps:String}{af:Array Edge}{gd:Option (Nat×Bool)}{x y z:Operand}{st:St}
inductive Src (ob:Laa):C->Lad->Bool->Prop
 |d {g:Bool} {ys:Lad}:Src ob (.d g (.l ys)) ys g
 |nil:Src ob .nil [] ζ
 |w {o n:Nat} {t sz:Nat} {els:Lad} {g m:Bool} (h:go ob o=ς (.row t sz els g m)) (hn:els.length=n):Src ob (.w o n) els g
 |s {o off len:Nat} {t sz:Nat} {els:Lad} {g m:Bool} (h:go ob o=ς (.row t sz els g m)) (hn:off+len<=els.length):Src ob (.s o sz off len) ((els.drop off).take len) g
 |wn {o n:Nat} {t sz:Nat} {els:Lad} {g:Bool} (h:go ob o=ς (.rown t sz els g)) (hn:els.length=n):Src ob (.wn o n) els g
theorem GO(hob:∀l x,go nob l=ς x->cN E w l x){c:C}{g:Bool}(h:Src nob c ys g)(hu:cvC E w c u):
 ∃A k,u= .slice A ys.length k/\ys.length<=k/\(ys=[]\/∃b off,A=ς ⟨b,off,ξ⟩/\rdLL w (E.H g) ys b off):=by
 cases h with
 |d=>
  simp only[cvC,gD,rdD] at hu
  grind
 |nil=>have:u= .slice ξ 0 0:=hu;simp_all
 |w h hn=>
  obtain⟨b,c,hr,rfl⟩:=hu
  obtain⟨b',c',arr,hr',hh,ha,hlc,hmx,hes,hrd,_⟩:=hob _ _ h
  rw[hr] at hr';cases hr'
  exact⟨_,_,by rw[hn],hlc,.inr ⟨b,0,rfl,hrd⟩⟩
 |s h hn=>
  rename_i o off len t sz els m
  obtain⟨A,c,b,k,hr,rfl,hlc',_,hA⟩:=hu
  obtain⟨b',c',arr,hr',hh,ha,hlc,hmx,hes,hrd,_⟩:=hob _ _ h
  rw[hr] at hr';cases hr'
  have hl:((els.drop off).take len).length=len:=by simp;omega
  refine⟨A,c,by rw[hl],by omega,?_⟩
  rcases hA with h0|h0
  .exact .inl (adn oaa)
  right;exact⟨b,off*sz,h0,by simpa using oc len (AX hrd hes off)⟩
 |wn h hn=>
  rcases hu with⟨h0,rfl,rfl⟩|⟨h0,b,c,hr,rfl⟩
  .simp_all
  rcases hob _ _ h with⟨h1,_⟩|⟨_,b',c',arr,hr',hh,ha,hlc,hmx,hes,hrd,_⟩
  .simp_all
  rw[hr] at hr';cases hr'
  exact⟨_,_,by rw[hn],hlc,.inr ⟨b,0,rfl,hrd⟩⟩
theorem RE(hR:Rel N cx E st a w){c:C}{g:Bool}(h:Src st.ob c ys g)(hu:cvC E w c u):
 ∃A k,u= .slice A ys.length k/\ys.length<=k/\(ys=[]\/∃b off,A=ς ⟨b,off,ξ⟩/\rdLL w (E.H g) ys b off):=
 GO (λl x h=>hR.obs l x h) h hu
theorem uh{base:Nat}{ty e:TypeId}{i:TypeInfo}{size:Nat}(w:World)(ht:P.underlying t=ς (.slice e))(hi:P.info? e=ς i){v:Value}{xs:Lae}(hown:w.ownsRow base e size v n xs)(c:Nat):(Builtin.append_ #[t,t] ty #[v,.slice ξ 0 c]).run P w= .ok v w:=by
 rcases hown.2 with⟨rfl,rfl⟩|⟨g,cap,cur,rfl,_,_,hnc,_⟩
 .simp[Builtin.append_,run_underlying ht,sizeOf,typeInfo,hi,Builtin.lenOf,Builtin.firstCells]
 simp[Builtin.append_,run_underlying ht,sizeOf,typeInfo,hi,Builtin.lenOf,Builtin.firstCells,hnc,storeCells]
theorem wy{F:Nat->Prop}{e:List D}(h:rdL w F e b k):∃us:Lae,us.length=e.length/\(∀(j:Nat) (u:Value),us[j]?=ς u->w.cell? ((⟨b,k,ξ⟩:Addr).add j)=ς u)/\
 (∀u∈us,u.oneCell'=ζ)/\∀(j:Nat) (xd:D),e[j]?=ς xd->∃u,us[j]?=ς u/\rdD w F xd u:=by
 obtain⟨us,h1,h2,h3⟩:=Dy h
 refine⟨us,h1,λj u hj=>by rw[vy];simp_all,λu hu=>?_,h3⟩
 obtain⟨j,hj⟩:=ac7 hu
 have hjl:j<us.length:=(f5.1 hj).1
 obtain⟨v,k1,k2⟩:=h3 j e[j] (hV oaa)
 rw[hj] at k1;cases k1
 exact kj k2
theorem Fd(hR:Rel N cx E st a w){o:Nat}{g gy:Bool}{c:C}[ht:dz P t e sz by_](hrv:rsp o=η)(hd:d<N){cc:Nat}{arr:Array Value}(hr:E.r o=ς (b,cc))(hu:a.eval x= .slice (ς ⟨b,0,ξ⟩) n cc)(hh:w.heap[b]?=ς (.cells arr e (0,0)))(ha:arr.size=cc*sz)(hlc:els.length<=cc)(hmx:cc<=maxLen)(hes:∀e∈els,e.length=sz)(hrd:rdLL w (E.H g) els b 0)(hF:¬E.F b)(hy:opT st.sl y= .v (.c c))(hs:Src st.ob c ys gy)(hk:nX o st.sl=ς sl')(hkb:jE o st.ob=ς ob')(hn:els.length=n)(hsz:∀e∈ys,e.length=sz)(hb:(n+ys.length)*by_<=140737488355328)(h63:n+ys.length<=9223372036854775807):
 Oper.wp P ⟨ς d,.call ⟨.builtin .append,#[x,y],#[t,t]⟩,ty,ps,af,gd⟩ a w (λa' w'=>∃E',Rel N cx E' ⟨(d,.v (.c (.w o (n+ys.length))))::sl',(o,.row e sz (els++ys) (g&&gy) ζ)::ob',st.nx⟩ a' w') (λ_ _ _=>False):=by
 have h2:=hR.op y;rw[hy] at h2
 obtain⟨A,k,hv,hyk,hA⟩:=RE hR hs h2
 obtain⟨ii,zz,i1,i2,i3,i4,i5⟩:=ht.i
 have hbl:=(hR.ok.rb o b cc hr)
 have hown:w.ownsRow 0 e sz (.slice (ς ⟨b,0,ξ⟩) n cc) n (arr.toList.take (n*sz)):=
  ⟨by simp_all,.inr ⟨b,cc,arr,rfl,abm _,hh,by omega,hmx,ha,rfl⟩⟩
 have hsrc:∃news:Lae,news.length=ys.length*sz/\(∀u∈news,u.oneCell'=ζ)/\(∀(j:Nat) (xd:D),ys.flatten[j]?=ς xd->∃u,news[j]?=ς u/\rdD w (E.H gy) xd u)/\
  ∃v' w',(Builtin.append_ #[t,t] ty #[.slice (ς ⟨b,0,ξ⟩) n cc,.slice A ys.length k]).run P w= .ok v' w'/\w'.ownsRow 0 e sz v' (n+ys.length) (arr.toList.take (n*sz)++news)/\w.grownBy w' (ς b)/\v'≠.slice ξ 0 0/\(v'.ownBlock=ς b\/v'.ownBlock=ς w.heap.size):=by
  have hgood:∀ad,A=ς ad->∀news:Lae,news.length=ys.length*sz->(∀(j:Nat) (u:Value),news[j]?=ς u->w.cell? (ad.add j)=ς u)->(∀u∈news,u.oneCell'=ζ)->
   ∃v' w',(Builtin.append_ #[t,t] ty #[.slice (ς ⟨b,0,ξ⟩) n cc,.slice A ys.length k]).run P w= .ok v' w'/\w'.ownsRow 0 e sz v' (n+ys.length) (arr.toList.take (n*sz)++news)/\w.grownBy w' (ς b)/\v'≠.slice ξ 0 0/\(v'.ownBlock=ς b\/v'.ownBlock=ς w.heap.size):=by
   intro ad hAd news n1 n2 n3
   obtain⟨v',w',r1,r2,r3,r4,r5⟩:=run_append_own_at (P:=P) w 0 t ty e ii zz sz by_ ht.u i1 i4 i2 i3 i5 ht.p _ n _ hown ad ys.length k news n1 n2 n3 (by unfold maxLen;omega) hb (abm _)
   exact⟨v',w',by simp_all,r2,r3,(λh=>by simp_all),r5⟩
  rcases hA with h0|⟨b2,off,rfl,hrd2⟩
  .subst h0
   refine⟨[],by simp,by simp,by simp,?_⟩
   cases A with
   |none=>exact⟨_,w,uh w ht.u i1 hown k,by simp_all,⟨rfl,rfl,rfl,abk _,λ_ _ _=>rfl⟩,by simp,.inl rfl⟩
   |some ad=>simp_all
  obtain⟨us,q1,q2,q3,q4⟩:=wy (eN.1 hrd2)
  exact⟨us,by rw[q1,eF hsz],q3,q4,hgood _ rfl us (by rw[q1,eF hsz]) q2 q3⟩
 obtain⟨news,n1,n2,n3,v',w',r1,r2,r3,r4,r5⟩:=hsrc
 obtain⟨_,r2⟩:=r2
 rcases r2 with⟨rfl,_⟩|⟨bn,cap,cur,rfl,_,hhn,hcap,hcapm,hcur,htk⟩
 .simp_all
 unfold Oper.wp
 simp only[execOp,resolve,invoke,builtin,Sem.run_bind,Sem.run_pure,Result.andThen_ok,List.map_toArray,List.map_cons,List.map_nil,hu,hv,r1,Oper.upon_value]
 have hbn:bn=b\/bn=w.heap.size:=by simpa [Value.ownBlock] using r5
 have hsame:∀k,k<w.heap.size->k≠b->w'.heap[k]?=w.heap[k]?:=λk hk hne=>r3.block k hk (λe=>hne (by injection e))
 have hnF:¬E.F bn:=by
  rcases hbn with rfl|rfl
  .exact hF
  exact λh=>by have:=hR.ok.fb _ h;omega
 have hbig:bn<w'.heap.size:=by
  rcases ac9 bn w'.heap.size with h|h
  .exact h
  simp_all
 have hnew:∀l bl cl,l≠o->E.r l=ς (bl,cl)->bl≠bn:=by
  intro l bl cl hne hl e
  subst e
  rcases hbn with h|h
  .subst h;exact hne (hR.ok.inj l o _ _ _ hl hr)
  have:=(hR.ok.rb l bl cl hl).1;omega
 have hHb:∀(g:Bool) k,E.H g k->k≠b/\k<w.heap.size:=λg k hk=>⟨λe=>by subst e;cases g;exact hF hk;exact hF (hR.ok.gf _ hk),hR.ok.hb hk⟩
 have kb:eP o E w (E.upd o bn cap) w':=⟨λl x hne hl=>by simp only[Env.upd];simp_all,λ_ _ h=>h,λg k hk=>hsame k (hHb g k hk).2 (hHb g k hk).1,λl k hk=>⟨hk,hsame k (hR.ok.sf.tb l k hk).1.1 (λe=>by subst e;exact(hR.ok.sf.tb l k hk).2.2.1 o _ hr)⟩,λk hk=>⟨hk,.of_eq (hsame k (hR.ok.sf.zb k hk).1.2.1 (λe=>by subst e;exact(hR.ok.sf.zb k hk).2.2.1 o _ hr))⟩,λ_ _=>Iff.rfl⟩
 refine⟨E.upd o bn cap,⟨λk hk=>aci (hR.ok.fb k hk) r3.size,hR.ok.gf,hR.ok.gn,λl bl cl hl=>?_,λl l' bl cl cl' hl hl'=>?_,by rw[r3.os];exact hR.ok.os,by rw[r3.tape];exact hR.ok.tape,by rw[r3.output];exact hR.ok.output,acR hR.ok.size r3.size,λk hk hW=>?_,λl xx hv hl=>by
  simp only[Env.upd] at hl
  split at hl
  .simp_all
  exact hR.ok.pin l xx hv hl,hR.ok.ff,λk hk hk'=>(hR.ok.gc k hk hk').of_eq (hsame k (hHb η k hk).2 (hHb η k hk).1),hR.ok.sf.turn hr rfl rfl (λ_ h=>.inl h) (λl bl cl hl=>by
  simp only[Env.upd] at hl
  grind) r3.size hsame⟩,λl xx hl=>?_,λl ob hl=>?_,λk=>?_,hR.dfr,by simpa [Act.put] using hR.size,hR.td⟩
 .simp only[Env.upd] at hl
  split at hl
  .rename_i elo
   cases hl
   refine⟨hbig,?_⟩
   rcases hbn with h|h
   .simp_all
   left;rw[h];exact .inl hR.ok.size
  have:=hR.ok.rb l bl cl hl;grind
 .simp only[Env.upd] at hl hl'
  split at hl<;>split at hl'
  .omega
  .grind
  .grind
  exact hR.ok.inj l l' bl cl cl' hl hl'
 .have hkb':k≠b:=λe=>by
   subst e;exact(hR.ok.rw hr).elim (λh=>by omega) hW
  rw[hsame k (by have:=hR.ok.size;omega) hkb'];exact hR.ok.block k hk hW
 .simp only[Env.upd] at hl
  split at hl
  .rename_i e;subst e;exact hR.dom _ _ hr
  exact hR.dom l _ hl
 .by_cases hlo:o=l
  .subst hlo
   rw[bX] at hl;cases hl
   have hall:∀e'∈els++ys,e'.length=sz:=λe' he'=>by
    grind
   refine⟨bn,cap,cur,by simp[Env.upd],hhn,hcur,by simp;omega,hcapm,hall,?_,λ_=>hnF,(λh=>by cases h),θ⟩
   rw[eN]
   refine mG λj xd hj=>?_
   rw[aa5,dX hhn]
   rw[List.flatten_append] at hj
   have hfl:els.flatten.length=n*sz:=by rw[eF hes,hn]
   have hxs:(arr.toList.take (n*sz)).length=n*sz:=by simp[ha];rw[Nat.min_eq_left oaa]
   have hcurj:∀u,(arr.toList.take (n*sz)++news)[j]?=ς u->cur[j]?=ς u:=by
    intro u hu
    rw[<-htk,adj] at hu
    split at hu
    .simp_all
    cases hu
   by_cases hjn:j<n*sz
   .rw[aa8 oaa] at hj
    obtain⟨u,u1,u2⟩:=iz (eN.1 hrd) hj
    rw[aa5,dX hh] at u1
    refine⟨u,hcurj u ?_,bQ (kb.heap _) (kb.H _) _ _ (qX hR.ok u2 (by simp_all))⟩
    grind
   rw[aa3 oaa,hfl] at hj
   obtain⟨u,u1,u2⟩:=n3 _ _ hj
   refine⟨u,hcurj u ?_,bQ (kb.heap _) (kb.H _) _ _ (qX hR.ok u2 (by simp))⟩
   grind
  rw[bg _ _ hlo] at hl
  rcases tG hkb hl with⟨t',cs,cs',k1,k2,rfl⟩|⟨t',sz',els',g',m',k1,rfl⟩|⟨t',sz',els',g',k1,rfl⟩|⟨j',y',k1,rfl⟩
  .obtain⟨bl,cl,arrl,l1,l2,l3,l4⟩:=hR.obs l _ k1
   have hne:bl≠b:=λe=>hlo (by subst e;exact hR.ok.inj _ _ _ _ _ hr l1)
   exact⟨bl,cl,arrl,kb.r _ _ (Ne.symm hlo) l1,(hsame bl (hR.ok.rb _ _ _ l1).1 hne).trans l2,wj kb k2 l3,l4⟩
  .obtain⟨bl,cl,arrl,l1,l2,l3,l4,l5,l6,l7,l8,l9⟩:=hR.obs l _ k1
   have hne:bl≠b:=λe=>hlo (by subst e;exact hR.ok.inj _ _ _ _ _ hr l1)
   have hb2:=hsame bl (hR.ok.rb _ _ _ l1).1 hne
   exact⟨bl,cl,arrl,kb.r _ _ (Ne.symm hlo) l1,hb2.trans l2,l3,l4,l5,l6,bP (kb.hp _) (kb.HH _) hb2 _ _ l7,l8,l9.1,qY kb hb2 l9.2⟩
  .rcases hR.obs l _ k1 with h|⟨l0,bl,cl,arrl,l1,l2,l3,l4,l5,l6,l7,l8⟩
   .exact .inl h
   have hne:bl≠b:=λe=>hlo (by subst e;exact hR.ok.inj _ _ _ _ _ hr l1)
   have hb2:=hsame bl (hR.ok.rb _ _ _ l1).1 hne
   exact .inr ⟨l0,bl,cl,arrl,kb.r _ _ (Ne.symm hlo) l1,hb2.trans l2,l3,l4,l5,l6,bP (kb.hp _) (kb.HH _) hb2 _ _ l7,l8.1,qY kb hb2 l8.2⟩
  rcases hR.obs l _ k1 with h|⟨l0,bl,cl,l1,l2,l3⟩
  .exact .inl h
  have hne:bl≠b:=λe=>hlo (by subst e;exact hR.ok.inj _ _ _ _ _ hr l1)
  have hb2:=hsame bl (hR.ok.rb _ _ _ l1).1 hne
  exact .inr ⟨l0,bl,cl,kb.r _ _ (Ne.symm hlo) l1,y'.st _ _ _ _ _ _ l2 (λk hk=>(kb.T _ k hk).1) hb2 (λk hk=>(kb.T _ k hk).2),l3⟩
 rw[ef (by rw[hR.size];exact hd)]
 by_cases hdk:d=k
 .subst hdk;rw[da,if_pos rfl];exact⟨bn,cap,by simp[Env.upd],rfl⟩
 rw[ck _ _ hdk,if_neg hdk]
 rcases zl hk k with h|⟨h,h'⟩
 .rw[h];trivial
 rw[h];exact Gj kb h' (hR.sl k)
theorem QQ{o:Nat}{g gy:Bool}{c:C}[ht:dz P t e sz by_](hrv:rsp o=η)(hd:d<N)(hx:opT st.sl x= .v (.c (.w o n)))(hy:opT st.sl y= .v (.c c))(ho:go st.ob o=ς (.row e sz els g ζ))(hs:Src st.ob c ys gy)(hk:nX o st.sl=ς sl')(hkb:jE o st.ob=ς ob')(hn:els.length=n)(hsz:∀e∈ys,e.length=sz)(hb:(n+ys.length)*by_<=140737488355328)(h63:n+ys.length<=9223372036854775807):
 AWO P N ⟨ς d,.call ⟨.builtin .append,#[x,y],#[t,t]⟩,ty,ps,af,gd⟩ st ⟨(d,.v (.c (.w o (n+ys.length))))::sl',(o,.row e sz (els++ys) (g&&gy) ζ)::ob',st.nx⟩:=by
 intro cx E a w hR
 have h1:=hR.op x;rw[hx] at h1
 obtain⟨b,cc,hr,hu⟩:=h1
 obtain⟨b',c',arr,hr',hh,ha,hlc,hmx,hes,hrd,hFm,_⟩:=hR.obs o _ ho
 rw[hr] at hr';cases hr'
 exact Fd hR hrv hd hr hu hh ha hlc hmx hes hrd (hFm rfl) hy hs hk hkb hn hsz hb h63
end
inductive AV where
 |c (x:D)
 |agg (xs:List D)
inductive RC where
 |d (x:D)
 |own (ty sz:Nat) (els:Lad) (n:Nat)
 |nil
inductive RV where
 |c (x:RC)
 |agg (xs:List RC)
variable{res:List Go.AM.RV}
abbrev aI(n:Int):AV:=.c (.i .i64 n)
abbrev aL(xs:Lad):AV:=.c (.l xs)
abbrev rI(n:Int):RV:=.c (.d (.i .i64 n))
abbrev rB(b:Bool):RV:=.c (.d (.b b))
def DV(w:World)(F:Nat->Prop):List D->Lae->Prop
 |[],[]=>True
 |x::xs,u::us=>rdD w F x u/\DV w F xs us
 |_,_=>False
def avR(w:World)(F:Nat->Prop):AV->Value->Prop
 | .c x,u=>rdD w F x u
 | .agg xs,u=>∃arr,u= .agg arr/\DV w F xs arr.toList
def AR(w:World)(F:Nat->Prop):List AV->Lae->Prop
 |[],[]=>True
 |x::xs,u::us=>avR w F x u/\AR w F xs us
 |_,_=>False
def rcR(w:World)(G:Nat->Prop)(base:Nat):RC->Value->Lac->Prop
 | .d x,u,bs=>bs=[]/\rdD w G x u
 | .own ty sz els n,u,bs=>∃b c arr,bs=[(b,c)]/\u= .slice (ς ⟨b,0,ξ⟩) n c/\w.heap[b]?=ς (.cells arr ty (0,0))/\arr.size=c*sz/\els.length<=c/\c<=maxLen/\
  (∀e∈els,e.length=sz)/\rdLL w G els b 0/\¬G b/\base<=b
 | .nil,u,bs=>bs=[]/\u= .slice ξ 0 0
def My(w:World)(G:Nat->Prop)(base:Nat):List RC->Lae->Lac->Prop
 |[],[],bs=>bs=[]
 |r::rs,u::us,bs=>∃b1 b2,bs=b1++b2/\rcR w G base r u b1/\My w G base rs us b2
 |_,_,_=>False
def rvR(w:World)(G:Nat->Prop)(base:Nat):RV->Value->Lac->Prop
 | .c r,u,bs=>rcR w G base r u bs
 | .agg rs,u,bs=>∃arr,u= .agg arr/\My w G base rs arr.toList bs
def MD(w:World)(G:Nat->Prop)(base:Nat):List RV->Lae->Lac->Prop
 |[],[],bs=>bs=[]
 |r::rs,u::us,bs=>∃b1 b2,bs=b1++b2/\rvR w G base r u b1/\MD w G base rs us b2
 |_,_,_=>False
def II(w:World)(G:Nat->Prop)(base:Nat):List RV->Value->Lac->Prop
 |[r],v,bs=>rvR w G base r v bs
 |rs,v,bs=>∃arr,v= .tuple arr/\MD w G base rs arr.toList bs
structure GR(w w':World)(W:Nat->Prop):Prop where
 os:w'.os=w.os
 tape:w'.tape=w.tape
 output:w'.output=w.output
 size:w.heap.size<=w'.heap.size
 block:∀b,b<w.heap.size->¬W b->w'.heap[b]?=w.heap[b]?
structure Fn(P:Program)(f:FuncId)(args:List AV)(res:List RV):Prop where
 enters:∀(vs:Array Value) (w:World),(callFunc f vs).run P w= .ok (.enter f vs) w
 calls:∀(F:Nat->Prop) (w:World) (vals:Array Value),(∀b,F b->b<w.heap.size)->TabsIn w->AR w F args vals.toList->
  Calls P f vals w λe w'=>∃v G bs,e= .returned v/\GR w w' (λ_=>False)/\(∀b,G b->w.heap.size<=b/\b<w'.heap.size/\fR w' b)/\II w' G w.heap.size res v bs/\(bs.map (·.1)).Nodup
inductive WH (P:Program) (st:St):ResultVar->V->Prop
 |tmp {k:Tmp} {v:V} (h:gt st.sl k= .v v):WH P st (.tmp k) v
 |cell {p:Tmp} {t n o:Nat} {vt:TypeId} {cs:List C} [ht:en P t n] (h:gt st.sl p= .v (.c (.p o 0))) (ho:go st.ob o=ς (.var vt cs)) (hn:fW cs.length n=ζ):WH P st (.cell p t) (.agg cs)
 |cell1 {p:Tmp} {t o:Nat} {vt:TypeId} {c:C} [ht:g9 P t] (h:gt st.sl p= .v (.c (.p o 0))) (ho:go st.ob o=ς (.var vt [c])):WH P st (.cell p t) (.c c)
inductive jN (P:Program) (st:St):List ResultVar->List V->Prop
 |nil:jN P st [] []
 |cons {r:ResultVar} {rs:List ResultVar} {v:V} {vs:List V} (h:WH P st r v) (h':jN P st rs vs):jN P st (r::rs) (v::vs)
def CI(ob:Laa):C->Option (RC×List Nat)
 | .d _ (.i k n)=>ς (.d (.i k n),[])
 | .d _ (.b x)=>ς (.d (.b x),[])
 | .d _ (.str s)=>ς (.d (.str s),[])
 | .d (.b ζ) (.l xs)=>ς (.d (.l xs),[])
 | .w o n=>match go ob o,rsv o with
  |some (.row ty sz els (.b ζ) ζ),η=>ς (.own ty sz els n,[o])
  |_,_=>ξ
 | .nil=>ς (.nil,[])
 |_=>ξ
def NK(ob:Laa):List C->Option (List RC×List Nat)
 |[]=>ς ([],[])
 |c::cs=>match CI ob c,NK ob cs with
  |some (r,l),ς (rs,ls)=>ς (r::rs,l++ls)
  |_,_=>ξ
def expV(ob:Laa):V->Option (RV×List Nat)
 | .c c=>match CI ob c with
  |some (r,l)=>ς (.c r,l)
  |none=>ξ
 | .agg cs=>match NK ob cs with
  |some (r,l)=>ς (.agg r,l)
  |none=>ξ
def CJ(ob:Laa):List V->Option (List RV×List Nat)
 |[]=>ς ([],[])
 |c::cs=>match expV ob c,CJ ob cs with
  |some (r,l),ς (rs,ls)=>ς (r::rs,l++ls)
  |_,_=>ξ
def kh:List Nat->Bool
 |[]=>ζ
 |x::xs=>!(xs.any (fW x))&&kh xs
theorem jH:∀{l:List Nat},kh l=ζ->l.Nodup
 |[],_=>List.nodup_nil
 |x::xs,h=>by
  simp only[kh,f4,ac8] at h
  refine adH.2 ⟨λhm=>?_,jH h.2⟩
  have:xs.any (fW x)=true:=adi.2 ⟨x,hm,by simp⟩
  rw[this] at h;exact absurd h.1 (by simp)
def Fin(P:Program)(rs:List ResultVar)(res:List RV)(s:St):Prop:=∃vs ls,jN P s rs vs/\CJ s.ob vs=ς (res,ls)/\kh ls=ζ
theorem Sq(hR:Rel N cx E st a w)(hn:∀b,cx.In b->cx.w0.heap.size<=b){c:C}{r:RC}{ls:List Nat}(h:CI st.ob c=ς (r,ls))(hc:cvC E w c u):
 ∃bs,rcR w E.G cx.w0.heap.size r u bs/\bs.length=ls.length/\∀(i:Nat) (l:Nat),ls[i]?=ς l->∃p,bs[i]?=ς p/\E.r l=ς p:=by
 cases c with
 |d g x=>
  cases x with
  |i k n=>simp[CI] at h;obtain⟨rfl,rfl⟩:=h;exact⟨[],⟨rfl,by simpa [rdD] using tk hc⟩,rfl,by simp⟩
  |b k=>simp[CI] at h;obtain⟨rfl,rfl⟩:=h;exact⟨[],⟨rfl,by simpa [rdD] using tk hc⟩,rfl,by simp⟩
  |str k=>simp[CI] at h;obtain⟨rfl,rfl⟩:=h;exact⟨[],⟨rfl,by simpa [rdD] using tk hc⟩,rfl,by simp⟩
  |l xs=>
   cases g with
   |b g=>cases g with
    |false=>grind[CI]
    |true=>simp[CI] at h;obtain⟨rfl,rfl⟩:=h;exact⟨[],⟨rfl,hc⟩,rfl,by simp⟩
   |s n=>grind[CI]
   |t n=>grind[CI]
  |k A n c=>grind[CI]
 |w o n=>
  simp only[CI] at h
  split at h
  .rename_i ty sz els ho hrv
   simp at h;obtain⟨rfl,rfl⟩:=h
   obtain⟨b,c,hr,rfl⟩:=hc
   obtain⟨b',c',arr,hr',hh,ha,hlc,hmx,hes,hrd,hFm,_⟩:=hR.obs o _ ho
   rw[hr] at hr';cases hr'
   refine⟨[(b,c)],⟨b,c,arr,rfl,rfl,hh,ha,hlc,hmx,hes,hrd,λhg=>hFm rfl (hR.ok.gf b hg),hn b (((hR.ok.rb o b c hr).2).resolve_right (λh=>by simp_all))⟩,rfl,λi l hi=>?_⟩
   grind
  cases h
 |nil=>simp[CI] at h;obtain⟨rfl,rfl⟩:=h;exact⟨[],⟨rfl,hc⟩,rfl,by simp⟩
 |_=>grind[CI]
theorem SR{b1 b2:Lac}{l1 l2:List Nat}(h1:b1.length=l1.length)(k1:∀(i:Nat) (l:Nat),l1[i]?=ς l->∃p,b1[i]?=ς p/\E.r l=ς p)(k2:∀(i:Nat) (l:Nat),l2[i]?=ς l->∃p,b2[i]?=ς p/\E.r l=ς p):∀(i:Nat) (l:Nat),(l1++l2)[i]?=ς l->∃p,(b1++b2)[i]?=ς p/\E.r l=ς p:=by
 grind
theorem NL{N:Nat}{cx:Cx}{E:Env}{st:St}{a:Act}{w:World}(hR:Rel N cx E st a w)(hn:∀b,cx.In b->cx.w0.heap.size<=b):∀{cs:List C} {rs:List RC} {ls:List Nat} {us:Lae},NK st.ob cs=ς (rs,ls)->CV E w cs us->
 ∃bs,My w E.G cx.w0.heap.size rs us bs/\bs.length=ls.length/\∀(i:Nat) (l:Nat),ls[i]?=ς l->∃p,bs[i]?=ς p/\E.r l=ς p
 |[],rs,ls,us,h,hc=>by
  simp[NK] at h;obtain⟨rfl,rfl⟩:=h
  cases us with
  |nil=>exact⟨[],rfl,rfl,by simp⟩
  |cons _ _=>exact hc.elim
 |c::cs,rs,ls,us,h,hc=>by
  cases us with
  |nil=>exact hc.elim
  |cons u us=>
   simp only[NK] at h
   split at h
   .rename_i r l rs' ls' h1 h2
    simp at h;obtain⟨rfl,rfl⟩:=h
    obtain⟨b1,k1,k2,k3⟩:=Sq hR hn h1 hc.1
    obtain⟨b2,m1,m2,m3⟩:=NL hR hn h2 hc.2
    exact⟨b1++b2,⟨b1,b2,rfl,k1,m1⟩,by simp[k2,m2],SR k2 k3 m3⟩
   cases h
theorem abn(hR:Rel N cx E st a w)(hn:∀b,cx.In b->cx.w0.heap.size<=b){r:RV}{ls:List Nat}(h:expV st.ob v=ς (r,ls))(hv:cvV E w v u):
 ∃bs,rvR w E.G cx.w0.heap.size r u bs/\bs.length=ls.length/\∀(i:Nat) (l:Nat),ls[i]?=ς l->∃p,bs[i]?=ς p/\E.r l=ς p:=by
 cases v with
 |c c=>
  simp only[expV] at h
  split at h
  .rename_i r' l' h1;simp at h;obtain⟨rfl,rfl⟩:=h;exact Sq hR hn h1 hv
  cases h
 |agg cs=>
  simp only[expV] at h
  split at h
  .rename_i r' l' h1;simp at h;obtain⟨rfl,rfl⟩:=h
   obtain⟨arr,hu,hc⟩:=hv
   obtain⟨bs,k1,k2,k3⟩:=NL hR hn h1 hc
   exact⟨bs,⟨arr,hu,k1⟩,k2,k3⟩
  cases h
theorem NM{N:Nat}{cx:Cx}{E:Env}{st:St}{a:Act}{w:World}(hR:Rel N cx E st a w)(hn:∀b,cx.In b->cx.w0.heap.size<=b):∀{vs:List V} {rs:List RV} {ls:List Nat} {us:Lae},CJ st.ob vs=ς (rs,ls)->VV E w vs us->
 ∃bs,MD w E.G cx.w0.heap.size rs us bs/\bs.length=ls.length/\∀(i:Nat) (l:Nat),ls[i]?=ς l->∃p,bs[i]?=ς p/\E.r l=ς p
 |[],rs,ls,us,h,hc=>by
  simp[CJ] at h;obtain⟨rfl,rfl⟩:=h
  cases us with
  |nil=>exact⟨[],rfl,rfl,by simp⟩
  |cons _ _=>exact hc.elim
 |c::cs,rs,ls,us,h,hc=>by
  cases us with
  |nil=>exact hc.elim
  |cons u us=>
   simp only[CJ] at h
   split at h
   .rename_i r l rs' ls' h1 h2
    simp at h;obtain⟨rfl,rfl⟩:=h
    obtain⟨b1,k1,k2,k3⟩:=abn hR hn h1 hc.1
    obtain⟨b2,m1,m2,m3⟩:=NM hR hn h2 hc.2
    exact⟨b1++b2,⟨b1,b2,rfl,k1,m1⟩,by simp[k2,m2],SR k2 k3 m3⟩
   cases h
def rN(tmps:Array Value):ResultVar->Sem Value
 | .tmp t=>pure (tmps.getD t undef)
 | .cell p t=>do loadVar t (<-asAddr (tmps.getD p undef))
theorem aaX(hR:Rel N cx E st a w){r:ResultVar}(h:WH P st r v):
 ∃u,(rN a.tmps r).run P w= .ok u w/\cvV E w v u:=by
 cases h with
 |tmp h=>rename_i k;have:=hR.sl k;rw[h] at this;exact⟨_,by simp[rN],this⟩
 |cell h ho hn=>
  rename_i p t n o vt cs ht
  have h1:=hR.sl p;rw[h] at h1
  obtain⟨b,c,hr,hu⟩:=h1
  obtain⟨b',c',arr,hr',hh,hcv,_⟩:=hR.obs o _ ho
  rw[hr] at hr';cases hr'
  have hl:=jt hcv
  have hnn:=aat hn
  have:=tR (P:=P) (t:=t) (n:=n) (b:=b) (k:=0) (us:=arr.toList) (w:=w) oaa (λj u hj=>by grind[dX])
  refine⟨.agg arr.toList.toArray,?_,arr,by simp,hcv⟩
  simp_all[Instr.loadAt,Instr.sureAddr,rN,asAddr]
 |cell1 h ho=>
  rename_i p t o vt c ht
  have h1:=hR.sl p;rw[h] at h1
  obtain⟨b,c',hr,hu⟩:=h1
  obtain⟨b',c'',arr,hr',hh,hcv,_⟩:=hR.obs o _ ho
  rw[hr] at hr';cases hr'
  obtain⟨u,hu',hcu⟩:=J8 (k:=0) hcv rfl
  have:=pV (P:=P) (t:=t) (b:=b) (k:=0) (u:=u) (w:=w) (by grind[dX])
  refine⟨u,?_,hcu⟩
  simp_all[Instr.loadAt,Instr.sureAddr,rN,asAddr]
theorem Ct{P:Program}{N:Nat}{cx:Cx}{E:Env}{st:St}{a:Act}{w:World}(hR:Rel N cx E st a w):∀{rs:List ResultVar} {vs:List V},jN P st rs vs->
 ∃us,(rs.mapM (rN a.tmps)).run P w= .ok us w/\VV E w vs us
 |_,_,.nil=>⟨[],by simp,θ⟩
 |_,_,.cons (r:=r) h h'=>by
  obtain⟨u,k1,k2⟩:=aaX hR h
  obtain⟨us,m1,m2⟩:=Ct hR h'
  refine⟨u::us,?_,k2,m2⟩
  simp_all
theorem XF(hR:Rel N cx E st a w)(hn:∀b,cx.In b->cx.w0.heap.size<=b){fn:Func}(h:Fin P fn.results.toList res st):
 ∃v bs,(results fn a.tmps).run P w= .ok v w/\II w E.G cx.w0.heap.size res v bs/\(bs.map (·.1)).Nodup:=by
 obtain⟨vs,ls,h1,h2,h3⟩:=h
 obtain⟨us,k1,k2⟩:=Ct hR h1
 obtain⟨bs,m1,m2,m3⟩:=NM hR hn h2 k2
 have hnd:(bs.map (·.1)).Nodup:=by
  have hnl:=jH h3
  refine adl.2 λi j hi hj hij he=>?_
  simp only[adb] at hi hj
  obtain⟨p,p1,p2⟩:=m3 i ls[i] (hV oaa)
  obtain⟨q,q1,q2⟩:=m3 j ls[j] (hV oaa)
  rw[hV hi] at p1
  rw[hV hj] at q1
  cases p1;cases q1
  simp only[List.getElem_map] at he
  rcases hbi:bs[i] with⟨b1,c1⟩
  rcases hbj:bs[j] with⟨b2,c2⟩
  rw[hbi,hbj] at he
  rw[hbi] at p2;rw[hbj] at q2
  have hb:b1=b2:=he
  subst hb
  exact adl.1 hnl i j oaa oaa hij (hR.ok.inj _ _ _ _ _ p2 q2)
 have hm:(fn.results.mapM (rN a.tmps)).run P w= .ok us.toArray w:=by
  rw[<-adG (xs:=fn.results),List.mapM_toArray]
  simp only[Sem.run_map,k1]
  rfl
 have hres:results fn a.tmps=(fn.results.mapM (rN a.tmps))>>= λvs=>pure (if h:vs.size=1 then vs[0] else .tuple vs):=rfl
 have hlen:us.length=vs.length:=by
  have key:∀(vs:List V) (us:Lae),VV E w vs us->us.length=vs.length:=by
   intro vs
   induction vs with
   |nil=>intro us h;cases us with
    |nil=>rfl
    |cons _ _=>exact h.elim
   |cons v vs ih=>intro us h;cases us with
    |nil=>exact h.elim
    |cons u us=>simp[ih us h.2]
  exact key vs us k2
 have hlen2:us.length=res.length:=by
  have key:∀(rs:List RV) (us:Lae) (bs:Lac),MD w E.G cx.w0.heap.size rs us bs->us.length=rs.length:=by
   intro rs
   induction rs with
   |nil=>intro us bs h;cases us with
    |nil=>rfl
    |cons _ _=>exact h.elim
   |cons v vs ih=>intro us bs h;cases us with
    |nil=>exact h.elim
    |cons u us=>obtain⟨b1,b2,_,_,h⟩:=h;grind
  exact key res us bs m1
 match res,us,m1,hlen2 with
 |[],[],m1,_=>exact⟨.tuple #[],bs,by simp_all,⟨#[],rfl,m1⟩,hnd⟩
 |[r],[u],m1,_=>
  obtain⟨b1,b2,rfl,h4,h5⟩:=m1
  have:b2=[]:=h5
  subst this
  exact⟨u,b1++[],by simp_all,by simp_all[II],hnd⟩
 |r1::r2::rs,u1::u2::us,m1,_=>
  exact⟨.tuple (u1::u2::us).toArray,bs,by simp_all,⟨_,rfl,m1⟩,hnd⟩
def argT:AV->T
 | .c x=>.v (.c (ldC η x))
 | .agg xs=>.v (.agg (xs.map (ldC η)))
def vZ:Nat->List AV->Lab
 |_,[]=>[]
 |k,a::as=>(k,argT a)::vZ (k+1) as
def vW(N:Nat)(P:Program)(rs:List ResultVar)(res:List RV):Exit->St->Prop
 | .normal,s| .ret,s=>∃s',cO N s s'/\Fin P rs res s'
 |_,_=>False
theorem YW{rs:List ResultVar}(h:Fin P rs res s):vW N P rs res .ret s:=⟨s,λ_ E _ _ h=>⟨E,h⟩,h⟩
theorem WD{E:Env}{w:World}{F:Nat->Prop}(hF:E.F=F):∀{xs:List D} {us:Lae},DV w F xs us->CV E w (xs.map (ldC η)) us
 |[],[],_=>trivial
 |x::xs,u::us,h=>⟨HV (g:=η) (by subst hF;exact h.1),WD hF h.2⟩
 |[],_::_,h=>h.elim
 |_::_,[],h=>h.elim
theorem GX{E:Env}{w:World}{F:Nat->Prop}(hF:E.F=F):∀{as:List AV} {us:Lae} (k0:Nat),AR w F as us->us.length=as.length/\∀k,(k0<=k/\k<k0+as.length->∃u,us[k-k0]?=ς u/\cvT E w (gt (vZ k0 as) k) u)/\(¬(k0<=k/\k<k0+as.length)->gt (vZ k0 as) k= .any)
 |[],[],k0,_=>⟨rfl,λk=>⟨λh=>by grind,λ_=>rfl⟩⟩
 |a::as,u::us,k0,h=>by
  obtain⟨h1,h2⟩:=GX hF (k0+1) h.2
  refine⟨by simp[h1],λk=>?_⟩
  by_cases hk:k0=k
  .subst hk
   refine⟨λ_=>⟨u,by simp,?_⟩,λhn=>absurd ⟨abk _,by simp⟩ hn⟩
   rw[vZ,da]
   cases a with
   |c x=>exact HV (g:=η) (by subst hF;exact h.1)
   |agg xs=>obtain⟨arr,hu,hd⟩:=h.1;exact⟨arr,hu,WD hF hd⟩
  rw[vZ,ck _ _ hk]
  refine⟨λhr=>?_,λhr=>(h2 k).2 (λh=>hr ⟨by omega,by simp;omega⟩)⟩
  obtain⟨v,h3,h4⟩:=(h2 k).1 ⟨by omega,by grind⟩
  grind
 |[],_::_,_,h=>h.elim
 |_::_,[],_,h=>h.elim
theorem fn_of{f:FuncId}{fn:Func}{c:Code}{args:List AV}{rs:List ResultVar}(hf:P.funcs[f]?=ς fn)(hb:fn.body=ς c)(hnm:(fn.name== "runtime.NumGoroutine")=η)(hN:fn.ntmps=N)(hrs:fn.results.toList=rs)(ha:abD args.length N=ζ)(h:AWC P N c ⟨vZ 0 args,[],0⟩ (vW N P rs res)):Fn P f args res:=by
 refine⟨λvs w=>by simp_all[callFunc],λF w vals hF hT hA=>?_⟩
 subst hrs
 refine calls_of_wp hf hb ?_
 let E:Env:={r:=λ_=>ξ,F:=F,G:=λ_=>False}
 obtain⟨h1,h2⟩:=GX (E:=E) (F:=F) rfl 0 hA
 have hle:args.length<=N:=adp ha
 have hsz:vals.size=args.length:=by simpa using h1
 have hR:Rel N ⟨w,λ_=>False,λ_=>ξ,λ_=>True,λ_=>False,⟨hT,λ_ _ h=>h⟩,λ_=>False⟩ E ⟨vZ 0 args,[],0⟩ {tmps:=vals++abw (fn.ntmps-vals.size) undef,defers:=[]} w:=by
  refine⟨⟨hF,λ_ h=>h.elim,λ_ h=>h.elim,(λ_ _ _ h=>by cases h),(λ_ _ _ _ _ h=>by cases h),rfl,rfl,rfl,abk _,λ_ _ _=>rfl,(λ_ _ _ h=>by cases h),λ_ _=>.inl trivial,λb h h'=>absurd (hF b h) (Nat.not_lt.2 (h'.resolve_right λh=>h.2.1)),⟨λ_ _ h=>h.elim,λ_ _ _ h=>h.elim,λ_ h=>h.elim,λ_ h=>h.elim,λ_ h=>h.elim⟩⟩,(λ_ _ h=>by cases h),(λ_ _ h=>by cases h),λk=>?_,rfl,by simp;omega,λ_ _ h=>h.elim⟩
  by_cases hk:k<args.length
  .obtain⟨u,h3,h4⟩:=(h2 k).1 ⟨abm _,by omega⟩
   have:(vals++abw (fn.ntmps-vals.size) undef).getD k undef=u:=by
    have h5:vals[k]?=ς u:=by simpa using h3
    have h6:(vals++abw (fn.ntmps-vals.size) undef)[k]?=ς u:=by rw[Array.getElem?_append_left oaa];exact h5
    simp[h6]
   simp_all
  simp_all[cvT,gt,vZ,trivial]
 refine wp_mono (h _ E _ w hR) ?_
 rintro e a' w' ⟨E',s',hR',hq⟩
 have fin:∀s',Rel N ⟨w,λ_=>False,λ_=>ξ,λ_=>True,λ_=>False,⟨hT,λ_ _ h=>h⟩,λ_=>False⟩ E' s' a' w'->(∃s'',cO N s' s''/\Fin P fn.results.toList res s'')->
  a'.defers=[]/\∃v,(results fn a'.tmps).run P w'= .ok v w'/\∃v' G bs,Ending.returned v= .returned v'/\GR w w' (λ_=>False)/\(∀b,G b->w.heap.size<=b/\b<w'.heap.size/\fR w' b)/\II w' G w.heap.size res v' bs/\(bs.map (·.1)).Nodup:=by
  rintro s' hR' ⟨s'',hw,hfin⟩
  obtain⟨E'',hR''⟩:=hw _ _ _ _ hR'
  obtain⟨v,bs,k1,k2,k3⟩:=XF hR'' (λb h=>h.resolve_right λh=>h.1) hfin
  have ok:=hR''.ok
  exact⟨hR''.dfr,v,k1,v,E''.G,bs,rfl,⟨ok.os,ok.tape,ok.output,ok.size,ok.block⟩,λb hb=>⟨(ok.gn b hb).resolve_right id,ok.fb b (ok.gf b hb),ok.gc b (ok.gf b hb) (.inl ((ok.gn b hb).resolve_right id))⟩,k2,k3⟩
 cases e with
 |normal=>exact fin s' hR' hq
 |ret=>exact fin s' hR' hq
 |_=>exact hq.elim
def labC:C->List Nat
 | .w o _=>[o]
 | .s o _ _ _=>[o]
 | .wn o _=>[o]
 |_=>[]
def labCs:List C->List Nat
 |[]=>[]
 |c::cs=>labC c++labCs cs
def C8:List T->List Nat
 |[]=>[]
 | .v (.c c)::ts=>labC c++C8 ts
 | .v (.agg cs)::ts=>labCs cs++C8 ts
 |_::ts=>C8 ts
def t8(ob:Laa):List Nat->Option Laa
 |[]=>ς []
 |l::ls=>match go ob l,t8 ob ls with
  |some x,ς r=>ς ((l,x)::r)
  |_,_=>ξ
theorem wr{ob:Laa}:∀{ls:List Nat} {nob:Laa},t8 ob ls=ς nob->Lo ob nob
 |[],nob,h=>by simp[t8] at h;subst h;trivial
 |l::ls,nob,h=>by
  simp only[t8] at h
  split at h
  .rename_i x r h1 h2;simp at h;subst h;exact⟨h1,wr h2⟩
  cases h
theorem BL{ob:Laa}{x:Ob}(h:go ob l=ς x):(l,x)∈ob:=by
 induction ob with
 |nil=>cases h
 |cons p r ih=>
  grind[bX,bg]
def yC(nob:Laa):C->Option (D×Lac)
 | .d (.b _) x=>ς (x,[])
 | .nil=>ς (.l [],[])
 | .w o n=>match go nob o with
  |some (.row _ _ els (.b _) _)=>ς (.l els,[(els.length,n)])
  |_=>ξ
 | .wn o n=>match go nob o with
  |some (.rown _ _ els (.b _))=>ς (.l els,[(els.length,n)])
  |_=>ξ
 | .s o sz off len=>match go nob o with
  |some (.row _ sz' els (.b _) _)=>match fW sz sz' with
   |true=>ς (.l ((els.drop off).take len),[(off+len-els.length,0)])
   |false=>ξ
  |_=>ξ
 |_=>ξ
def NC(nob:Laa):List C->Option (List D×Lac)
 |[]=>ς ([],[])
 |c::cs=>match yC nob c,NC nob cs with
  |some (x,e),ς (xs,es)=>ς (x::xs,e++es)
  |_,_=>ξ
def tdat(nob:Laa):T->Option (AV×Lac)
 | .v (.c c)=>match yC nob c with
  |some (x,e)=>ς (.c x,e)
  |none=>ξ
 | .v (.agg cs)=>match NC nob cs with
  |some (x,e)=>ς (.agg x,e)
  |none=>ξ
 |_=>ξ
def K9(nob:Laa):List T->Option (List AV×Lac)
 |[]=>ς ([],[])
 |c::cs=>match tdat nob c,K9 nob cs with
  |some (x,e),ς (xs,es)=>ς (x::xs,e++es)
  |_,_=>ξ
def Bo(nob:Laa):C->Option (D×Lac)
 | .r _ x| .d (.s _) x| .d (.t _) x=>ς (x,[])
 | .w o n=>match go nob o with
  |some (.row _ _ els (.s _) _)=>ς (.l els,[(els.length,n)])
  |_=>yC nob (.w o n)
 | .s o sz off len=>match go nob o with
  |some (.row _ sz' els (.s _) _)=>match fW sz sz' with
   |true=>ς (.l ((els.drop off).take len),[(off+len-els.length,0)])
   |false=>ξ
  |_=>yC nob (.s o sz off len)
 |c=>yC nob c
def G6(nob:Laa):List C->Option (List D×Lac)
 |[]=>ς ([],[])
 |c::cs=>match Bo nob c,G6 nob cs with
  |some (x,e),ς (xs,es)=>ς (x::xs,e++es)
  |_,_=>ξ
def ZY(nob:Laa):T->Option (AV×Lac)
 | .v (.c c)=>match Bo nob c with
  |some (x,e)=>ς (.c x,e)
  |none=>ξ
 | .v (.agg cs)=>match G6 nob cs with
  |some (x,e)=>ς (.agg x,e)
  |none=>ξ
 |_=>ξ
def rQ(nob:Laa):List T->Option (List AV×Lac)
 |[]=>ς ([],[])
 |c::cs=>match ZY nob c,rQ nob cs with
  |some (x,e),ς (xs,es)=>ς (x::xs,e++es)
  |_,_=>ξ
def Eqs:Lac->Prop
 |[]=>True
 |(a,b)::r=>a=b/\Eqs r
theorem dE:∀{l m:Lac},Eqs (l++m)->Eqs l/\Eqs m
 |[],m,h=>⟨θ,h⟩
 |(a,b)::l,m,h=>let ⟨h1,h2⟩:=dE (l:=l) h.2;⟨⟨h.1,h1⟩,h2⟩
def mJ(E:Env)(nob:Laa):Nat->Prop:=λb=>E.F b\/∃l x c,go nob l=ς x/\E.r l=ς (b,c)
def yS(E:Env)(nob:Laa):Nat->Prop:=λb=>mJ E nob b\/∃l,E.T l b
section
variable{cx:Cx}{E:Env}{w:World}{nob:Laa}(ok:dr cx E w)(hob:∀l x,go nob l=ς x->cN E w l x)
include ok hob
theorem Gi{c:C}{e:Lac}(h:yC nob c=ς (x,e))(he:Eqs e)(hc:cvC E w c u):rdD w (mJ E nob) x u:=by
 have hHF:∀(g:Bool) b,E.H g b->mJ E nob b:=λg b hb=>.inl (by cases g;exact hb;exact ok.gf b hb)
 cases c with
 |d g y=>cases g with
  |b g=>simp[yC] at h;obtain⟨rfl,rfl⟩:=h;exact bQ (λ_ _=>rfl) (hHF g) _ _ hc
  |s n=>grind[yC]
  |t n=>grind[yC]
 |nil=>simp[yC] at h;obtain⟨rfl,rfl⟩:=h;have:u= .slice ξ 0 0:=hc;subst this;rw[rdD];exact⟨ξ,0,rfl,abk _,.inl rfl⟩
 |w o n=>
  simp only[yC] at h
  split at h
  .rename_i t sz els g m ho
   simp at h;obtain⟨rfl,rfl⟩:=h
   obtain⟨b,cc,hr,rfl⟩:=hc
   obtain⟨b',c',arr,hr',hh,ha,hlc,hmx,hes,hrd,_⟩:=hob o _ ho
   rw[hr] at hr';cases hr'
   have hn:els.length=n:=he.1
   subst hn
   rw[rdD]
   exact⟨_,_,rfl,hlc,.inr ⟨b,0,rfl,.inr ⟨o,_,cc,ho,hr⟩,bP (λ_ _=>rfl) (hHF g) rfl _ _ hrd⟩⟩
  cases h
 |wn o n=>
  simp only[yC] at h
  split at h
  .rename_i t sz els g ho
   simp at h;obtain⟨rfl,rfl⟩:=h
   have hn:els.length=n:=he.1
   rcases hc with⟨h0,rfl,rfl⟩|⟨h0,b,cc,hr,rfl⟩
   .have:els=[]:=adn hn
    subst this
    rw[rdD];exact⟨ξ,0,rfl,abk _,.inl rfl⟩
   rcases hob o _ ho with⟨h1,_⟩|⟨_,b',c',arr,hr',hh,ha,hlc,hmx,hes,hrd,_⟩
   .simp_all
   rw[hr] at hr';cases hr'
   subst hn
   rw[rdD]
   exact⟨_,_,rfl,hlc,.inr ⟨b,0,rfl,.inr ⟨o,_,cc,ho,hr⟩,bP (λ_ _=>rfl) (hHF g) rfl _ _ hrd⟩⟩
  cases h
 |s o sz off len=>
  simp only[yC] at h
  split at h
  .rename_i t sz' els g m ho
   split at h
   .rename_i hb
    have hsz:=aat hb
    subst hsz
    simp at h;obtain⟨rfl,rfl⟩:=h
    obtain⟨A,cc,b,k,hr,rfl,hlc',_,hA⟩:=hc
    obtain⟨b',c',arr,hr',hh,ha,hlc,hmx,hes,hrd,_⟩:=hob o _ ho
    rw[hr] at hr';cases hr'
    have hle:off+len-els.length=0:=he.1
    have hl:((els.drop off).take len).length=len:=by simp;omega
    rw[rdD]
    refine⟨A,cc,by rw[hl],by omega,?_⟩
    rcases hA with h0|h0
    .exact .inl (adn oaa)
    right;exact⟨b,off*sz,h0,.inr ⟨o,_,k,ho,hr⟩,bP (λ_ _=>rfl) (hHF g) rfl _ _ (by simpa using oc len (AX hrd hes off))⟩
   cases h
  cases h
 |_=>grind[yC]
theorem ND:∀{cs:List C} {xs:List D} {e:Lac} {us:Lae},NC nob cs=ς (xs,e)->Eqs e->CV E w cs us->DV w (mJ E nob) xs us
 |[],xs,e,us,h,he,hc=>by
  simp[NC] at h;obtain⟨rfl,rfl⟩:=h
  cases us with
  |nil=>trivial
  |cons _ _=>exact hc.elim
 |c::cs,xs,e,us,h,he,hc=>by
  cases us with
  |nil=>exact hc.elim
  |cons u us=>
   simp only[NC] at h
   split at h
   .rename_i x e1 xs' e2 h1 h2
    simp at h;obtain⟨rfl,rfl⟩:=h
    obtain⟨k1,k2⟩:=dE he
    exact⟨Gi ok hob h1 k1 hc.1,ND h2 k2 hc.2⟩
   cases h
theorem acV{t:T}{x:AV}{e:Lac}(h:tdat nob t=ς (x,e))(he:Eqs e)(hc:cvT E w t u):avR w (mJ E nob) x u:=by
 unfold tdat at h
 split at h
 .split at h
  .rename_i h1;simp at h;obtain⟨rfl,rfl⟩:=h;exact Gi ok hob h1 he hc
  cases h
 .split at h
  .rename_i h1;simp at h;obtain⟨rfl,rfl⟩:=h;obtain⟨arr,hu,hc⟩:=hc;exact⟨arr,hu,ND ok hob h1 he hc⟩
  cases h
 cases h
theorem PO{a:Act}:∀{ts:List T} {xs:List AV} {e:Lac} {args:List Operand},K9 nob ts=ς (xs,e)->Eqs e->ts.length=args.length->(∀x t,(x,t)∈args.zip ts->cvT E w t (a.eval x))->AR w (mJ E nob) xs (args.map a.eval)
 |[],xs,e,[],h,he,hl,hn=>by simp[K9] at h;obtain⟨rfl,rfl⟩:=h;trivial
 |t::ts,xs,e,x::args,h,he,hl,hn=>by
  simp only[K9] at h
  split at h
  .rename_i y e1 ys e2 h1 h2
   simp at h;obtain⟨rfl,rfl⟩:=h
   obtain⟨k1,k2⟩:=dE he
   exact⟨acV ok hob h1 k1 (hn x t (by simp)),PO h2 k2 (by simp_all) λx t hm=>hn x t (by simp_all)⟩
  cases h
 |[],_,_,_::_,_,_,hl,_=>by simp at hl
 |_::_,_,_,[],_,_,hl,_=>by simp at hl
theorem Nz{c:C}{e:Lac}(h:Bo nob c=ς (x,e))(he:Eqs e)(hc:cvC E w c u):rdD w (yS E nob) x u:=by
 have gen:∀{c:C},yC nob c=ς (x,e)->cvC E w c u->rdD w (yS E nob) x u:=λh hc=>bQ (λ_ _=>rfl) (λb hb=>.inl hb) _ _ (Gi ok hob h he hc)
 cases c with
 |r l y=>simp[Bo] at h;obtain⟨rfl,rfl⟩:=h;exact bQ (λ_ _=>rfl) (λb hb=>.inr ⟨l,hb⟩) _ _ hc
 |d g y=>cases g with
  |b g=>exact gen (by simpa only[Bo] using h) hc
  |s l=>simp[Bo] at h;obtain⟨rfl,rfl⟩:=h;exact bQ (λ_ _=>rfl) (λb hb=>.inr ⟨l,hb⟩) _ _ (mw (g:=.s l) hc)
  |t l=>simp[Bo] at h;obtain⟨rfl,rfl⟩:=h;exact bQ (λ_ _=>rfl) (λb hb=>.inr ⟨l,hb⟩) _ _ (mw (g:=.t l) hc)
 |w o n=>
  simp only[Bo] at h
  split at h
  .rename_i t sz els l m ho
   simp at h;obtain⟨rfl,rfl⟩:=h
   obtain⟨b,cc,hr,rfl⟩:=hc
   obtain⟨b',c',arr,hr',hh,ha,hlc,hmx,hes,hrd,_⟩:=hob o _ ho
   rw[hr] at hr';cases hr'
   have hn:els.length=n:=he.1
   subst hn
   rw[rdD]
   exact⟨_,_,rfl,hlc,.inr ⟨b,0,rfl,.inl (.inr ⟨o,_,cc,ho,hr⟩),bP (λ_ _=>rfl) (λb hb=>.inr ⟨l,hb⟩) rfl _ _ hrd⟩⟩
  exact gen h hc
 |s o sz off len=>
  simp only[Bo] at h
  split at h
  .rename_i t sz' els l m ho
   split at h
   .rename_i hb
    have hsz:=aat hb
    subst hsz
    simp at h;obtain⟨rfl,rfl⟩:=h
    obtain⟨A,cc,b,k,hr,rfl,hlc',_,hA⟩:=hc
    obtain⟨b',c',arr,hr',hh,ha,hlc,hmx,hes,hrd,_⟩:=hob o _ ho
    rw[hr] at hr';cases hr'
    have hle:off+len-els.length=0:=he.1
    have hl:((els.drop off).take len).length=len:=by simp;omega
    rw[rdD]
    refine⟨A,cc,by rw[hl],by omega,?_⟩
    rcases hA with h0|h0
    .exact .inl (adn oaa)
    right;exact⟨b,off*sz,h0,.inl (.inr ⟨o,_,k,ho,hr⟩),bP (F:=E.T l) (λ_ _=>rfl) (λb hb=>.inr ⟨l,hb⟩) rfl _ _ (by simpa [Env.H] using oc len (AX hrd hes off))⟩
   cases h
  exact gen h hc
 |_=>grind[Bo]
theorem Ki:∀{cs:List C} {xs:List D} {e:Lac} {us:Lae},G6 nob cs=ς (xs,e)->Eqs e->CV E w cs us->DV w (yS E nob) xs us
 |[],xs,e,us,h,he,hc=>by
  simp[G6] at h;obtain⟨rfl,rfl⟩:=h
  cases us with
  |nil=>trivial
  |cons _ _=>exact hc.elim
 |c::cs,xs,e,us,h,he,hc=>by
  cases us with
  |nil=>exact hc.elim
  |cons u us=>
   simp only[G6] at h
   split at h
   .rename_i x e1 xs' e2 h1 h2
    simp at h;obtain⟨rfl,rfl⟩:=h
    obtain⟨k1,k2⟩:=dE he
    exact⟨Nz ok hob h1 k1 hc.1,Ki h2 k2 hc.2⟩
   cases h
theorem ZZ{t:T}{x:AV}{e:Lac}(h:ZY nob t=ς (x,e))(he:Eqs e)(hc:cvT E w t u):avR w (yS E nob) x u:=by
 unfold ZY at h
 split at h
 .split at h
  .rename_i h1;simp at h;obtain⟨rfl,rfl⟩:=h;exact Nz ok hob h1 he hc
  cases h
 .split at h
  .rename_i h1;simp at h;obtain⟨rfl,rfl⟩:=h;obtain⟨arr,hu,hc⟩:=hc;exact⟨arr,hu,Ki ok hob h1 he hc⟩
  cases h
 cases h
theorem A7{a:Act}:∀{ts:List T} {xs:List AV} {e:Lac} {args:List Operand},rQ nob ts=ς (xs,e)->Eqs e->ts.length=args.length->(∀x t,(x,t)∈args.zip ts->cvT E w t (a.eval x))->AR w (yS E nob) xs (args.map a.eval)
 |[],xs,e,[],h,he,hl,hn=>by simp[rQ] at h;obtain⟨rfl,rfl⟩:=h;trivial
 |t::ts,xs,e,x::args,h,he,hl,hn=>by
  simp only[rQ] at h
  split at h
  .rename_i y e1 ys e2 h1 h2
   simp at h;obtain⟨rfl,rfl⟩:=h
   obtain⟨k1,k2⟩:=dE he
   exact⟨ZZ ok hob h1 k1 (hn x t (by simp)),A7 h2 k2 (by simp_all) λx t hm=>hn x t (by simp_all)⟩
  cases h
 |[],_,_,_::_,_,_,hl,_=>by simp at hl
 |_::_,_,_,[],_,_,hl,_=>by simp at hl
end
def UM(nx:Nat):RC->Option (C×Laa×Nat)
 | .d (.i k n)=>ς (.d η (.i k n),[],nx)
 | .d (.b x)=>ς (.d η (.b x),[],nx)
 | .d (.str s)=>ς (.d η (.str s),[],nx)
 | .d (.l xs)=>ς (.d ζ (.l xs),[],nx)
 | .d (.k _ _ _)=>ξ
 | .own ty sz els n=>ς (.w nx n,[(nx,.row ty sz els ζ ζ)],nx+1)
 | .nil=>ς (.nil,[],nx)
def N5(nx:Nat):List RC->Option (List C×Laa×Nat)
 |[]=>ς ([],[],nx)
 |r::rs=>match UM nx r with
  |some (c,b,n)=>match N5 n rs with
   |some (cs,bs,m)=>ς (c::cs,b++bs,m)
   |none=>ξ
  |none=>ξ
def X3(nx:Nat):RV->Option (V×Laa×Nat)
 | .c r=>match UM nx r with
  |some (c,b,n)=>ς (.c c,b,n)
  |none=>ξ
 | .agg rs=>match N5 nx rs with
  |some (c,b,n)=>ς (.agg c,b,n)
  |none=>ξ
def Oa(nx:Nat):List RV->Option (List V×Laa×Nat)
 |[]=>ς ([],[],nx)
 |r::rs=>match X3 nx r with
  |some (c,b,n)=>match Oa n rs with
   |some (cs,bs,m)=>ς (c::cs,b++bs,m)
   |none=>ξ
  |none=>ξ
def BT(nx:Nat):List RV->Option (T×Laa×Nat)
 |[r]=>match X3 nx r with
  |some (v,b,n)=>ς (.v v,b,n)
  |none=>ξ
 |rs=>match Oa nx rs with
  |some (v,b,n)=>ς (.tup v,b,n)
  |none=>ξ
def Imp(E:Env)(w:World)(nx n:Nat)(bs:Lac)(nw:Laa):Prop:=
 n=nx+bs.length/\(∀l x,(l,x)∈nw->cN E w l x/\nx<=l/\l<n)/\∀l,nx<=l->l<n->∃x,(l,x)∈nw
theorem Imp.join{m:Nat}{b1 b2:Lac}{nw1 nw2:Laa}(h1:Imp E w nx n b1 nw1)(h2:Imp E w n m b2 nw2):Imp E w nx m (b1++b2) (nw1++nw2):=by
 obtain⟨rfl,h1b,h1c⟩:=h1
 obtain⟨rfl,h2b,h2c⟩:=h2
 refine⟨by simp;omega,λl x hm=>?_,λl hl1 hl2=>?_⟩
 .grind
 grind
section
variable{E:Env}{w:World}{G:Nat->Prop}{base:Nat}(hG:∀b,G b->E.G b)(hnF:∀b:Nat,base<=b->¬G b->¬E.F b)
include hG hnF
theorem SL{r:RC}{bs:Lac}{c:C}{nw:Laa}(h:UM nx r=ς (c,nw,n))(hr:rcR w G base r u bs)(hb:∀(i:Nat) (p:Nat×Nat),bs[i]?=ς p->E.r (nx+i)=ς p):
 cvC E w c u/\Imp E w nx n bs nw:=by
 cases r with
 |d x=>
  obtain⟨rfl,hr⟩:=hr
  cases x<;>simp[UM] at h<;>obtain⟨rfl,rfl,rfl⟩:=h<;>refine⟨?_,⟨rfl,by simp,λl h1 h2=>by omega⟩⟩
  .simp_all[cvC,gD,rdD]
  .simp_all[cvC,gD,rdD]
  .simp_all[cvC,gD,rdD]
  exact bQ (λ_ _=>rfl) hG _ _ hr
 |own ty sz els n'=>
  obtain⟨b,cc,arr,rfl,rfl,hh,ha,hlc,hmx,hes,hrd,hgb,hbb⟩:=hr
  simp[UM] at h;obtain⟨rfl,rfl,rfl⟩:=h
  have:=hb 0 (b,cc) rfl
  rw[adC] at this
  refine⟨⟨b,cc,this,rfl⟩,⟨rfl,λl x hm=>?_,λl h1 h2=>⟨.row ty sz els ζ ζ,by grind⟩⟩⟩
  simp at hm;obtain⟨rfl,rfl⟩:=hm
  exact⟨⟨b,cc,arr,this,hh,ha,hlc,hmx,hes,bP (λ_ _=>rfl) hG rfl _ _ hrd,λ_=>hnF b hbb hgb,(λh=>by cases h),θ⟩,by omega,by omega⟩
 |nil=>
  obtain⟨rfl,hr⟩:=hr
  simp[UM] at h;obtain⟨rfl,rfl,rfl⟩:=h
  exact⟨hr,⟨rfl,by simp,λl h1 h2=>by omega⟩⟩
omit hG hnF in
theorem Ny{b1 b2:Lac}(hb:∀(i:Nat) (p:Nat×Nat),(b1++b2)[i]?=ς p->E.r (nx+i)=ς p):
 (∀(i:Nat) (p:Nat×Nat),b1[i]?=ς p->E.r (nx+i)=ς p)/\∀(i:Nat) (p:Nat×Nat),b2[i]?=ς p->E.r (nx+b1.length+i)=ς p:=by
 refine⟨λi p hi=>hb i p ?_,λi p hi=>?_⟩
 .grind
 have:=hb (b1.length+i) p (by grind)
 grind
theorem N6:∀{rs:List RC} {us:Lae} {bs:Lac} {nx n:Nat} {cs:List C} {nw:Laa},N5 nx rs=ς (cs,nw,n)->My w G base rs us bs->(∀(i:Nat) (p:Nat×Nat),bs[i]?=ς p->E.r (nx+i)=ς p)->
 CV E w cs us/\Imp E w nx n bs nw
 |[],us,bs,nx,n,cs,nw,h,hr,hb=>by
  simp[N5] at h;obtain⟨rfl,rfl,rfl⟩:=h
  cases us with
  |nil=>have:bs=[]:=hr;subst this;exact⟨θ,⟨rfl,by simp,λl h1 h2=>by omega⟩⟩
  |cons _ _=>exact hr.elim
 |r::rs,us,bs,nx,n,cs,nw,h,hr,hb=>by
  cases us with
  |nil=>exact hr.elim
  |cons u us=>
   obtain⟨b1,b2,rfl,hr1,hr2⟩:=hr
   simp only[N5] at h
   split at h
   .rename_i c nw1 n1 h1
    split at h
    .rename_i cs2 nw2 n2 h2
     simp at h;obtain⟨rfl,rfl,rfl⟩:=h
     obtain⟨hb1,hb2⟩:=Ny hb
     obtain⟨k1,k2⟩:=SL hG hnF h1 hr1 hb1
     have hn1:=k2.1
     subst hn1
     obtain⟨m1,m2⟩:=N6 h2 hr2 hb2
     exact⟨⟨k1,m1⟩,k2.join m2⟩
    cases h
   cases h
theorem SM{r:RV}{bs:Lac}{nw:Laa}(h:X3 nx r=ς (v,nw,n))(hr:rvR w G base r u bs)(hb:∀(i:Nat) (p:Nat×Nat),bs[i]?=ς p->E.r (nx+i)=ς p):
 cvV E w v u/\Imp E w nx n bs nw:=by
 cases r with
 |c r=>
  simp only[X3] at h
  split at h
  .rename_i h1;simp at h;obtain⟨rfl,rfl,rfl⟩:=h;exact SL hG hnF h1 hr hb
  cases h
 |agg rs=>
  simp only[X3] at h
  split at h
  .rename_i h1;simp at h;obtain⟨rfl,rfl,rfl⟩:=h
   obtain⟨arr,hu,hr⟩:=hr
   obtain⟨k1,k2⟩:=N6 hG hnF h1 hr hb
   exact⟨⟨arr,hu,k1⟩,k2⟩
  cases h
theorem HQ:∀{rs:List RV} {us:Lae} {bs:Lac} {nx n:Nat} {cs:List V} {nw:Laa},Oa nx rs=ς (cs,nw,n)->MD w G base rs us bs->(∀(i:Nat) (p:Nat×Nat),bs[i]?=ς p->E.r (nx+i)=ς p)->
 VV E w cs us/\Imp E w nx n bs nw
 |[],us,bs,nx,n,cs,nw,h,hr,hb=>by
  simp[Oa] at h;obtain⟨rfl,rfl,rfl⟩:=h
  cases us with
  |nil=>have:bs=[]:=hr;subst this;exact⟨θ,⟨rfl,by simp,λl h1 h2=>by omega⟩⟩
  |cons _ _=>exact hr.elim
 |r::rs,us,bs,nx,n,cs,nw,h,hr,hb=>by
  cases us with
  |nil=>exact hr.elim
  |cons u us=>
   obtain⟨b1,b2,rfl,hr1,hr2⟩:=hr
   simp only[Oa] at h
   split at h
   .rename_i c nw1 n1 h1
    split at h
    .rename_i cs2 nw2 n2 h2
     simp at h;obtain⟨rfl,rfl,rfl⟩:=h
     obtain⟨hb1,hb2⟩:=Ny hb
     obtain⟨k1,k2⟩:=SM hG hnF h1 hr1 hb1
     have hn1:=k2.1
     subst hn1
     obtain⟨m1,m2⟩:=HQ h2 hr2 hb2
     exact⟨⟨k1,m1⟩,k2.join m2⟩
    cases h
   cases h
theorem AF{rs:List RV}{bs:Lac}{t:T}{nw:Laa}(h:BT nx rs=ς (t,nw,n))(hr:II w G base rs u bs)(hb:∀(i:Nat) (p:Nat×Nat),bs[i]?=ς p->E.r (nx+i)=ς p):
 cvT E w t u/\Imp E w nx n bs nw:=by
 match rs,h,hr with
 |[r],h,hr=>
  simp only[BT] at h
  split at h
  .rename_i h1;simp at h;obtain⟨rfl,rfl,rfl⟩:=h;exact SM hG hnF h1 hr hb
  cases h
 |[],h,hr=>
  simp only[BT] at h
  split at h
  .rename_i h1;simp at h;obtain⟨rfl,rfl,rfl⟩:=h
   obtain⟨arr,hu,hr⟩:=hr
   obtain⟨k1,k2⟩:=HQ hG hnF h1 hr hb
   exact⟨⟨arr,hu,k1⟩,k2⟩
  cases h
 |r1::r2::rs,h,hr=>
  simp only[BT] at h
  split at h
  .rename_i h1;simp at h;obtain⟨rfl,rfl,rfl⟩:=h
   obtain⟨arr,hu,hr⟩:=hr
   obtain⟨k1,k2⟩:=HQ hG hnF h1 hr hb
   exact⟨⟨arr,hu,k1⟩,k2⟩
  cases h
end
theorem Y5{G:Nat->Prop}{base:Nat}{r:RC}{bs:Lac}(h:rcR w G base r u bs):∀p∈bs,base<=p.1/\p.1<w.heap.size:=by
 cases r with
 |d x=>obtain⟨rfl,_⟩:=h;simp
 |own ty sz els n=>
  obtain⟨b,c,arr,rfl,_,hh,_,_,_,_,_,_,hb⟩:=h
  grind
 |nil=>obtain⟨rfl,_⟩:=h;simp
theorem TA{w:World}{G:Nat->Prop}{base:Nat}:∀{rs:List RC} {us:Lae} {bs:Lac},My w G base rs us bs->∀p∈bs,base<=p.1/\p.1<w.heap.size
 |[],[],bs,h=>by have:bs=[]:=h;simp_all
 |r::rs,u::us,bs,h=>λp hp=>by
  obtain⟨b1,b2,rfl,h1,h2⟩:=h
  rcases aau.1 hp with h|h
  .exact Y5 h1 p h
  exact TA h2 p h
 |[],_::_,_,h=>h.elim
 |_::_,[],_,h=>h.elim
theorem Zn{G:Nat->Prop}{base:Nat}{r:RV}{bs:Lac}(h:rvR w G base r u bs):∀p∈bs,base<=p.1/\p.1<w.heap.size:=by
 cases r with
 |c r=>exact Y5 h
 |agg rs=>obtain⟨_,_,h⟩:=h;exact TA h
theorem ME{w:World}{G:Nat->Prop}{base:Nat}:∀{rs:List RV} {us:Lae} {bs:Lac},MD w G base rs us bs->∀p∈bs,base<=p.1/\p.1<w.heap.size
 |[],[],bs,h=>by have:bs=[]:=h;simp_all
 |r::rs,u::us,bs,h=>λp hp=>by
  obtain⟨b1,b2,rfl,h1,h2⟩:=h
  rcases aau.1 hp with h|h
  .exact Zn h1 p h
  exact ME h2 p h
 |[],_::_,_,h=>h.elim
 |_::_,[],_,h=>h.elim
theorem AZ{G:Nat->Prop}{base:Nat}{rs:List RV}{bs:Lac}(h:II w G base rs u bs):∀p∈bs,base<=p.1/\p.1<w.heap.size:=by
 match rs,h with
 |[r],h=>exact Zn h
 |[],h=>obtain⟨_,_,h⟩:=h;exact ME h
 |_::_::_,h=>obtain⟨_,_,h⟩:=h;exact ME h
section
variable{P:Program}{N:Nat}{d:Tmp}{ty:TypeId}{ps:String}{af:Array Edge}{gd:Option (Nat×Bool)}{st:St}
def Env.after(E:Env)(nx:Nat)(bs:Lac)(G:Nat->Prop):Env:=
 ⟨λo=>if nx<=o/\o<nx+bs.length then bs[o-nx]? else E.r o,λb=>E.F b\/G b,λb=>E.G b\/G b,E.T,E.Z,E.n⟩
theorem Ee{bs:Lac}{G:Nat->Prop}(ok:dr cx E w)(hp:GR w w' (λ_=>False))(hG:∀b,G b->w.heap.size<=b/\b<w'.heap.size/\fR w' b)(hbs:∀p∈bs,w.heap.size<=p.1/\p.1<w'.heap.size)(hnd:(bs.map (·.1)).Nodup)(hfr:∀l,nx<=l->l<nx+bs.length->E.r l=ξ/\rsv l=η):
 dr cx (E.after nx bs G) w'/\Ext E w (E.after nx bs G) w':=by
 have hsz:=hp.size
 have hws:=ok.size
 have hnew:∀o b c,(E.after nx bs G).r o=ς (b,c)->(nx<=o/\o<nx+bs.length/\bs[o-nx]?=ς (b,c))\/(E.r o=ς (b,c)):=by
  intro o b c h
  simp only[Env.after] at h
  split at h
  .simp_all
  exact .inr h
 refine⟨⟨λb hb=>?_,λb hb=>?_,λb hb=>?_,λo b c h=>?_,λo o' b c c' h h'=>?_,by rw[hp.os];exact ok.os,by rw[hp.tape];exact ok.tape,by rw[hp.output];exact ok.output,by omega,λb hb hW=>?_,λo x hx h=>?_,λb hb=>hb.elim (ok.ff b) (λh=>.inr (by grind)),
  λb hb hb'=>hb.elim (λh=>(ok.gc b h hb').of_eq (hp.block b (ok.fb b h) (λh=>h))) (λh=>(hG b h).2.2),
  ok.sf.grow rfl rfl (λb hb=>hb.elim .inl (λh=>.inr (hG b h).1)) (λo b c h=>by
   grind) hsz (λb hb=>hp.block b hb (λh=>h))⟩,
  ⟨λo x h=>?_,λb h=>.inl h,λb h=>.inl h,λb h=>?_,λb hb=>hp.block b hb (λh=>h),λ_ _ h=>h,λ_ _ h=>.inl h,rfl,rfl⟩⟩
 .rcases hb with h|h
  .have:=ok.fb b h;omega
  simp_all
 .rcases hb with h|h
  .exact .inl (ok.gf b h)
  exact .inr h
 .rcases hb with h|h
  .exact ok.gn b h
  grind
 .rcases hnew o b c h with⟨_,_,h⟩|h
  .have:=hbs _ (v0 h);exact⟨this.2,.inl (.inl (acR hws this.1))⟩
  have:=ok.rb o b c h;exact⟨by omega,this.2⟩
 .rcases hnew o b c h with⟨h1,h2,h3⟩|h3<;>rcases hnew o' b c' h' with⟨k1,k2,k3⟩|k3
  .have hi:o-nx<bs.length:=by omega
   have hj:o'-nx<bs.length:=by omega
   rcases Nat.lt_trichotomy (o-nx) (o'-nx) with hlt|heq|hlt
   .exfalso
    have:=adl.1 hnd (o-nx) (o'-nx) (by simp_all) (by simp_all) hlt
    simp_all
   .omega
   exfalso
   have:=adl.1 hnd (o'-nx) (o-nx) (by simp_all) (by simp_all) hlt
   simp_all
  .have h5:=hbs _ (v0 h3);have h6:=ok.rb o' b c' k3;omega
  .have h5:=hbs _ (v0 k3);have h6:=ok.rb o b c h3;omega
  exact ok.inj o o' b c c' h3 k3
 .rw[hp.block b oaa (λh=>h)];exact ok.block b hb hW
 .rcases hnew o x.1 x.2 h with⟨h1,h2,_⟩|h
  .rw[xT (hfr o h1 h2).2] at hx;cases hx
  exact ok.pin o x hx h
 .simp only[Env.after]
  grind
 rcases h with h|h
 .exact .inl h
 simp_all
theorem n_call{f:FuncId}{args:List Operand}{tys:Array TypeId}{ts:List T}{avs:List AV}{eqs:Lac}{nw:Laa}(hl:ts.length=args.length)(ha:rQ nob ts=ς (avs,eqs))(hF:Fn P f avs res)(he:Eqs eqs)(hi:BT nx res=ς (out,nw,n)):
 AWN P ⟨ς d,.call ⟨.value (.func f),args.toArray,tys⟩,ty,ps,af,gd⟩ (args.zip ts) nob out nw:=by
 intro cx E a w ok hn hb hfr
 have hob:∀l x,go nob l=ς x->cN E w l x:=λl x h=>hb l x (BL h)
 have hA:=A7 ok hob ha he hl hn
 have hFb:∀b,yS E nob b->b<w.heap.size:=by
  rintro b ((h|⟨l,x,c,h1,h2⟩)|⟨l,h⟩)
  .exact ok.fb b h
  .exact(ok.rb l b c h2).1
  exact(ok.sf.tb l b h).1.1
 have hc:=hF.calls (yS E nob) w (args.map a.eval).toArray hFb ok.tabs oaa
 have hent:=hF.enters (args.map a.eval).toArray w
 unfold Oper.wp
 have hrun:(execOp a.eval ⟨ς d,.call ⟨.value (.func f),args.toArray,tys⟩,ty,ps,af,gd⟩).run P w= .ok (.enter f (args.map a.eval).toArray) w:=by
  simp only[execOp,resolve,Act.eval,Deferred.ofValue,Sem.run_bind,Sem.run_pure,Result.andThen_ok,invoke]
  simpa using hent
 rw[hrun,Oper.upon_enter]
 refine hc.mono ?_
 rintro e w' ⟨v,G,bs,rfl,hp,hG,hres,hnd⟩
 have hbs:=AZ hres
 have hlen:∀l,nx<=l->l<nx+bs.length->E.r l=ξ/\rsv l=false:=by
  have himp:=AF (E:=⟨λo=>bs[o-nx]?,G,G,λ_ _=>False,λ_=>False,λ_=>False⟩) (λ_ h=>h) (λb _ h=>h) hi hres (λi p hi=>by simp_all)
  intro l h1 h2
  obtain⟨x,hx⟩:=himp.2.2.2 l h1 (by rw[himp.2.1];exact h2)
  exact hfr l x hx
 obtain⟨ok',ext⟩:=Ee ok hp hG hbs hnd hlen
 have himp:=AF (E:=E.after nx bs G) (G:=G) (base:=w.heap.size) (λb h=>.inr h) (λb hb hng hF=>by
  rcases hF with h|h
  .have:=ok.fb b h;omega
  simp_all) hi hres (λi p hi=>by
   have:i<bs.length:=(f5.1 hi).1
   simp only[Env.after];simp_all)
 refine⟨v,E.after nx bs G,rfl,ok',ext,himp.1,λl ob hm=>(himp.2.2.1 l ob hm).1,λl x hx=>?_⟩
 simp only[Env.after] at hx
 split at hx
 .rename_i hh;obtain⟨x,hx⟩:=himp.2.2.2 l hh.1 (by rw[himp.2.1];exact hh.2);grind
 simp_all
structure Inf where
 d:Tmp
 needs:List (Operand×T)
 nob:Laa
 out:T
 nw:Laa
def NS(P:Program)(N:Nat)(o:Oper)(st st':St)(x:Inf):Prop:=
 AWN P o x.needs x.nob x.out x.nw/\o.dst=ς x.d/\x.d<N/\Lk st.sl x.needs/\Lo st.ob x.nob/\Nw st.nx x.nw st'.nx/\st'=⟨(x.d,x.out)::st.sl,x.nw++st.ob,st'.nx⟩
theorem dx{o:Oper}{needs:List (Operand×T)}{nw:Laa}(h:AWN P o needs nob out nw)(hd:o.dst=ς d)(hN:nlt d N=ζ)(hn:Lk st.sl needs)(hb:Lo st.ob nob)(hw:Nw st.nx nw n):
 NS P N o st ⟨(d,out)::st.sl,nw++st.ob,n⟩ ⟨d,needs,nob,out,nw⟩:=⟨h,hd,bV hN,hn,hb,hw,rfl⟩
theorem YH{o:Oper}{st':St}{x:Inf}(h:NS P N o st st' x):AWO P N o st st':=by
 obtain⟨h1,h2,h3,h4,h5,h6,h7⟩:=h
 rw[h7]
 exact Qh h1 h2 h3 h4 h5 h6
theorem Bn{ops:Array Oper}{l:List Oper}{o:Oper}{st':St}{x:Inf}{K:St->Prop}(hg:o.guard=ξ)(h:NS P N o st st' x)(h':AWR P N ops l st' K):AWR P N ops (o::l) st K:=qK hg (YH h) h'
theorem Lv{ops:Array Oper}{l:List Oper}{o:Oper}{st':St}{x:Inf}{K:St->Prop}{b:Bool}(hg:o.guard=ς (j,b))(hj:(ops[j]?).bind (·.dst)=ς dj)(hdj:nlt dj N=ζ)(hb:gt st.sl dj=tB b)(h:NS P N o st st' x)(h':AWR P N ops l st' K):AWR P N ops (o::l) st K:=Bm hg hj (bV hdj) hb (YH h) h'
def DS(P:Program)(N:Nat)(ops:Array Oper)(o:Oper)(st st':St)(x:Inf):Prop:=
 (o.guard=ξ/\NS P N o st st' x)\/
 (∃j dj b y,o.guard=ς (j,b)/\(ops[j]?).bind (·.dst)=ς dj/\dj<N/\gt st.sl dj=tB b/\NS P N o st st' y/\x={y with needs:=(.tmp dj,tB b)::y.needs})\/
 (∃j dj b d,o.guard=ς (j,b)/\(ops[j]?).bind (·.dst)=ς dj/\dj<N/\noG b (gt st.sl dj)=ζ/\o.dst=ς d/\d<N/\x=⟨d,[(.tmp dj,gt st.sl dj)],[],.tup [],[]⟩/\st'=⟨(d,.tup [])::st.sl,st.ob,st.nx⟩)
def A9(s t:St):Prop:=(∀k,gt s.sl k=gt t.sl k)/\s.ob=t.ob/\s.nx=t.nx
def DR(P:Program)(N:Nat)(ops:Array Oper):List Oper->List Inf->St->(List Inf->St->Prop)->Prop
 |[],is,st,K=>K is st
 |o::r,is,st,K=>∃x st1 st',DS P N ops o st st1 x/\A9 st1 st'/\DR P N ops r (is++[x]) st' K
section
variable{ops:Array Oper}{l:List Oper}{o:Oper}{st':St}{x:Inf}{K:List Inf->St->Prop}{is:List Inf}
theorem dr_nil(h:K is st):DR P N ops [] is st K:=h
theorem A9.refl(s:St):A9 s s:=⟨λ_=>rfl,rfl,rfl⟩
theorem dr_n(hg:o.guard=ξ)(h:NS P N o st st' x)(h':DR P N ops l (is++[x]) st' K):DR P N ops (o::l) is st K:=⟨x,st',st',.inl ⟨hg,h⟩,.refl _,h'⟩
theorem Xp{b:Bool}(hg:o.guard=ς (j,b))(hj:(ops[j]?).bind (·.dst)=ς dj)(hdj:nlt dj N=ζ)(hb:gt st.sl dj=tB b)(h:NS P N o st st' x)(h':DR P N ops l (is++[{x with needs:=(.tmp dj,tB b)::x.needs}]) st' K):DR P N ops (o::l) is st K:=⟨_,st',st',.inr (.inl ⟨j,dj,b,x,hg,hj,bV hdj,hb,h,rfl⟩),.refl _,h'⟩
theorem abg{d:Tmp}{b:Bool}(hg:o.guard=ς (j,b))(hj:(ops[j]?).bind (·.dst)=ς dj){t:T}(hdj:nlt dj N=ζ)(ht:gt st.sl dj=t)(hb:noG b t=ζ)(hd:o.dst=ς d)(hN:nlt d N=ζ)(h':DR P N ops l (is++[⟨d,[(.tmp dj,t)],[],.tup [],[]⟩]) ⟨(d,.tup [])::st.sl,st.ob,st.nx⟩ K):DR P N ops (o::l) is st K:=
 ⟨_,_,_,.inr (.inr ⟨j,dj,b,d,hg,hj,bV hdj,by simp_all,hd,bV hN,by rw[ht],rfl⟩),.refl _,h'⟩
theorem Fu{d:Tmp}{b c:Bool}(hb:gt st.sl d=tB b)(h:b=c):A9 st ⟨(d,tB c)::st.sl,st.ob,st.nx⟩:=by
 refine⟨λk=>?_,rfl,rfl⟩
 by_cases hk:d=k
 .subst hk;rw[da,hb,h]
 rw[ck _ _ hk]
end
end
theorem t6{s t:Lab}(h:∀k,gt s k=gt t k)(x:Operand):opT s x=opT t x:=by
 cases x with
 |tmp k=>exact h k
 |const v=>cases v<;>rfl
 |_=>rfl
theorem R3{s t:Lab}(h:∀k,gt s k=gt t k):∀{l:List (Operand×T)},Lk s l->Lk t l
 |[],_=>trivial
 |(x,v)::r,hl=>⟨by rw[<-t6 h];exact hl.1,R3 h hl.2⟩
section
variable{P:Program}{N:Nat}{ops:Array Oper}{l:List Oper}{o:Oper}{st st' st2:St}{K:List Inf->St->Prop}{is:List Inf}
theorem Py{t:St}(h:A9 s t)(d:Tmp)(v:T)(nw:Laa)(n:Nat):A9 ⟨(d,v)::s.sl,nw++s.ob,n⟩ ⟨(d,v)::t.sl,nw++t.ob,n⟩:=by
 refine⟨λk=>?_,by rw[h.2.1],rfl⟩
 by_cases hk:d=k
 .subst hk;rw[da,da]
 rw[ck _ _ hk,ck _ _ hk];exact h.1 k
theorem A9.trans{a b c:St}(h:A9 a b)(k:A9 b c):A9 a c:=⟨λi=>(h.1 i).trans (k.1 i),h.2.1.trans k.2.1,h.2.2.trans k.2.2⟩
theorem To{x:Inf}(h:A9 st st2)(hn:NS P N o st2 st' x):∃s',NS P N o st s' x/\A9 s' st':=by
 obtain⟨h1,h2,h3,h4,h5,h6,h7⟩:=hn
 refine⟨⟨(x.d,x.out)::st.sl,x.nw++st.ob,st'.nx⟩,⟨h1,h2,h3,R3 (λk=>(h.1 k).symm) h4,by rw[h.2.1];exact h5,by rw[h.2.2];exact h6,rfl⟩,?_⟩
 rw[h7]
 exact Py h _ _ _ _
theorem So(h:A9 st st2)(hd:DR P N ops (o::l) is st2 K):DR P N ops (o::l) is st K:=by
 obtain⟨x,st1,st',hds,hs,hr⟩:=hd
 rcases hds with⟨hg,hn⟩|⟨j,dj,b,y,hg,hj,hdj,hb,hn,rfl⟩|⟨j,dj,b,d,hg,hj,hdj,hb,hd,hN,rfl,rfl⟩
 .obtain⟨s',k1,k2⟩:=To h hn
  exact⟨x,s',st',.inl ⟨hg,k1⟩,k2.trans hs,hr⟩
 .obtain⟨s',k1,k2⟩:=To h hn
  exact⟨_,s',st',.inr (.inl ⟨j,dj,b,y,hg,hj,hdj,by rw[h.1];exact hb,k1,rfl⟩),k2.trans hs,hr⟩
 refine⟨_,⟨(d,.tup [])::st.sl,st.ob,st.nx⟩,st',.inr (.inr ⟨j,dj,b,d,hg,hj,hdj,by rw[h.1];exact hb,hd,hN,by rw[h.1],rfl⟩),A9.trans ?_ hs,hr⟩
 have:=Py h d (.tup []) [] st.nx
 refine⟨this.1,this.2.1,h.2.2⟩
theorem Xq{d:Tmp}{b:Bool}(hb:gt st.sl d=tB b)(h1:b=ζ->DR P N ops (o::l) is ⟨(d,tB ζ)::st.sl,st.ob,st.nx⟩ K)(h0:b=η->DR P N ops (o::l) is ⟨(d,tB η)::st.sl,st.ob,st.nx⟩ K):DR P N ops (o::l) is st K:=by
 cases hc:b with
 |true=>exact So (Fu hb hc) (h1 hc)
 |false=>exact So (Fu hb hc) (h0 hc)
end
def js:List (Operand×T)->List Nat
 |[]=>[]
 |(.tmp k,_)::r=>k::js r
 |_::r=>js r
def anc(ops:Array Oper):Nat->Nat->Nat->Bool
 |0,_,_=>η
 |n+1,i,j=>match ops[i]? with
  |none=>η
  |some o=>o.after.toList.any λe=>Region.binds .any e&&(fW e.on j||anc ops n e.on j)
def vT(is:List Inf)(k:Nat):Option Nat:=is.findIdx? λx=>fW x.d k
def Yk(is:List Inf)(l:Nat):Option Nat:=is.findIdx? λx=>x.nw.any λp=>fW p.1 l
def tm:List Inf->Bool
 |[]=>ζ
 |x::xs=>!(xs.any λy=>fW x.d y.d)&&tm xs
def BI(ops:Array Oper)(is:List Inf)(nx:Nat):Bool:=
 fW is.length ops.size&&tm is&&
 (f6 is.length).all λi=>match is[i]?,ops[i]? with
  |some x,ς o=>
   (o.after.toList.all λe=>!Region.binds .any e||nlt e.on i)&&
   ((js x.needs).all λk=>match vT is k with
    |none=>ζ
    |some j=>if nlt j i then anc ops is.length i j else fW i j||anc ops is.length j i)&&
   (x.nob.all λp=>nlt p.1 nx||match Yk is p.1 with
    |none=>η
    |some j=>anc ops is.length i j)
  |_,_=>η
def after(base:St):List Inf->Lab×Laa
 |is=>(is.foldl (λs x=>(x.d,x.out)::s) base.sl,is.foldl (λs x=>x.nw++s) base.ob)
def wK(base:St)(is:List Inf):Lab:=is.foldl (λs x=>(x.d,x.out)::s) base.sl
def J1(base:St)(is:List Inf):Laa:=is.foldl (λs x=>x.nw++s) base.ob
theorem A6(base:St)(is:List Inf)(x:Inf):wK base (is++[x])=(x.d,x.out)::wK base is:=by simp[wK]
theorem KO(base:St)(is:List Inf)(x:Inf):J1 base (is++[x])=x.nw++J1 base is:=by simp[J1]
def Told(P:Program)(N:Nat)(ops:Array Oper)(base:St)(pre:List Inf)(o:Oper)(x:Inf):Prop:=
 (∀y t,(y,t)∈x.needs->opT (wK base pre) y=t)/\(∀l ob,(l,ob)∈x.nob->go (J1 base pre) l=ς ob)/\o.dst=ς x.d/\x.d<N/\
 ((o.guard=ξ/\AWN P o x.needs x.nob x.out x.nw)\/
  (∃j dj b ys,o.guard=ς (j,b)/\(ops[j]?).bind (·.dst)=ς dj/\dj<N/\x.needs=(.tmp dj,tB b)::ys/\AWN P o ys x.nob x.out x.nw)\/
  (∃j dj b t,o.guard=ς (j,b)/\(ops[j]?).bind (·.dst)=ς dj/\dj<N/\x.needs=[(.tmp dj,t)]/\noG b t=ζ/\x.out= .tup []/\x.nw=[]))
def fh(nx:Nat):List Inf->Nat->Prop
 |[],n=>n=nx
 |x::xs,n=>∃m,Nw nx x.nw m/\fh m xs n
theorem fh.snoc{x:Inf}:∀{is:List Inf} {nx n m:Nat},fh nx is n->Nw n x.nw m->fh nx (is++[x]) m
 |[],nx,n,m,h,h'=>by have:n=nx:=h;subst this;exact⟨m,h',rfl⟩
 |y::ys,nx,n,m,⟨k,h1,h2⟩,h'=>⟨k,h1,fh.snoc h2 h'⟩
theorem Sp{P:Program}{N:Nat}{ops:Array Oper}{base:St}{K:List Inf->St->Prop}:∀{l:List Oper} {is:List Inf} {st:St},DR P N ops l is st K->(∀k,gt st.sl k=gt (wK base is) k)->st.ob=J1 base is->fh base.nx is st.nx->
 ∃xs st',xs.length=l.length/\(∀(i:Nat) (o:Oper) (x:Inf),l[i]?=ς o->xs[i]?=ς x->Told P N ops base (is++xs.take i) o x)/\fh base.nx (is++xs) st'.nx/\(∀k,gt st'.sl k=gt (wK base (is++xs)) k)/\st'.ob=J1 base (is++xs)/\K (is++xs) st'
 |[],is,st,h,h1,h2,h3=>⟨[],st,rfl,by simp,by simp_all,by simp_all,by simp_all,by simpa [DR] using h⟩
 |o::l,is,st,⟨x,st1,st2,hds,hsame,hr⟩,h1,h2,h3=>by
  have hput:∀(out:T) (nw:Laa) (n:Nat),x.out=out->x.nw=nw->st1=⟨(x.d,out)::st.sl,nw++st.ob,n⟩->Nw st.nx nw n->((∀k,gt st2.sl k=gt (wK base (is++[x])) k)/\st2.ob=J1 base (is++[x]))/\fh base.nx (is++[x]) st2.nx:=by
   rintro out nw n rfl rfl rfl hnw
   refine⟨⟨λk=>?_,?_⟩,?_⟩
   .rw[<-hsame.1 k,A6]
    by_cases hk:x.d=k
    .rw[hk,da,da]
    rw[ck _ _ hk,ck _ _ hk];exact h1 k
   .rw[<-hsame.2.1,KO,h2]
   rw[<-hsame.2.2];exact h3.snoc hnw
  have key:Told P N ops base is o x/\((∀k,gt st2.sl k=gt (wK base (is++[x])) k)/\st2.ob=J1 base (is++[x]))/\fh base.nx (is++[x]) st2.nx:=by
   rcases hds with⟨hg,k1,k2,k3,k4,k5,k6,k7⟩|⟨j,dj,b,y,hg,hj,hdj,hb,⟨k1,k2,k3,k4,k5,k6,k7⟩,rfl⟩|⟨j,dj,b,d,hg,hj,hdj,hb,hd,hN,rfl,rfl⟩
   .exact⟨⟨λy t hm=>by rw[<-t6 h1];exact Lk.mem k4 y t hm,λl' ob hm=>by rw[<-h2];exact Lo.mem k5 l' ob hm,k2,k3,.inl ⟨hg,k1⟩⟩,hput _ _ _ rfl rfl k7 k6⟩
   .refine⟨⟨λy' t hm=>?_,λl' ob hm=>by rw[<-h2];exact Lo.mem k5 l' ob hm,k2,k3,.inr (.inl ⟨j,dj,b,y.needs,hg,hj,hdj,rfl,k1⟩)⟩,hput _ _ _ rfl rfl k7 k6⟩
    rw[<-t6 h1]
    rcases aa2.1 hm with e|hm
    .cases e;exact hb
    exact Lk.mem k4 y' t hm
   refine⟨⟨λy' t hm=>?_,by simp,hd,hN,.inr (.inr ⟨j,dj,b,_,hg,hj,hdj,rfl,hb,rfl,rfl⟩)⟩,hput (.tup []) [] st.nx rfl rfl rfl rfl⟩
   rw[<-t6 h1]
   simp at hm;obtain⟨rfl,rfl⟩:=hm;rfl
  obtain⟨hT,⟨m1,m2⟩,m3⟩:=key
  obtain⟨xs,st',n1,n2,n3,n4,n5,n6⟩:=Sp hr m1 m2 m3
  refine⟨x::xs,st',by simp[n1],λi o' x' hi hx=>?_,by simp_all,by simp_all,by simp_all,by simp_all⟩
  cases i with
  |zero=>simp_all
  |succ i=>simp_all
theorem MV{p:List α->Prop}(h0:p [])(h1:∀l x,p l->p (l++[x]))(l:List α):p l:=by
 have key:∀l:List α,p l.reverse:=by
  intro l
  induction l with
  |nil=>exact h0
  |cons x l ih=>simp_all
 have:=key l.reverse
 simp_all
theorem th{ops:Array Oper}{listed:Array Bool}(hc:∀i o,ops[i]?=ς o->listed.getD i η=ζ->∀e∈o.after,Region.binds .any e=ζ->listed.getD e.on η=ζ):
 ∀(n i j:Nat),anc ops n i j=ζ->(∃o,ops[i]?=ς o/\∀e∈o.after,Region.binds .any e=ζ->listed.getD e.on η=ζ)->listed.getD j η=ζ
 |0,i,j,h,_=>by simp[anc] at h
 |n+1,i,j,h,⟨o,ho,hd⟩=>by
  simp only[anc,ho,adi,f4,adf] at h
  obtain⟨e,he,hb,h⟩:=h
  have hl:=hd e (by simp_all) hb
  rcases h with h|h
  .rw[<-aat h];exact hl
  cases ho':ops[e.on]? with
  |none=>cases n<;>simp[anc,ho'] at h
  |some o'=>exact th hc n e.on j h ⟨o',ho',hc e.on o' ho' hl⟩
theorem tp:∀{is:List Inf},tm is=ζ->∀(i j:Nat) (x y:Inf),is[i]?=ς x->is[j]?=ς y->x.d=y.d->i=j
 |[],_,i,j,x,y,h,_,_=>by simp at h
 |z::is,h,i,j,x,y,hi,hj,he=>by
  simp only[tm,f4,ac8] at h
  have hno:∀(k:Nat) (v:Inf),is[k]?=ς v->z.d≠v.d:=λk v hk e=>by
   have:(is.any λy=>fW z.d y.d)=true:=adi.2 ⟨v,v0 hk,by simp[e]⟩
   grind
  cases i with
  |zero=>
   grind
  |succ i=>
   cases j with
   |zero=>grind
   |succ j=>have:=tp h.2 i j x y (by simp_all) (by simp_all) he;omega
theorem A5{base:St}:∀(is:List Inf) (k:Nat),(∀x∈is,x.d≠k)->gt (wK base is) k=gt base.sl k:=by
 intro is
 refine MV (p:=λis=>∀(k:Nat),(∀x∈is,x.d≠k)->gt (wK base is) k=gt base.sl k) ?_ ?_ is
 .intro k _;rfl
 intro is x ih k h
 rw[A6,ck _ _ (h x (by simp))]
 simp_all
theorem yi{base:St}:∀(is:List Inf) (i:Nat) (x:Inf),is[i]?=ς x->(∀(j:Nat) (y:Inf),is[j]?=ς y->y.d=x.d->j=i)->gt (wK base is) x.d=x.out:=by
 intro is
 refine MV (p:=λis=>∀(i:Nat) (x:Inf),is[i]?=ς x->(∀(j:Nat) (y:Inf),is[j]?=ς y->y.d=x.d->j=i)->gt (wK base is) x.d=x.out) ?_ ?_ is
 .simp_all
 intro is z ih i x h hu
 rw[A6]
 by_cases hi:i<is.length
 .rw[aa8 hi] at h
  have hz:z.d≠x.d:=λe=>by
   simp_all
  rw[ck _ _ hz]
  exact ih i x h λj y hj he=>hu j y (by grind) he
 rw[aa3 oaa] at h
 have:i-is.length=0:=by
  rcases Nat.eq_zero_or_pos (i-is.length) with h0|h0
  .exact h0
  grind
 rw[this] at h;simp at h;subst h
 exact da _ _ _
theorem Sy{base:St}:∀(is:List Inf) (l:Nat) (ob:Ob),go (J1 base is) l=ς ob->(∃(j:Nat) (x:Inf),is[j]?=ς x/\(l,ob)∈x.nw)\/go base.ob l=ς ob:=by
 intro is
 refine MV (p:=λis=>∀(l:Nat) (ob:Ob),go (J1 base is) l=ς ob->(∃(j:Nat) (x:Inf),is[j]?=ς x/\(l,ob)∈x.nw)\/go base.ob l=ς ob) ?_ ?_ is
 .intro l ob h;exact .inr h
 intro is z ih l ob h
 rw[KO] at h
 rcases Ei h with h|h
 .exact .inl ⟨is.length,z,by simp,h⟩
 rcases ih l ob h with⟨j,x,h1,h2⟩|h
 .exact .inl ⟨j,x,by grind,h2⟩
 simp_all
theorem lJ:∀{is:List Inf} {nx n:Nat},fh nx is n->nx<=n/\∀(j:Nat) (x:Inf) (l:Nat) (ob:Ob),is[j]?=ς x->(l,ob)∈x.nw->nx<=l/\l<n
 |[],nx,n,h=>⟨by have:n=nx:=h;omega,by simp⟩
 |y::ys,nx,n,⟨m,h1,h2⟩=>by
  obtain⟨a1,a2⟩:=Nw.mem h1
  obtain⟨b1,b2⟩:=lJ h2
  grind
theorem Tq:∀{nw:Laa} {nx n:Nat},Nw nx nw n->∀l x y,(l,x)∈nw->(l,y)∈nw->x=y
 |[],_,_,_,l,x,y,h,_=>by simp at h
 |(k,z)::r,nx,n,h,l,x,y,h1,h2=>by
  rw[Nw] at h
  have hr:=(Nw.mem h.2).2
  rcases aa2.1 h1 with e1|h1<;>rcases aa2.1 h2 with e2|h2
  .simp_all
  .grind
  .grind
  exact Tq h.2 l x y h1 h2
theorem HU:∀{is:List Inf} {nx n:Nat},fh nx is n->∀(j:Nat) (x:Inf) (l:Nat) (ob:Ob),is[j]?=ς x->(l,ob)∈x.nw->rsv l=η
 |[],_,_,_,_,_,_,_,h,_=>by simp at h
 |y::ys,nx,n,⟨m,h1,h2⟩,0,x,l,ob,hx,hm=>by
  simp at hx;subst hx
  exact((Nw.mem h1).2 l ob hm).2.2
 |y::ys,nx,n,⟨m,h1,h2⟩,j+1,x,l,ob,hx,hm=>HU h2 j x l ob (by simp_all) hm
theorem AG:∀{is:List Inf} {nx n:Nat},fh nx is n->∀(j j':Nat) (x x':Inf) (l:Nat) (ob ob':Ob),is[j]?=ς x->is[j']?=ς x'->(l,ob)∈x.nw->(l,ob')∈x'.nw->j=j'/\ob=ob'
 |[],nx,n,h,j,j',x,x',l,ob,ob',h1,_,_,_=>by simp at h1
 |y::ys,nx,n,⟨m,h1,h2⟩,j,j',x,x',l,ob,ob',hj,hj',hm,hm'=>by
  have a2:=(Nw.mem h1).2
  have b2:=(lJ h2).2
  cases j with
  |zero=>
   cases j' with
   |zero=>simp at hj hj';subst hj;subst hj';exact⟨rfl,Tq h1 l ob ob' hm hm'⟩
   |succ j'=>grind
  |succ j=>
   cases j' with
   |zero=>grind
   |succ j'=>have:=AG h2 j j' x x' l ob ob' (by simp_all) (by simp_all) hm hm';simp_all
structure Inv(P:Program)(N:Nat)(cx:Cx)(base:St)(is:List Inf)(listed:Array Bool)(a:Act)(w:World)(E:Env):Prop where
 ok:dr cx E w
 dom:∀l x,E.r l=ς x->l<base.nx\/∃j y ob,listed.getD j η=ζ/\is[j]?=ς y/\(l,ob)∈y.nw
 obs:∀l ob,go base.ob l=ς ob->cN E w l ob
 new:∀j y l ob,listed.getD j η=ζ->is[j]?=ς y->(l,ob)∈y.nw->cN E w l ob
 out:∀j y,listed.getD j η=ζ->is[j]?=ς y->cvT E w y.out (a.tmps.getD y.d undef)
 old:∀k,(∀j y,listed.getD j η=ζ->is[j]?=ς y->y.d≠k)->cvT E w (gt base.sl k) (a.tmps.getD k undef)
 dfr:a.defers=[]
 size:a.tmps.size=N
 td:∀l b,E.T l b->l<base.nx\/∃j y ob,listed.getD j η=ζ/\is[j]?=ς y/\(l,ob)∈y.nw
theorem cE{listed:Array Bool}(hi:i<listed.size):(listed.setIfInBounds i ζ).getD j η=if i=j then ζ else listed.getD j false:=by
 by_cases h:i=j
 .simp_all
 simp_all
section
variable{P:Program}{N:Nat}{cx:Cx}{ops:Array Oper}{base:St}{is:List Inf}{Q:Exit->Act->World->Prop}
theorem X8{listed:Array Bool}(hI:Inv P N cx base is listed a w E){nmax:Nat}(hlab:fh base.nx is nmax)(hdst:tm is=ζ){x:Inf}(hx:is[i]?=ς x)(hil:i<listed.size)(hun:listed.getD i η=η)(hdN:x.d<N){v:Value}(ok':dr cx E' w')(ext:Ext E w E' w')(hv:cvT E' w' x.out v)(hnw:∀l ob,(l,ob)∈x.nw->cN E' w' l ob)(hdom:∀l y,E'.r l=ς y->E.r l=ς y\/∃ob,(l,ob)∈x.nw):Inv P N cx base is (listed.setIfInBounds i ζ) (a.put (ς x.d) v) w' E':=by
 have hk:=iG.of_ext hI.ok ext
 have hd':∀j y,is[j]?=ς y->j≠i->y.d≠x.d:=λj y hj hne he=>hne (tp hdst j i y x hj hx he)
 refine⟨ok',λl y hl=>?_,λl ob hl=>EN hI.ok ext (hI.obs l ob hl),λj y l ob hj hy hm=>?_,λj y hj hy=>?_,λk hkk=>?_,hI.dfr,by simpa [Act.put] using hI.size,λl b h=>?_⟩
 .rcases hdom l y hl with h|⟨ob,h⟩
  .rcases hI.dom l y h with h|⟨j,z,ob,h1,h2,h3⟩
   .exact .inl h
   refine .inr ⟨j,z,ob,?_,h2,h3⟩
   rw[cE hil];simp_all
  exact .inr ⟨i,x,ob,by simp_all,hx,h⟩
 .by_cases hji:i=j
  .simp_all
  rw[cE hil,if_neg hji] at hj;exact EN hI.ok ext (hI.new j y l ob hj hy hm)
 .by_cases hji:i=j
  .subst hji;rw[hx] at hy;cases hy
   rw[ef (by rw[hI.size];exact hdN),if_pos rfl];exact hv
  rw[cE hil,if_neg hji] at hj
  rw[ef (by rw[hI.size];exact hdN),if_neg (Ne.symm (hd' j y hy (Ne.symm hji)))]
  exact jx hk (hI.out j y hj hy)
 .have hxk:x.d≠k:=hkk i x (by simp_all) hx
  rw[ef (by rw[hI.size];exact hdN),if_neg hxk]
  refine jx hk (hI.old k λj y hj hy=>hkk j y ?_ hy)
  rw[cE hil];simp_all
 have old:(l<base.nx\/∃j y ob,listed.getD j η=ζ/\is[j]?=ς y/\(l,ob)∈y.nw)->l<base.nx\/∃j y ob,(listed.setIfInBounds i ζ).getD j η=ζ/\is[j]?=ς y/\(l,ob)∈y.nw:=by
  rintro(h|⟨j,z,ob,h1,h2,h3⟩)
  .exact .inl h
  refine .inr ⟨j,z,ob,?_,h2,h3⟩
  rw[cE hil];simp_all
 rcases ext.T' l b h with h|⟨h0,y,h⟩
 .exact old (hI.td l b h)
 rcases hdom l y h with h|⟨ob,h⟩
 .rw[h0] at h;cases h
 exact .inr ⟨i,x,ob,by simp_all,hx,h⟩
theorem RT(hN:is.length=ops.size){nmax:Nat}(hlab:fh base.nx is nmax)(hdst:tm is=ζ)(hbk:∀l ob,go base.ob l=ς ob->l<base.nx)(hedge:∀i o,ops[i]?=ς o->∀e∈o.after,Region.binds .any e=ζ->e.on<i)(hslot:∀i x,is[i]?=ς x->∀k∈js x.needs,∀j,vT is k=ς j->if nlt j i then anc ops is.length i j=ζ else(i=j\/anc ops is.length j i=ζ))(hobj:∀i x,is[i]?=ς x->∀p∈x.nob,p.1<base.nx\/∃j,Yk is p.1=ς j/\anc ops is.length i j=ζ)(htold:∀(i:Nat) (o:Oper) (x:Inf),ops[i]?=ς o->is[i]?=ς x->Told P N ops base (is.take i) o x)(hfin:∀listed a w E,(∀j,j<ops.size->listed.getD j η=ζ)->Inv P N cx base is listed a w E->Q .normal a w):
 ∀(fuel:Nat) (listed:Array Bool) (a:Act) (w:World) (E:Env),listed.size=ops.size->((f6 ops.size).filter λi=>!listed.getD i η).length=fuel->
  (∀i o,ops[i]?=ς o->listed.getD i η=ζ->∀e∈o.after,Region.binds .any e=ζ->listed.getD e.on η=ζ)->Inv P N cx base is listed a w E->wpAny P .any ops Q fuel listed a w:=by
 have hall:∀(listed:Array Bool),((f6 ops.size).filter λi=>!listed.getD i η).length=0->∀j,j<ops.size->listed.getD j η=true:=by
  intro listed h j hj
  have:=adn h
  have h2:=List.filter_eq_nil_iff.1 this j (by simp_all)
  simpa using h2
 intro fuel
 induction fuel with
 |zero=>
  intro listed a w E hsz hc hcl hI
  have hal:=hall listed hc
  refine⟨?_,hfin listed a w E hal hI⟩
  rw[List.eq_nil_iff_forall_not_mem]
  intro i hi
  obtain⟨h1,o,h2,h3⟩:=mem_ready.1 hi
  grind
 |succ fuel ih=>
  intro listed a w E hsz hc hcl hI
  refine⟨λh0=>?_,λi hi=>?_⟩
  .
    exfalso
    have hex:∃i,i<ops.size/\listed.getD i η=false:=by
     have:((f6 ops.size).filter λi=>!listed.getD i η)≠[]:=λe=>by grind
     obtain⟨i,hi⟩:=List.exists_mem_of_ne_nil _ this
     simp only[List.mem_filter,List.mem_range,ac8] at hi
     exact⟨i,hi.1,hi.2⟩
    have hmin:∀n i,i<=n->i<ops.size->listed.getD i η=η->∃i,i∈Region.ready .any ops listed:=by
     intro n
     induction n using adN with
     |_ n ihn=>
      intro i hin his hif
      by_cases hd:∀e∈ops[i].after,Region.binds .any e=ζ->listed.getD e.on η=ζ
      .refine⟨i,mem_ready.2 ⟨?_,ops[i],adg his,hd⟩⟩
       grind
      simp only[Classical.not_forall] at hd
      obtain⟨e,he,hb,hne⟩:=hd
      have hlt:=hedge i ops[i] (adg his) e he hb
      exact ihn e.on oaa e.on (abk _) oaa (by grind)
    obtain⟨i,h1,h2⟩:=hex
    obtain⟨j,hj⟩:=hmin i i (abk _) h1 h2
    grind
  obtain⟨h1,o,ho,hd⟩:=mem_ready.1 hi
  have hio:i<ops.size:=by
   rcases ac9 i ops.size with h|h
   .exact h
   grind
  have hun:listed.getD i η=false:=by
   rw[Array.getD_eq_getD_getElem?,adg oaa] at h1 ⊢
   simpa using h1
  obtain⟨x,hx⟩:∃x,is[i]?=ς x:=⟨_,hV oaa⟩
  obtain⟨t1,t2,t3,t4,t5⟩:=htold i o x ho hx
  have hanc:∀j,anc ops is.length i j=ζ->listed.getD j η=true:=λj hj=>th hcl _ i j hj ⟨o,ho,hd⟩
  have hneeds:∀y t,(y,t)∈x.needs->cvT E w t (a.eval y):=by
   intro y t hm
   have ht:=t1 y t hm
   cases y with
   |tmp k=>
    have hks:k∈js x.needs:=by
     have key:∀(l:List (Operand×T)),(Operand.tmp k,t)∈l->k∈js l:=by
      intro l
      induction l with
      |nil=>grind
      |cons p r ihl=>
       intro h
       rcases aa2.1 h with e|h
       .rw[<-e];simp[js]
       have h9:=ihl h;obtain⟨z,u⟩:=p;cases z<;>simp[js,h9]
     exact key _ hm
    show cvT E w t (a.tmps.getD k undef)
    have ht':gt (wK base (is.take i)) k=t:=ht
    cases hw:vT is k with
    |none=>
     have hno:∀z∈is,z.d≠k:=by
      intro z hz e
      have:=adJ.1 hw z hz
      rw[e] at this;simp at this
     rw[A5 _ _ (λz hz=>hno z (adk hz))] at ht'
     rw[<-ht']
     exact hI.old k λj y _ hy=>hno y (v0 hy)
    |some j=>
     have hs:=hslot i x hx k hks j hw
     obtain⟨hjl,hjp,_⟩:=adF.1 hw
     have hjd:is[j].d=k:=aat hjp
     have hju:∀j' y,is[j']?=ς y->y.d=k->j'=j:=λj' y hy he=>tp hdst j' j y is[j] hy (hV hjl) (by rw[he,hjd])
     by_cases hji:j<i
     .rw[if_pos (by simp[nlt];omega)] at hs
      have hdone:=hanc j hs
      have:=hI.out j is[j] hdone (hV hjl)
      rw[hjd] at this
      have h9:=yi (base:=base) (is.take i) j is[j] (by grind) (λj' y hy he=>hju j' y (by grind) (by rw[he,hjd]))
      grind
     rw[if_neg (by simp[nlt];omega)] at hs
     rw[A5 _ _ (λz hz e=>by
      obtain⟨j',hj'⟩:=ac7 hz
      grind)] at ht'
     rw[<-ht']
     refine hI.old k λj' y hj' hy he=>?_
     have hjj:=hju j' y hy he
     subst hjj
     rcases hs with rfl|hs
     .grind
     have:listed.getD i η=true:=th hcl _ j' i hs (by
      grind)
     grind
   |const v=>have:=(show Rel N cx E ⟨[],[],base.nx⟩ a w->cvT E w (opT [] (.const v)) (a.eval (.const v)) from λh=>h.op _);rw[<-ht];cases v<;>simp only[opT,Act.eval,cvT,cvV]<;>first|exact Aw E w _|exact⟨_,rfl,vV E w _⟩|(simp only[cvC,gD,rdD])
   |func f=>rw[<-ht];rfl
   |global g=>rw[<-ht];trivial
  have hnob:∀l ob,(l,ob)∈x.nob->cN E w l ob:=by
   intro l ob hm
   have hgo:=t2 l ob hm
   rcases Sy _ _ _ hgo with⟨j,y,hj,hy⟩|h
   .rw[adj] at hj
    split at hj
    .rename_i hji
     have hlr:=(lJ hlab).2 j y l ob hj hy
     rcases hobj i x hx (l,ob) hm with h|⟨j',hj',hanc'⟩
     .omega
     obtain⟨hjl,hjp,_⟩:=adF.1 hj'
     obtain⟨p,hp1,hp2⟩:=adi.1 hjp
     obtain⟨pl,pob⟩:=p
     have hpl:pl=l:=aat hp2
     subst hpl
     have:=AG hlab j j' y is[j'] pl ob pob hj (hV hjl) hy hp1
     exact hI.new j y pl ob (by grind) hj hy
    cases hj
   exact hI.obs l ob h
  have hfresh:∀l ob,(l,ob)∈x.nw->E.r l=none:=by
   intro l ob hm
   cases hr:E.r l with
   |none=>rfl
   |some p=>
    have hlr:=(lJ hlab).2 i x l ob hx hm
    rcases hI.dom l p hr with h|⟨j,y,ob',h1,h2,h3⟩
    .omega
    have:=(AG hlab i j x y l ob ob' hx h2 hm h3).1
    grind
  have hnext:∀v E' w',dr cx E' w'->Ext E w E' w'->cvT E' w' x.out v->(∀l ob,(l,ob)∈x.nw->cN E' w' l ob)->(∀l y,E'.r l=ς y->E.r l=ς y\/∃ob,(l,ob)∈x.nw)->
   wpAny P .any ops Q fuel (listed.setIfInBounds i ζ) (a.put (ς x.d) v) w':=by
   intro v E' w' k1 k2 k3 k4 k5
   refine ih _ _ _ E' (by grind) ?_ ?_ (X8 hI hlab hdst hx oaa hun t4 k1 k2 k3 k4 k5)
   .
     have hcount:∀(l:List Nat),l.Nodup->i∈l->(l.filter λk=>!listed.getD k η).length=(l.filter λk=>!(listed.setIfInBounds i ζ).getD k η).length+1:=by
      intro l
      induction l with
      |nil=>grind
      |cons k l ihl=>
       intro hnd hm
       obtain⟨hk1,hk2⟩:=adH.1 hnd
       by_cases hki:i=k
       .subst hki
        have hsame:(l.filter λk=>!listed.getD k η)=(l.filter λk=>!(listed.setIfInBounds i ζ).getD k η):=by
         apply List.filter_congr
         intro z hz
         rw[cE oaa,if_neg (λe=>hk1 (by grind))]
        rw[List.filter_cons_of_pos (by grind),List.filter_cons_of_neg (by rw[cE oaa,if_pos rfl];simp),hsame,acn]
       have hml:i∈l:=by rcases aa2.1 hm with e|e;exact absurd e hki;exact e
       have:=ihl hk2 hml
       have hgk:(listed.setIfInBounds i ζ).getD k η=listed.getD k false:=by rw[cE oaa,if_neg hki]
       cases hgd:listed.getD k η with
       |true=>grind
       |false=>grind
     have:=hcount (f6 ops.size) List.nodup_range (by grind)
     omega
   intro j oj hj hdj e he hb
   rw[cE oaa]
   split
   .rfl
   rw[cE oaa] at hdj
   split at hdj
   .grind
   grind
  have hrun:∀needs,(∀y t,(y,t)∈needs->cvT E w t (a.eval y))->AWN P o needs x.nob x.out x.nw->o.wp P a w (wpAny P .any ops Q fuel (listed.setIfInBounds i ζ)) Q:=by
   intro needs hne hawn
   refine ux (λ_ _ _ h=>h.elim) (Oper.wp_mono ?_ (hawn cx E a w hI.ok hne hnob (λl ob hm=>⟨hfresh l ob hm,HU hlab i x l ob hx hm⟩)))
   rintro a' w' ⟨v,E',rfl,k1,k2,k3,k4,k5⟩
   rw[t3]
   exact hnext v E' w' k1 k2 k3 k4 k5
  have hguard:∀j dj (b:Bool),(ops[j]?).bind (·.dst)=ς dj->dj<N->cvT E w (tB b) (a.eval (.tmp dj))->yielded ops a.tmps j=ς b:=by
   intro j dj b hj hdj hcv
   have hb:a.tmps.getD dj undef= .bool b:=by simpa [rdD,Act.eval] using vA hcv
   have hs:dj<a.tmps.size:=by rw[hI.size];exact hdj
   have h2:a.tmps[dj]?=ς (.bool b):=by
    rw[adg hs];simpa [adK,hs] using hb
   unfold yielded
   cases ho':ops[j]? with
   |none=>grind
   |some o'=>grind
  unfold wpOp
  simp only[ho]
  rcases t5 with⟨hg,hawn⟩|⟨j,dj,b,ys,hg,hj,hdj,hnd,hawn⟩|⟨j,dj,b,t,hg,hj,hdj,hnd,hno,hout,hnw⟩
  .rw[if_pos (by simp[Region.wanted,hg])]
   grind
  .have hy:=hguard j dj b hj hdj (hneeds (.tmp dj) (tB b) (by grind))
   rw[if_pos (by simp[Region.wanted,hg,hy])]
   grind
  have hy:=Jt (N:=N) (ops:=ops) (hneeds (.tmp dj) t (by grind)) (by rw[hI.size];exact hdj) hj hno
  rw[if_neg (by simp[Region.wanted,hg,hy]),t3]
  exact hnext undef E w hI.ok (Ext.refl E w) (by rw[hout];exact⟨#[],rfl,θ⟩) (by grind) (λ_ _ h=>.inl h)
end
theorem iS(n i:Nat):(abw n η).getD i η=false:=by
 by_cases h:i<n<;>simp[h]
theorem Dz(hR:Rel N cx E st a w):Rel N cx E st a {w with drawn:=w.drawn+1}:=by
 have hk:iG E w E {w with drawn:=w.drawn+1}:=⟨λ_ _ h=>h,λ_ _ h=>h,λ_ _ _=>rfl,λ_ _ h=>⟨h,rfl⟩,λ_ h=>⟨h,.of_eq rfl⟩,rfl⟩
 exact⟨⟨hR.ok.fb,hR.ok.gf,hR.ok.gn,hR.ok.rb,hR.ok.inj,hR.ok.os,hR.ok.tape,hR.ok.output,hR.ok.size,hR.ok.block,hR.ok.pin,hR.ok.ff,λb h h'=>(hR.ok.gc b h h').of_eq rfl,hR.ok.sf.grow rfl rfl (λ_ h=>.inl h) (λo b c h=>.inl ⟨o,c,h⟩) (abk _) (λ_ _=>rfl)⟩,hR.dom,λl ob h=>fG hk (λ_ _ _=>rfl) (λ_ _ _ h=>h) (hR.obs l ob h),λk=>jx hk (hR.sl k),hR.dfr,hR.size,hR.td⟩
def YL(n:Nat):Laa->Bool
 |[]=>ζ
 |(l,_)::r=>nlt l n&&YL n r
theorem Ts{n:Nat}:∀{ob:Laa} {l:Nat} {x:Ob},YL n ob=ζ->go ob l=ς x->l<n
 |(k,v)::r,l,x,h,hg=>by
  simp only[YL,f4] at h
  by_cases hk:k=l
  .subst hk;exact bV h.1
  rw[bg _ _ hk] at hg;exact Ts h.2 hg
theorem WY{l:List Oper}{AQ:Exit->St->Prop}(hm:P.follows .mixedOrders=true:=by exact Try.follows)(hol:YL st.nx st.ob=true:=by exact rfl)(h:DR P N l.toArray l [] st (λis s=>BI l.toArray is st.nx=ζ/\AQ .normal s)):AWC P N (.region id l.toArray ζ) st AQ:=by
 intro cx E a w hR
 obtain⟨is,st',n1,n2,n3,n4,n5,n6,n7⟩:=Sp (base:=st) h (λ_=>rfl) rfl rfl
 simp only[List.nil_append] at n2 n3 n4 n5 n6
 simp only[BI,f4] at n6
 obtain⟨⟨c1,c2⟩,c3⟩:=n6
 have hlen:is.length=l.toArray.size:=by simpa using n1
 have hall:∀(i:Nat) (x:Inf) (o:Oper),is[i]?=ς x->l.toArray[i]?=ς o->(∀e∈o.after,Region.binds .any e=ζ->e.on<i)/\
  (∀k∈js x.needs,∀j,vT is k=ς j->if nlt j i then anc l.toArray is.length i j=ζ else(i=j\/anc l.toArray is.length j i=ζ))/\
  (∀p∈x.nob,p.1<st.nx\/∃j,Yk is p.1=ς j/\anc l.toArray is.length i j=ζ):=by
  intro i x o hx ho
  have hil:i<is.length:=(f5.1 hx).1
  have:=aa4.1 c3 i (by simp_all)
  simp only[hx,ho,f4,aa4] at this
  obtain⟨⟨k1,k2⟩,k3⟩:=this
  refine⟨λe he hb=>?_,λk hk j hj=>?_,λp hp=>?_⟩
  .have:=k1 e (by simp_all);simp only[hb,Bool.not_true,adD] at this;exact bV this
  .have:=k2 k hk
   simp_all
  have:=k3 p hp
  simp only[adf] at this
  rcases this with h|h
  .exact .inl (bV h)
  grind
 have hop:∀i x,is[i]?=ς x->∃o,l.toArray[i]?=ς o:=λi x hx=>⟨_,adg (by grind)⟩
 have hix:∀(i:Nat) (o:Oper),l.toArray[i]?=ς o->∃x,is[i]?=ς x:=λi o ho=>⟨_,hV (by
  grind)⟩
 refine wp_region_any hm ?_
 have hR':=Dz hR
 refine RT (P:=P) (N:=N) (cx:=cx) (base:=st) (is:=is) hlen n3 c2 ?_ ?_ ?_ ?_ ?_ ?_ _ _ _ _ E (by simp) ?_ ?_ ?_
 .intro i ob h;exact Ts hol h
 .grind
 .grind
 .grind
 .grind
 .intro listed a' w' E' hdone hI
  refine⟨E',st',⟨hI.ok,λl' x' hl=>?_,λl' ob hl=>?_,λk=>?_,hI.dfr,hI.size,λl' b' h'=>?_⟩,n7⟩
  .have hr:=lJ n3
   rcases hI.dom l' x' hl with h|⟨j,y,ob,_,h2,h3⟩
   .omega
   grind
  .rw[n5] at hl
   rcases Sy _ _ _ hl with⟨j,x',hj,hx'⟩|h
   .exact hI.new j x' l' ob (hdone j (by grind)) hj hx'
   exact hI.obs l' ob h
  .rw[n4 k]
   cases hw:vT is k with
   |none=>
    have hno:∀z∈is,z.d≠k:=by
     intro z hz e
     have:=adJ.1 hw z hz
     rw[e] at this;simp at this
    rw[A5 _ _ hno]
    exact hI.old k λj y _ hy=>hno y (v0 hy)
   |some j=>
    obtain⟨hjl,hjp,_⟩:=adF.1 hw
    have hjd:is[j].d=k:=aat hjp
    have:=hI.out j is[j] (hdone j oaa) (hV hjl)
    have h9:=yi (base:=st) is j is[j] (hV hjl) (λj' y hy he=>tp c2 j' j y is[j] hy (hV hjl) he)
    grind
  have hr:=lJ n3
  rcases hI.td l' b' h' with h|⟨j,y,ob,_,h2,h3⟩
  .omega
  have:=hr.2 j y l' ob h2 h3;omega
 .rw[List.filter_eq_self.2]
  .simp
  intro i hi;rw[iS];rfl
 .intro i o ho hd;rw[iS] at hd;cases hd
 refine⟨hR'.ok,λl' x' hl=>.inl (hR'.dom l' x' hl),hR'.obs,(λj y l' ob hd=>by rw[iS] at hd;cases hd),(λj y hd=>by rw[iS] at hd;cases hd),λk _=>hR'.sl k,hR'.dfr,hR'.size,λl b h=>.inl (hR'.td l b h)⟩
def nxt(nx:Nat):Option Nat:=bif rsv nx then ξ else ς (nx+1)
theorem rL{ob:Ob}(h:nxt nx=ς nx'):Nw nx [(nx,ob)] nx':=by
 unfold nxt at h
 cases hr:rsv nx with
 |true=>simp_all
 |false=>rw[hr] at h;exact⟨⟨rfl,hr⟩,(Option.some.inj h).symm⟩
theorem Uh{n:Int}(h: -9223372036854775808<=n/\n<=9223372036854775807):IntKind.i64.wrap n=n:=by rw[IntKind.wrap_i64];omega
section
variable{P:Program}{N:Nat}{d:Tmp}{ty:TypeId}{ps:String}{af:Array Edge}{gd:Option (Nat×Bool)}{x y z:Operand}{sl:Lab}{ob:Laa}{nx:Nat}
abbrev NS0(P:Program)(N:Nat)(o:Oper)(sl:Lab)(ob:Laa)(nx:Nat)(d:Tmp)(out:T)(x:Inf):Prop:=NS P N o ⟨sl,ob,nx⟩ ⟨(d,out)::sl,ob,nx⟩ x
theorem mv1{c:C}(h:opT sl x= .v (.c c))(hN:nlt d N=ζ):NS0 P N ⟨ς d,.move x,ty,ps,af,gd⟩ sl ob nx d (.v (.c c)) ⟨d,[(x,.v (.c c))],[],.v (.c c),[]⟩:=dx (st:=⟨sl,ob,nx⟩) QJ rfl hN ⟨h,θ⟩ trivial rfl
theorem mv2{c:List C}(h:opT sl x= .v (.agg c))(hN:nlt d N=ζ):NS0 P N ⟨ς d,.move x,ty,ps,af,gd⟩ sl ob nx d (.v (.agg c)) ⟨d,[(x,.v (.agg c))],[],.v (.agg c),[]⟩:=dx (st:=⟨sl,ob,nx⟩) QJ rfl hN ⟨h,θ⟩ trivial rfl
theorem mv3{c:List V}(h:opT sl x= .tup c)(hN:nlt d N=ζ):NS0 P N ⟨ς d,.move x,ty,ps,af,gd⟩ sl ob nx d (.tup c) ⟨d,[(x,.tup c)],[],.tup c,[]⟩:=dx (st:=⟨sl,ob,nx⟩) QJ rfl hN ⟨h,θ⟩ trivial rfl
theorem as1{c:C}(h:opT sl x= .v (.c c))(hN:nlt d N=ζ):NS0 P N ⟨ς d,.assign x,ty,ps,af,gd⟩ sl ob nx d (.v (.c c)) ⟨d,[(x,.v (.c c))],[],.v (.c c),[]⟩:=dx (st:=⟨sl,ob,nx⟩) Ip rfl hN ⟨h,θ⟩ trivial rfl
theorem as2{c:List C}(h:opT sl x= .v (.agg c))(hN:nlt d N=ζ):NS0 P N ⟨ς d,.assign x,ty,ps,af,gd⟩ sl ob nx d (.v (.agg c)) ⟨d,[(x,.v (.agg c))],[],.v (.agg c),[]⟩:=dx (st:=⟨sl,ob,nx⟩) Ip rfl hN ⟨h,θ⟩ trivial rfl
theorem as3{c:List V}(h:opT sl x= .tup c)(hN:nlt d N=ζ):NS0 P N ⟨ς d,.assign x,ty,ps,af,gd⟩ sl ob nx d (.tup c) ⟨d,[(x,.tup c)],[],.tup c,[]⟩:=dx (st:=⟨sl,ob,nx⟩) Ip rfl hN ⟨h,θ⟩ trivial rfl
theorem pk1{c:C}(h:opT sl x= .v (.c (.d g (.b ζ))))(hy:opT sl y= .v (.c c))(hN:nlt d N=ζ):NS0 P N ⟨ς d,.pick x y z,ty,ps,af,gd⟩ sl ob nx d (.v (.c c)) ⟨d,[(x,.v (.c (.d g (.b ζ)))),(y,.v (.c c))],[],.v (.c c),[]⟩:=dx (st:=⟨sl,ob,nx⟩) OI rfl hN ⟨h,hy,θ⟩ trivial rfl
theorem pk0{c:C}(h:opT sl x= .v (.c (.d g (.b η))))(hz:opT sl z= .v (.c c))(hN:nlt d N=ζ):NS0 P N ⟨ς d,.pick x y z,ty,ps,af,gd⟩ sl ob nx d (.v (.c c)) ⟨d,[(x,.v (.c (.d g (.b η)))),(z,.v (.c c))],[],.v (.c c),[]⟩:=dx (st:=⟨sl,ob,nx⟩) Ml rfl hN ⟨h,hz,θ⟩ trivial rfl
theorem io{op:BinOp}{k:IntKind}{a b:Int}{r:D}(hx:opT sl x= .v (.c (.d g (.i k a))))(hy:opT sl y= .v (.c (.d g' (.i k b))))(hN:nlt d N=ζ)(h:X6 op k a b=ς r):
 NS0 P N ⟨ς d,.binOp op t x y t',ty,ps,af,gd⟩ sl ob nx d (.v (.c (.d η r))) ⟨d,[(x,.v (.c (.d g (.i k a)))),(y,.v (.c (.d g' (.i k b))))],[],.v (.c (.d η r)),[]⟩:=dx (st:=⟨sl,ob,nx⟩) (n_int h) rfl hN ⟨hx,hy,θ⟩ trivial rfl
theorem iqT{k:IntKind}{a b:Int}(hx:opT sl x= .v (.c (.d g (.i k a))))(hy:opT sl y= .v (.c (.d g' (.i k b))))(hN:nlt d N=ζ)(he:decide (a=b)=ζ):
 NS0 P N ⟨ς d,.binOp .eql t x y t',ty,ps,af,gd⟩ sl ob nx d (.v (.c (.d η (.b ζ)))) ⟨d,[(x,.v (.c (.d g (.i k a)))),(y,.v (.c (.d g' (.i k b))))],[],.v (.c (.d η (.b ζ))),[]⟩:=io hx hy hN (by show ς (D.b (eqB a b))=_;simp_all)
theorem iqF{k:IntKind}{a b:Int}(hx:opT sl x= .v (.c (.d g (.i k a))))(hy:opT sl y= .v (.c (.d g' (.i k b))))(hN:nlt d N=ζ)(he:decide (a=b)=η):
 NS0 P N ⟨ς d,.binOp .eql t x y t',ty,ps,af,gd⟩ sl ob nx d (.v (.c (.d η (.b η)))) ⟨d,[(x,.v (.c (.d g (.i k a)))),(y,.v (.c (.d g' (.i k b))))],[],.v (.c (.d η (.b η))),[]⟩:=io hx hy hN (by show ς (D.b (eqB a b))=_;simp_all)
theorem is{a b:Int}(hx:opT sl x= .v (.c (.d g (.i .i64 a))))(hy:opT sl y= .v (.c (.d g' (.i .i64 b))))(hN:nlt d N=ζ)(h: -9223372036854775808<=a-b/\a-b<=9223372036854775807):
 NS0 P N ⟨ς d,.binOp .sub t x y t',ty,ps,af,gd⟩ sl ob nx d (tI (a-b)) ⟨d,[(x,.v (.c (.d g (.i .i64 a)))),(y,.v (.c (.d g' (.i .i64 b))))],[],tI (a-b),[]⟩:=by
 have:=io (P:=P) (N:=N) (d:=d) (ty:=ty) (ps:=ps) (af:=af) (gd:=gd) (ob:=ob) (nx:=nx) (t:=t) (t':=t') (op:=.sub) hx hy hN rfl
 rwa [Uh h] at this
theorem ir{k:IntKind}{a b:Int}(hx:opT sl x= .v (.c (.d g (.i k a))))(hy:opT sl y= .v (.c (.d g' (.i k b))))(hN:nlt d N=ζ)(h:b≠0):
 NS0 P N ⟨ς d,.binOp .rem t x y t',ty,ps,af,gd⟩ sl ob nx d (.v (.c (.d η (.i k (a.tmod b))))) ⟨d,[(x,.v (.c (.d g (.i k a)))),(y,.v (.c (.d g' (.i k b))))],[],.v (.c (.d η (.i k (a.tmod b)))),[]⟩:=dx (st:=⟨sl,ob,nx⟩) (n_rem h) rfl hN ⟨hx,hy,θ⟩ trivial rfl
theorem iq{k:IntKind}{a b:Int}(hx:opT sl x= .v (.c (.d g (.i k a))))(hy:opT sl y= .v (.c (.d g' (.i k b))))(hN:nlt d N=ζ)(h:b≠0):
 NS0 P N ⟨ς d,.binOp .quo t x y t',ty,ps,af,gd⟩ sl ob nx d (.v (.c (.d η (.i k (k.wrap (a.tdiv b)))))) ⟨d,[(x,.v (.c (.d g (.i k a)))),(y,.v (.c (.d g' (.i k b))))],[],.v (.c (.d η (.i k (k.wrap (a.tdiv b))))),[]⟩:=dx (st:=⟨sl,ob,nx⟩) (n_quo h) rfl hN ⟨hx,hy,θ⟩ trivial rfl
theorem se{a b:ByteArray}(hx:opT sl x= .v (.c (.d g (.str a))))(hy:opT sl y= .v (.c (.d g' (.str b))))(hN:nlt d N=ζ):
 NS0 P N ⟨ς d,.binOp .eql t x y t',ty,ps,af,gd⟩ sl ob nx d (tB (strB a b)) ⟨d,[(x,.v (.c (.d g (.str a)))),(y,.v (.c (.d g' (.str b))))],[],tB (strB a b),[]⟩:=dx (st:=⟨sl,ob,nx⟩) YB rfl hN ⟨hx,hy,θ⟩ trivial rfl
theorem sn{a b:ByteArray}(hx:opT sl x= .v (.c (.d g (.str a))))(hy:opT sl y= .v (.c (.d g' (.str b))))(hN:nlt d N=ζ):
 NS0 P N ⟨ς d,.binOp .neq t x y t',ty,ps,af,gd⟩ sl ob nx d (tB (!strB a b)) ⟨d,[(x,.v (.c (.d g (.str a)))),(y,.v (.c (.d g' (.str b))))],[],tB (!strB a b),[]⟩:=dx (st:=⟨sl,ob,nx⟩) YC rfl hN ⟨hx,hy,θ⟩ trivial rfl
theorem un{g b:Bool}(hx:opT sl x= .v (.c (.d g (.b b))))(hN:nlt d N=ζ):NS0 P N ⟨ς d,.unOp .not t x,ty,ps,af,gd⟩ sl ob nx d (tB (!b)) ⟨d,[(x,.v (.c (.d g (.b b))))],[],tB (!b),[]⟩:=dx (st:=⟨sl,ob,nx⟩) n_not rfl hN ⟨hx,θ⟩ trivial rfl
theorem ng{k:IntKind}{n:Int}(hx:opT sl x= .v (.c (.d g (.i k n))))(hN:nlt d N=ζ):NS0 P N ⟨ς d,.unOp .neg t x,ty,ps,af,gd⟩ sl ob nx d (.v (.c (.d η (.i k (k.wrap (0-n)))))) ⟨d,[(x,.v (.c (.d g (.i k n))))],[],.v (.c (.d η (.i k (k.wrap (0-n))))),[]⟩:=dx (st:=⟨sl,ob,nx⟩) n_neg rfl hN ⟨hx,θ⟩ trivial rfl
theorem cv{ds:TypeDesc}{k k':IntKind}{n:Int}[TyU P t ds][TyU P t' (.int k')](hx:opT sl x= .v (.c (.d g (.i k n))))(hN:nlt d N=ζ):
 NS0 P N ⟨ς d,.convert t t' x,ty,ps,af,gd⟩ sl ob nx d (.v (.c (.d η (.i k' (k'.wrap n))))) ⟨d,[(x,.v (.c (.d g (.i k n))))],[],.v (.c (.d η (.i k' (k'.wrap n)))),[]⟩:=dx (st:=⟨sl,ob,nx⟩) n_conv rfl hN ⟨hx,θ⟩ trivial rfl
theorem ex{ts:List V}(hx:opT sl x= .tup ts)(hN:nlt d N=ζ)(h:ts[i]?=ς v):NS0 P N ⟨ς d,.extract x i,ty,ps,af,gd⟩ sl ob nx d (.v v) ⟨d,[(x,.tup ts)],[],.v v,[]⟩:=dx (st:=⟨sl,ob,nx⟩) (U9 h) rfl hN ⟨hx,θ⟩ trivial rfl
theorem nc{o:Nat}(hx:opT sl x= .v (.c (.p o k)))(hN:nlt d N=ζ):NS0 P N ⟨ς d,.nilCheck x,ty,ps,af,gd⟩ sl ob nx d (.v (.c (.p o k))) ⟨d,[(x,.v (.c (.p o k)))],[],.v (.c (.p o k)),[]⟩:=dx (st:=⟨sl,ob,nx⟩) Mj rfl hN ⟨hx,θ⟩ trivial rfl
theorem lw{o:Nat}[dz P t e sz by_](hx:opT sl x= .v (.c (.w o n)))(hN:nlt d N=ζ):NS0 P N ⟨ς d,.call ⟨.builtin .len,#[x],#[t]⟩,ty,ps,af,gd⟩ sl ob nx d (tI n) ⟨d,[(x,.v (.c (.w o n)))],[],tI n,[]⟩:=dx (st:=⟨sl,ob,nx⟩) acg rfl hN ⟨hx,θ⟩ trivial rfl
theorem ls{o zz:Nat}[dz P t e sz by_](hx:opT sl x= .v (.c (.s o zz off n)))(hN:nlt d N=ζ):NS0 P N ⟨ς d,.call ⟨.builtin .len,#[x],#[t]⟩,ty,ps,af,gd⟩ sl ob nx d (tI n) ⟨d,[(x,.v (.c (.s o zz off n)))],[],tI n,[]⟩:=dx (st:=⟨sl,ob,nx⟩) acf rfl hN ⟨hx,θ⟩ trivial rfl
theorem ld{xs:Lad}[dz P t e sz by_](hx:opT sl x= .v (.c (.d g (.l xs))))(hN:nlt d N=ζ):NS0 P N ⟨ς d,.call ⟨.builtin .len,#[x],#[t]⟩,ty,ps,af,gd⟩ sl ob nx d (tI xs.length) ⟨d,[(x,.v (.c (.d g (.l xs))))],[],tI xs.length,[]⟩:=dx (st:=⟨sl,ob,nx⟩) ace rfl hN ⟨hx,θ⟩ trivial rfl
theorem ln[dz P t e sz by_](hx:opT sl x= .v (.c .nil))(hN:nlt d N=ζ):NS0 P N ⟨ς d,.call ⟨.builtin .len,#[x],#[t]⟩,ty,ps,af,gd⟩ sl ob nx d (tI 0) ⟨d,[(x,.v (.c .nil))],[],tI 0,[]⟩:=dx (st:=⟨sl,ob,nx⟩) Vh rfl hN ⟨hx,θ⟩ trivial rfl
theorem lstr{s:ByteArray}[TyU P t .string](hx:opT sl x= .v (.c (.d g (.str s))))(hN:nlt d N=ζ):NS0 P N ⟨ς d,.call ⟨.builtin .len,#[x],#[t]⟩,ty,ps,af,gd⟩ sl ob nx d (tI s.size) ⟨d,[(x,.v (.c (.d g (.str s))))],[],tI s.size,[]⟩:=dx (st:=⟨sl,ob,nx⟩) Vi rfl hN ⟨hx,θ⟩ trivial rfl
theorem fp{o k':Nat}[TyF P t f off ft](hx:opT sl x= .v (.c (.p o k)))(hN:nlt d N=ζ)(hk:k+off=k'):NS0 P N ⟨ς d,.fieldAddr t x f,ty,ps,af,gd⟩ sl ob nx d (.v (.c (.p o k'))) ⟨d,[(x,.v (.c (.p o k)))],[],.v (.c (.p o k')),[]⟩:=by
 subst hk;exact dx (st:=⟨sl,ob,nx⟩) Vb rfl hN ⟨hx,θ⟩ trivial rfl
theorem fe{o j':Nat}[TyF P t f off ft](hx:opT sl x= .v (.c (.e o sz i j)))(hN:nlt d N=ζ)(hk:j+off=j'):NS0 P N ⟨ς d,.fieldAddr t x f,ty,ps,af,gd⟩ sl ob nx d (.v (.c (.e o sz i j'))) ⟨d,[(x,.v (.c (.e o sz i j)))],[],.v (.c (.e o sz i j')),[]⟩:=by
 subst hk;exact dx (st:=⟨sl,ob,nx⟩) Va rfl hN ⟨hx,θ⟩ trivial rfl
theorem fq{e:List D}{j':Nat}[TyF P t f off ft](hx:opT sl x= .v (.c (.q g e j)))(hN:nlt d N=ζ)(hk:j+off=j'):NS0 P N ⟨ς d,.fieldAddr t x f,ty,ps,af,gd⟩ sl ob nx d (.v (.c (.q g e j'))) ⟨d,[(x,.v (.c (.q g e j)))],[],.v (.c (.q g e j')),[]⟩:=by
 subst hk;exact dx (st:=⟨sl,ob,nx⟩) Vc rfl hN ⟨hx,θ⟩ trivial rfl
theorem xw{o:Nat}{i:Int}[dz P t e sz by_](hx:opT sl x= .v (.c (.w o n)))(hy:opT sl y= .v (.c (.d g (.i kd i))))(hN:nlt d N=ζ)(h0:0<=i)(h1:i<n):
 NS0 P N ⟨ς d,.indexAddr t x y,ty,ps,af,gd⟩ sl ob nx d (.v (.c (.e o sz i.toNat 0))) ⟨d,[(x,.v (.c (.w o n))),(y,.v (.c (.d g (.i kd i))))],[],.v (.c (.e o sz i.toNat 0)),[]⟩:=dx (st:=⟨sl,ob,nx⟩) (KL h0 h1) rfl hN ⟨hx,hy,θ⟩ trivial rfl
theorem xs{o:Nat}{i:Int}[dz P t e sz by_](hx:opT sl x= .v (.c (.s o sz off n)))(hy:opT sl y= .v (.c (.d g (.i kd i))))(hN:nlt d N=ζ)(h0:0<=i)(h1:i<n):
 NS0 P N ⟨ς d,.indexAddr t x y,ty,ps,af,gd⟩ sl ob nx d (.v (.c (.e o sz (off+i.toNat) 0))) ⟨d,[(x,.v (.c (.s o sz off n))),(y,.v (.c (.d g (.i kd i))))],[],.v (.c (.e o sz (off+i.toNat) 0)),[]⟩:=dx (st:=⟨sl,ob,nx⟩) (Vf h0 h1) rfl hN ⟨hx,hy,θ⟩ trivial rfl
theorem xd{xs:Lad}{i:Int}[dz P t e sz by_](hx:opT sl x= .v (.c (.d g (.l xs))))(hy:opT sl y= .v (.c (.d g' (.i kd i))))(hN:nlt d N=ζ)(h0:0<=i)(he:xs[i.toNat]?=ς el)(hs:∀e∈xs,e.length=sz):NS0 P N ⟨ς d,.indexAddr t x y,ty,ps,af,gd⟩ sl ob nx d (.v (.c (.q g el 0))) ⟨d,[(x,.v (.c (.d g (.l xs)))),(y,.v (.c (.d g' (.i kd i))))],[],.v (.c (.q g el 0)),[]⟩:=dx (st:=⟨sl,ob,nx⟩) (Ve h0 he hs) rfl hN ⟨hx,hy,θ⟩ trivial rfl
theorem op{o:Nat}{c:C}[g9 P t](hx:opT sl x= .v (.c (.p o k)))(ho:go ob o=ς (.var vt cs))(hN:nlt d N=ζ)(hc:cs[k]?=ς c):
 NS0 P N ⟨ς d,.load t x,ty,ps,af,gd⟩ sl ob nx d (.v (.c c)) ⟨d,[(x,.v (.c (.p o k)))],[(o,.var vt cs)],.v (.c c),[]⟩:=dx (st:=⟨sl,ob,nx⟩) (Yy hc) rfl hN ⟨hx,θ⟩ ⟨ho,θ⟩ rfl
theorem opa{o:Nat}{r:List C}[en P t n](hx:opT sl x= .v (.c (.p o k)))(ho:go ob o=ς (.var vt cs))(hN:nlt d N=ζ)(hc:Dl k n cs=ς r):
 NS0 P N ⟨ς d,.load t x,ty,ps,af,gd⟩ sl ob nx d (.v (.agg r)) ⟨d,[(x,.v (.c (.p o k)))],[(o,.var vt cs)],.v (.agg r),[]⟩:=dx (st:=⟨sl,ob,nx⟩) (JY hc) rfl hN ⟨hx,θ⟩ ⟨ho,θ⟩ rfl
theorem oq{e:List D}{c:C}[g9 P t](hx:opT sl x= .v (.c (.q g e j)))(hN:nlt d N=ζ)(hc:ld1 g j e=ς c):
 NS0 P N ⟨ς d,.load t x,ty,ps,af,gd⟩ sl ob nx d (.v (.c c)) ⟨d,[(x,.v (.c (.q g e j)))],[],.v (.c c),[]⟩:=dx (st:=⟨sl,ob,nx⟩) (Vk hc) rfl hN ⟨hx,θ⟩ trivial rfl
theorem oqa{e:List D}[en P t n](hx:opT sl x= .v (.c (.q g e j)))(hN:nlt d N=ζ)(hc:HW g j n e=ς cs):
 NS0 P N ⟨ς d,.load t x,ty,ps,af,gd⟩ sl ob nx d (.v (.agg cs)) ⟨d,[(x,.v (.c (.q g e j)))],[],.v (.agg cs),[]⟩:=dx (st:=⟨sl,ob,nx⟩) (JZ hc) rfl hN ⟨hx,θ⟩ trivial rfl
theorem oe{o:Nat}{rt:TypeId}{c:C}[g9 P t](hx:opT sl x= .v (.c (.e o sz i j)):=by exact rfl)(ho:go ob o=ς (.row rt sz els g m):=by exact rfl)(hN:nlt d N=true:=by exact rfl)(he:els[i]?=ς el)(hc:ld1 g j el=ς c:=by exact rfl):
 NS0 P N ⟨ς d,.load t x,ty,ps,af,gd⟩ sl ob nx d (.v (.c c)) ⟨d,[(x,.v (.c (.e o sz i j)))],[(o,.row rt sz els g m)],.v (.c c),[]⟩:=dx (st:=⟨sl,ob,nx⟩) (KM he hc) rfl hN ⟨hx,θ⟩ ⟨ho,θ⟩ rfl
theorem oea{o:Nat}{rt:TypeId}[en P t n](hx:opT sl x= .v (.c (.e o sz i j)):=by exact rfl)(ho:go ob o=ς (.row rt sz els g m):=by exact rfl)(hN:nlt d N=true:=by exact rfl)(he:els[i]?=ς el)(hc:HW g j n el=ς cs:=by exact rfl):
 NS0 P N ⟨ς d,.load t x,ty,ps,af,gd⟩ sl ob nx d (.v (.agg cs)) ⟨d,[(x,.v (.c (.e o sz i j)))],[(o,.row rt sz els g m)],.v (.agg cs),[]⟩:=dx (st:=⟨sl,ob,nx⟩) (Bw he hc) rfl hN ⟨hx,θ⟩ ⟨ho,θ⟩ rfl
theorem fv{c:C}[TyF P t f off ft][g9 P ft](hx:opT sl x= .v (.agg cs))(hN:nlt d N=ζ)(hc:cs[off]?=ς c):NS0 P N ⟨ς d,.field t x f,ty,ps,af,gd⟩ sl ob nx d (.v (.c c)) ⟨d,[(x,.v (.agg cs))],[],.v (.c c),[]⟩:=dx (st:=⟨sl,ob,nx⟩) (Yv hc) rfl hN ⟨hx,θ⟩ trivial rfl
theorem fva{r:List C}[TyF P t f off ft][en P ft n](hx:opT sl x= .v (.agg cs))(hN:nlt d N=ζ)(hc:Dl off n cs=ς r):NS0 P N ⟨ς d,.field t x f,ty,ps,af,gd⟩ sl ob nx d (.v (.agg r)) ⟨d,[(x,.v (.agg cs))],[],.v (.agg r),[]⟩:=dx (st:=⟨sl,ob,nx⟩) (JW hc) rfl hN ⟨hx,θ⟩ trivial rfl
abbrev NS1(P:Program)(N:Nat)(o:Oper)(sl:Lab)(ob:Laa)(nx nx':Nat)(d:Tmp)(out:T)(nb:Ob)(x:Inf):Prop:=NS P N o ⟨sl,ob,nx⟩ ⟨(d,out)::sl,(nx,nb)::ob,nx'⟩ x
theorem al{zs:List C}[TyZ P t zs](hN:nlt d N=ζ)(hq:nxt nx=ς nx'):NS1 P N ⟨ς d,.alloc t,ty,ps,af,gd⟩ sl ob nx nx' d (.v (.c (.p nx 0))) (.var t zs) ⟨d,[],[],.v (.c (.p nx 0)),[(nx,.var t zs)]⟩:=dx (st:=⟨sl,ob,nx⟩) ab8 rfl hN trivial trivial (rL hq)
theorem ba(hx:opT sl x= .v (.agg cs))(hN:nlt d N=ζ)(hq:nxt nx=ς nx'):NS1 P N ⟨ς d,.box t x,ty,ps,af,gd⟩ sl ob nx nx' d (.v (.c (.p nx 0))) (.var t cs) ⟨d,[(x,.v (.agg cs))],[],.v (.c (.p nx 0)),[(nx,.var t cs)]⟩:=dx (st:=⟨sl,ob,nx⟩) U8 rfl hN ⟨hx,θ⟩ trivial (rL hq)
theorem bc{c:C}(hx:opT sl x= .v (.c c))(hN:nlt d N=ζ)(hs:c.sto=ζ)(hq:nxt nx=ς nx'):NS1 P N ⟨ς d,.box t x,ty,ps,af,gd⟩ sl ob nx nx' d (.v (.c (.p nx 0))) (.var t [c]) ⟨d,[(x,.v (.c c))],[],.v (.c (.p nx 0)),[(nx,.var t [c])]⟩:=dx (st:=⟨sl,ob,nx⟩) (ab9 hs) rfl hN ⟨hx,θ⟩ trivial (rL hq)
def Vr(sl:Lab):List Operand->Option (List V)
 |[]=>ς []
 |x::xs=>match opT sl x,Vr sl xs with
  | .v v,ς vs=>ς (v::vs)
  |_,_=>ξ
theorem Mp{sl:Lab}:∀{xs:List Operand} {vs:List V},Vr sl xs=ς vs->vs.length=xs.length/\Lk sl (xs.zip (vs.map T.v))
 |[],vs,h=>by simp[Vr] at h;subst h;exact⟨rfl,θ⟩
 |x::xs,vs,h=>by
  simp only[Vr] at h
  split at h
  .rename_i v vs' h1 h2
   simp at h;subst h
   obtain⟨k1,k2⟩:=Mp h2
   exact⟨by simp[k1],h1,k2⟩
  cases h
theorem bd{zs:List C}{pl:Lac}{parts:List (Nat×Operand)}[TyZ P t zs][TyB P t pl](hv:Vr sl (parts.map (·.2))=ς vs)(h:Ke pl zs ((parts.map (·.1)).zip vs)=ς cs)(hN:nlt d N=ζ):
 NS0 P N ⟨ς d,.build t parts.toArray,ty,ps,af,gd⟩ sl ob nx d (.v (.agg cs)) ⟨d,(parts.map (·.2)).zip (vs.map T.v),[],.v (.agg cs),[]⟩:=by
 obtain⟨h1,h2⟩:=Mp hv
 exact dx (st:=⟨sl,ob,nx⟩) (aca (by simp_all) h) rfl hN h2 trivial rfl
theorem bs{len:Nat}{parts:List (Nat×Operand)}{g:Bool}[dz P t e sz by_](hv:Vr sl (parts.map (·.2))=ς vs)(he:vsD vs=ς (els,g))(hs:UR sz els=ζ)(hlen:len=parts.length)(hi:parts.map (·.1)=f6 len)(h24:abD (len*sz) 16777216=ζ)(hN:nlt d N=ζ)(hq:nxt nx=ς nx'):
 NS1 P N ⟨ς d,.buildSlice t len parts.toArray,ty,ps,af,gd⟩ sl ob nx nx' d (.v (.c (.w nx len))) (.row e sz els g ζ) ⟨d,(parts.map (·.2)).zip (vs.map T.v),[],.v (.c (.w nx len)),[(nx,.row e sz els g ζ)]⟩:=by
 obtain⟨h1,h2⟩:=Mp hv
 exact dx (st:=⟨sl,ob,nx⟩) (Dh hlen (by simp_all) hi he hs (adp h24)) rfl hN h2 trivial (rL hq)
theorem mk{zd:List D}{k k':IntKind}{c:Int}[dz P t e sz by_][TyE P e zd](hx:opT sl x= .v (.c (.d g (.i k n))))(hy:opT sl y= .v (.c (.d g' (.i k' c))))(hN:nlt d N=ζ)(hc:n<=c)(hb:(by_:Int)*c<=281474976710656)(h63:c<=9223372036854775807)(hq:nxt nx=ς nx'):
 NS1 P N ⟨ς d,.makeSlice t x y,ty,ps,af,gd⟩ sl ob nx nx' d (.v (.c (.w nx n))) (.row e sz (aal n zd) ζ ζ) ⟨d,[(x,.v (.c (.d g (.i k n)))),(y,.v (.c (.d g' (.i k' c))))],[],.v (.c (.w nx n)),[(nx,.row e sz (aal n zd) ζ ζ)]⟩:=
 dx (st:=⟨sl,ob,nx⟩) (n_make hc hb h63) rfl hN ⟨hx,hy,θ⟩ trivial (rL hq)
def pH(sl:Lab):List Operand->Option (List T)
 |[]=>ς []
 |x::xs=>match opT sl x,pH sl xs with
  | .v (.c c),ς vs=>ς (.v (.c c)::vs)
  | .v (.agg cs),ς vs=>ς (.v (.agg cs)::vs)
  |_,_=>ξ
theorem nC{sl:Lab}:∀{xs:List Operand} {ts:List T},pH sl xs=ς ts->ts.length=xs.length/\Lk sl (xs.zip ts)
 |[],vs,h=>by simp[pH] at h;subst h;exact⟨rfl,θ⟩
 |x::xs,vs,h=>by
  simp only[pH] at h
  split at h
  .rename_i c vs' h1 h2
   simp at h;subst h
   obtain⟨k1,k2⟩:=nC h2
   exact⟨by simp[k1],h1,k2⟩
  .rename_i c vs' h1 h2
   simp at h;subst h
   obtain⟨k1,k2⟩:=nC h2
   exact⟨by simp[k1],h1,k2⟩
  cases h
def EA(nx:Nat):Laa->Nat->Bool
 |[],n=>fW n nx
 |(l,_)::r,n=>(fW l nx&&!rsv l)&&EA (nx+1) r n
theorem Dk:∀{nw:Laa} {nx n:Nat},EA nx nw n=ζ->Nw nx nw n
 |[],nx,n,h=>aat h
 |(l,x)::r,nx,n,h=>by
  simp only[EA,f4,ac8] at h
  exact⟨⟨aat h.1.1,h.1.2⟩,Dk h.2⟩
def apO{α:Type}:List α->List α->Option (List α)
 |[],l=>ς l
 |x::xs,l=>match apO xs l with|some r=>ς (x::r)|none=>ξ
theorem ti{α:Type}:∀{xs l r:List α},apO xs l=ς r->r=xs++l
 |[],l,r,h=>by simp[apO] at h;subst h;rfl
 |x::xs,l,r,h=>by
  simp only[apO] at h
  split at h
  .rename_i q h1;simp at h;subst h;rw[ti h1];rfl
  cases h
theorem ca{f:FuncId}{args:List Operand}{tys:Array TypeId}{ts:List T}{avs:List AV}{eqs:Lac}{nw:Laa}(ht:pH sl args=ς ts:=by exact rfl)(hp:t8 ob (C8 ts)=ς nob:=by exact rfl)(ha:rQ nob ts=ς (avs,eqs):=by exact rfl)(hF:Fn P f avs res)(he:Eqs eqs:=by repeat (first|exact θ|refine⟨by first|rfl|exact lm _|simp,?_⟩))(hi:BT nx res=ς (out,nw,n):=by exact rfl)(hw:EA nx nw n=true:=by exact rfl)(hN:nlt d N=true:=by exact rfl)(hob:apO nw ob=ς ob':=by exact rfl):
 NS P N ⟨ς d,.call ⟨.value (.func f),args.toArray,tys⟩,ty,ps,af,gd⟩ ⟨sl,ob,nx⟩ ⟨(d,out)::sl,ob',n⟩ ⟨d,args.zip ts,nob,out,nw⟩:=by
 obtain⟨h1,h2⟩:=nC ht
 rw[ti hob]
 exact dx (st:=⟨sl,ob,nx⟩) (n_call h1 ha hF he hi) rfl hN h2 (wr hp) (Dk hw)
theorem sp{o:Nat}{cs' ns:List C}[TyN P t n](hx:opT sl x= .v (.c (.p o k)))(hy:opT sl y= .v v)(ho:go ob o=ς (.var vt cs))(hv:vcs v=ς ns)(hn:fW ns.length n=ζ)(hst:ns.all C.sto=ζ)(hs:mI k ns cs=ς cs'):AWO P N ⟨ξ,.store t x y,ty,ps,af,gd⟩ ⟨sl,ob,nx⟩ ⟨sl,(o,.var vt cs')::ob,nx⟩:=Vp (st:=⟨sl,ob,nx⟩) hx hy ho hv hn hst hs
theorem so{o:Nat}{rt:TypeId}{el' ns:List D}{g g' gg:Bool}[TyN P t n](hx:opT sl x= .v (.c (.e o sz i j)))(hy:opT sl y= .v v)(ho:go ob o=ς (.row rt sz els g ζ))(hv:vD v=ς (ns,g'))(hn:fW ns.length n=ζ)(he:els[i]?=ς el)(hs:mI j ns el=ς el')(hg:(g&&g')=gg):
 AWO P N ⟨ξ,.store t x y,ty,ps,af,gd⟩ ⟨sl,ob,nx⟩ ⟨sl,(o,.row rt sz (els.set i el') gg ζ)::ob,nx⟩:=by subst hg;exact Vo (st:=⟨sl,ob,nx⟩) hx hy ho hv hn he hs
theorem ap{o:Nat}{g gy gg:Bool}{c:C}[dz P t e sz by_](hd:nlt d N=ζ)(hx:opT sl x= .v (.c (.w o n)))(hy:opT sl y= .v (.c c))(ho:go ob o=ς (.row e sz els g ζ))(hs:Src ob c ys gy)(hk:nX o sl=ς sl')(hkb:jE o ob=ς ob')(hg:(g&&gy)=gg)(hn:els.length=n)(hsz:∀e∈ys,e.length=sz)(hb:(n+ys.length)*by_<=140737488355328)(h63:n+ys.length<=9223372036854775807)(hrv:rsp o=η):
 AWO P N ⟨ς d,.call ⟨.builtin .append,#[x,y],#[t,t]⟩,ty,ps,af,gd⟩ ⟨sl,ob,nx⟩ ⟨(d,.v (.c (.w o (n+ys.length))))::sl',(o,.row e sz (els++ys) gg ζ)::ob',nx⟩:=by
 subst hg;exact QQ (st:=⟨sl,ob,nx⟩) hrv (bV hd) hx hy ho hs hk hkb hn hsz hb h63
section
variable{ops:Array Oper}{l:List Oper}{o:Oper}{K:St->Prop}{KK:List Inf->St->Prop}{is:List Inf}
theorem gs{d:Tmp}{b:Bool}(hg:o.guard=ς (j,b))(hj:(ops[j]?).bind (·.dst)=ς dj)(hdj:nlt dj N=ζ)(hb:noG b (gt sl dj)=ζ)(hd:o.dst=ς d)(hN:nlt d N=ζ)(h':AWR P N ops l ⟨(d,.tup [])::sl,ob,nx⟩ K):AWR P N ops (o::l) ⟨sl,ob,nx⟩ K:=GY (st:=⟨sl,ob,nx⟩) hg hj (bV hdj) hb hd (bV hN) h'
theorem g2{b c:Bool}(hg:o.guard=ς (j,b))(hj:(ops[j]?).bind (·.dst)=ς dj)(hb:gt sl dj=tB c)(h1:c=ζ->AWR P N ops (o::l) ⟨(dj,tB ζ)::sl,ob,nx⟩ K)(h0:c=η->AWR P N ops (o::l) ⟨(dj,tB η)::sl,ob,nx⟩ K):AWR P N ops (o::l) ⟨sl,ob,nx⟩ K:=Ur (st:=⟨sl,ob,nx⟩) hb h1 h0
theorem dgs{d:Tmp}{b:Bool}{t:T}(hg:o.guard=ς (j,b))(hj:(ops[j]?).bind (·.dst)=ς dj)(hdj:nlt dj N=ζ)(ht:gt sl dj=t)(hb:noG b t=ζ)(hd:o.dst=ς d)(hN:nlt d N=ζ)(h':DR P N ops l (is++[⟨d,[(.tmp dj,t)],[],.tup [],[]⟩]) ⟨(d,.tup [])::sl,ob,nx⟩ KK):DR P N ops (o::l) is ⟨sl,ob,nx⟩ KK:=abg (st:=⟨sl,ob,nx⟩) hg hj hdj ht hb hd hN h'
theorem dg2{b c:Bool}(hg:o.guard=ς (j,b))(hj:(ops[j]?).bind (·.dst)=ς dj)(hb:gt sl dj=tB c)(h1:c=ζ->DR P N ops (o::l) is ⟨(dj,tB ζ)::sl,ob,nx⟩ KK)(h0:c=η->DR P N ops (o::l) is ⟨(dj,tB η)::sl,ob,nx⟩ KK):DR P N ops (o::l) is ⟨sl,ob,nx⟩ KK:=Xq (st:=⟨sl,ob,nx⟩) hb h1 h0
end
def WW:AV->Option T
 | .c (.i k n)=>ς (.v (.c (.d η (.i k n))))
 | .c (.b x)=>ς (.v (.c (.d η (.b x))))
 | .c (.str s)=>ς (.v (.c (.d η (.str s))))
 | .c (.l xs)=>ς (.v (.c (.d η (.l xs))))
 | .c (.k A n c)=>ς (.v (.c (.d η (.k A n c))))
 | .agg xs=>match ldO η xs with
  |some cs=>ς (.v (.agg cs))
  |none=>ξ
def Np:Nat->List AV->Option Lab
 |_,[]=>ς []
 |k,a::as=>match WW a,Np (k+1) as with
  |some t,ς r=>ς ((k,t)::r)
  |_,_=>ξ
theorem Lr:∀{as:List AV} {k:Nat} {r:Lab},Np k as=ς r->r=vZ k as
 |[],k,r,h=>by simp[Np] at h;subst h;rfl
 |a::as,k,r,h=>by
  simp only[Np] at h
  split at h
  .rename_i t r' h1 h2
   simp at h;subst h
   rw[Lr h2,vZ]
   congr 2
   cases a with
   |c x=>cases x<;>simp[WW] at h1<;>subst h1<;>rfl
   |agg xs=>
    simp only[WW] at h1
    split at h1
    .rename_i cs h3;simp at h1;subst h1;rw[L0 h3];rfl
    cases h1
  cases h
theorem fn_in{f:FuncId}{fn:Func}{c:Code}{args:List AV}{rs:List ResultVar}{sl0:Lab}(hf:P.funcs[f]?=ς fn)(hb:fn.body=ς c:=by exact rfl)(hnm:(fn.name== "runtime.NumGoroutine")=false:=by kernel_rfl)(hN:fn.ntmps=N)(hrs:fn.results.toList=rs:=by exact rfl)(ha:abD args.length N=true:=by exact rfl)(hs:Np 0 args=ς sl0:=by exact rfl)(h:AWC P N c ⟨sl0,[],0⟩ (vW N P rs res)):Fn P f args res:=by
 rw[Lr hs] at h
 exact fn_of hf hb hnm hN hrs ha h
end
section
variable{P:Program}{N:Nat}{K:St->Prop}{AQ:Exit->St->Prop}{s:St}{n id:Nat}
theorem tn(h:K s):vw K AQ .normal s:=h
theorem tr(h:AQ .ret s):vw K AQ .ret s:=h
theorem te(h:AQ (.exit n) s):vw K AQ (.exit n) s:=h
theorem bn(h:AQ .normal s):jv id AQ .normal s:=h
theorem br(h:AQ .ret s):jv id AQ .ret s:=h
theorem bx(hb:fW n id=ζ)(h:AQ .normal s):jv id AQ (.exit n) s:=by simp only[jv,hb];exact h
theorem bo(hb:fW n id=η)(h:AQ (.exit n) s):jv id AQ (.exit n) s:=by simp only[jv,hb];exact h
theorem iw{rs:List ResultVar}{res':List RV}{ls:List Nat}(h:jN P s rs vs:=by repeat' (first|exact .nil|apply jN.cons|exact .tmp rfl|exact .cell rfl rfl rfl|exact .cell1 rfl rfl))(he:CJ s.ob vs=ς (res',ls):=by exact rfl)(hn:kh ls=true:=by exact rfl)(hr:res'=res:=by first|rfl|simp):vW N P rs res .ret s:=by
 subst hr;exact YW ⟨vs,ls,h,he,hn⟩
theorem abp{rs:List ResultVar}{res':List RV}{ls:List Nat}(h:jN P s rs vs:=by repeat' (first|exact .nil|apply jN.cons|exact .tmp rfl|exact .cell rfl rfl rfl|exact .cell1 rfl rfl))(he:CJ s.ob vs=ς (res',ls):=by exact rfl)(hn:kh ls=true:=by exact rfl)(hr:res'=res:=by first|rfl|simp):vW N P rs res .normal s:=by
 subst hr;exact⟨s,λ_ E _ _ h=>⟨E,h⟩,vs,ls,h,he,hn⟩
end
open Go.RowKit Go.ChangeShapes Go.WideShapes Go.Deep
inductive Sh where
 |i (k:IntKind)
 |b
 |str
 |l (e:List Sh)
mutual
inductive WT:Sh->D->Prop
 |i {k:IntKind} {n:Int} (h:(Lit.int k n).wf=ζ):WT (.i k) (.i k n)
 |b {x:Bool}:WT .b (.b x)
 |str {s:ByteArray} (h:s.size<=maxLen):WT .str (.str s)
 |l {e:List Sh} {xs:Lad} (hl:xs.length<=maxLen) (h:WTL e xs):WT (.l e) (.l xs)
inductive WTs:List Sh->List D->Prop
 |nil:WTs [] []
 |cons {s:Sh} {ss:List Sh} {x:D} {xs:List D} (h:WT s x) (h':WTs ss xs):WTs (s::ss) (x::xs)
inductive WTL:List Sh->Lad->Prop
 |nil {e:List Sh}:WTL e []
 |cons {e:List Sh} {x:List D} {xs:Lad} (h:WTs e x) (h':WTL e xs):WTL e (x::xs)
end
theorem WTs.len:∀{ss:List Sh} {xs:List D},WTs ss xs->xs.length=ss.length
 |_,_,.nil=>rfl
 |_,_,.cons _ h=>by simp[WTs.len h]
theorem WTs.append:∀{ss ts:List Sh} {xs ys:List D},WTs ss xs->WTs ts ys->WTs (ss++ts) (xs++ys)
 |_,_,_,_,.nil,h=>h
 |_,_,_,_,.cons h h',k=>.cons h (h'.append k)
mutual
inductive tc (P:Program):TypeId->List Sh->Prop
 |int {t:TypeId} {k:IntKind} (h:P.underlying t=ς (.int k)):tc P t [.i k]
 |bool {t:TypeId} (h:P.underlying t=ς .bool):tc P t [.b]
 |string {t:TypeId} (h:P.underlying t=ς .string):tc P t [.str]
 |slice {t e:TypeId} {ss:List Sh} (h:P.underlying t=ς (.slice e)) (he:tc P e ss) (hc:P.cellsOf e=ss.length) (hp:0<ss.length):tc P t [.l ss]
 |struct {t:TypeId} {fs:Array Field} {ss:List Sh} (h:P.underlying t=ς (.struct fs)) (hf:HasFs P 0 fs.toList ss) (hc:P.cellsOf t=ss.length):tc P t ss
inductive HasFs (P:Program):Nat->List Field->List Sh->Prop
 |nil {o:Nat}:HasFs P o [] []
 |cons {o:Nat} {f:Field} {fs:List Field} {s1 s2:List Sh} (ho:f.offset=o) (h:tc P f.type s1) (hc:P.cellsOf f.type=s1.length) (h':HasFs P (o+s1.length) fs s2):HasFs P o (f::fs) (s1++s2)
end
theorem J9{w:World}{F:Nat->Prop}:∀{xs ys:List D} {us vs:Lae},DV w F xs us->DV w F ys vs->DV w F (xs++ys) (us++vs)
 |[],_,[],_,_,h=>h
 |_::_,_,_::_,_,h,k=>⟨h.1,J9 h.2 k⟩
 |[],_,_::_,_,h,_=>h.elim
 |_::_,_,[],_,h,_=>h.elim
section
variable{H:Type}{enc:TypeId×Value->H}{P:Program}{w:World}{spare:Nat->Bool}{held:Bool}
theorem KX{F:Nat->Prop}:∀{xs:List D} {us:Lae} {b k:Nat},DV w F xs us->(∀j,j<us.length->w.cell? ⟨b,k+j,ξ⟩=us[j]?)->rdL w F xs b k
 |[],[],_,_,_,_=>by simp[rdL]
 |x::xs,u::us,b,k,h,hc=>by
  rw[rdL]
  refine⟨⟨u,by simpa using hc 0 (by simp),h.1⟩,KX h.2 λj hj=>?_⟩
  have:=hc (j+1) (by simp;omega)
  grind
 |[],_::_,_,_,h,_=>h.elim
 |_::_,[],_,_,h,_=>h.elim
mutual
theorem GB:∀{t:TypeId} {ss:List Sh},tc P t ss->∀{fuel:Nat} {cs:Lae} {x:DataW H×List MemPlace},DataW.trod enc P w 0 (λ_=>ζ) held fuel t cs=ς x->
 ∃xs,WTs ss xs/\DV w (λb=>b<w.heap.size) xs cs
 |_,_,.int ht,fuel,cs,x,h=>by
  obtain⟨n,rfl,_,hw⟩:=DataW.trod_int ht h
  exact⟨[.i _ n],.cons (.i hw) .nil,by simp[rdD],θ⟩
 |_,_,.bool ht,fuel,cs,x,h=>by
  obtain⟨b,rfl,_⟩:=DataW.trod_bool ht h
  exact⟨[.b b],.cons .b .nil,by simp[rdD],θ⟩
 |_,_,.string ht,fuel,cs,x,h=>by
  obtain⟨s,rfl,_,hs⟩:=DataW.trod_string ht h
  exact⟨[.str s],.cons (.str hs) .nil,by simp[rdD],θ⟩
 |_,_,.slice (ss:=ss) (e:=e) ht he hc hp,fuel,cs,x,h=>by
  rcases open_slice ht h with⟨rfl,_⟩|⟨a,len,cap,m,n,Dt,Pl,rfl,_,hl,hm,hmm,_,hi⟩
  .exact⟨[.l []],.cons (.l (abm _) .nil) .nil,by rw[rdD];simp_all,θ⟩
  have hmc:m=cap:=by simpa using hmm
  have each:∀i,i<len->∃xs,WTs ss xs/\∃us,us.length=ss.length/\DV w (λb=>b<w.heap.size) xs us/\∀j,j<ss.length->w.cell? ((a.add (i*ss.length)).add j)=us[j]?:=by
   intro i hil
   obtain⟨cs',h1,h2⟩:=hi i oaa
   obtain⟨_,h3,h4⟩:=World.cells?_some h1
   obtain⟨xs,k1,k2⟩:=GB he h2
   rw[hc] at h3 h4
   exact⟨xs,k1,cs',h3,k2,h4⟩
  by_cases h0:len=0
  .subst h0
   exact⟨[.l []],.cons (.l (abm _) .nil) .nil,by rw[rdD];simp_all,θ⟩
  .
    obtain⟨xs0,k1,us0,k2,k3,k4⟩:=each 0 oaa
    have hc0:=k4 0 hp
    have hu0:∃u,us0[0]?=ς u:=⟨_,hV oaa⟩
    obtain⟨u0,hu0⟩:=hu0
    have hcell:w.cell? a=ς u0:=by rw[<-hu0,<-hc0];simp[Addr.add]
    obtain⟨b,off,spot⟩:=a
    have hsp:spot=none:=by
     cases spot with
     |none=>rfl
     |some s=>exfalso;simp[World.cell?] at hcell;grind
    subst hsp
    have hb:b<w.heap.size:=World.block_lt_of_cell? w ⟨b,off,ξ⟩ hcell
    have build:∀n i,i+n=len->∃els,WTL ss els/\els.length=n/\(∀e'∈els,e'.length=ss.length)/\rdLL w (λb=>b<w.heap.size) els b (off+i*ss.length):=by
     intro n
     induction n with
     |zero=>intro i _;exact⟨[],.nil,rfl,by simp,by simp[rdLL]⟩
     |succ n ihn=>
      intro i hin
      obtain⟨xs,l1,us,l2,l3,l4⟩:=each i oaa
      obtain⟨els,m1,m2,m3,m4⟩:=ihn (i+1) oaa
      have hxl:=l1.len
      refine⟨xs::els,.cons l1 m1,by simp[m2],by simp_all,?_⟩
      rw[rdLL]
      refine⟨KX l3 λj hj=>?_,?_⟩
      .have:=l4 j oaa
       rw[vy,vy] at this;exact this
      grind
    obtain⟨els,m1,m2,m3,m4⟩:=build len 0 oaa
    refine⟨[.l els],.cons (.l oaa m1) .nil,?_,θ⟩
    rw[rdD]
    grind
 |_,_,.struct (fs:=fs) ht hf hc,fuel,cs,x,h=>by
  obtain⟨ys,n,_,_,h3,h4,h5⟩:=DataW.trod_struct ht h
  have key:=open_fs hf (fuel:=n) (cs:=cs) (λf hf=>by
   obtain⟨i,hi⟩:=ac7 hf
   grind)
  grind
theorem open_fs:∀{o:Nat} {fs:List Field} {ss:List Sh},HasFs P o fs ss->∀{fuel:Nat} {cs:Lae},(∀f∈fs,∃x,DataW.trod enc P w 0 (λ_=>ζ) held fuel f.type ((cs.drop f.offset).take (P.cellsOf f.type))=ς x)->
 ∃xs,WTs ss xs/\DV w (λb=>b<w.heap.size) xs ((cs.drop o).take ss.length)
 |_,_,_,.nil,fuel,cs,h=>⟨[],.nil,by simp[DV]⟩
 |o,_,_,.cons (f:=f) (s1:=s1) (s2:=s2) ho hs hc hf,fuel,cs,h=>by
  obtain⟨x,hx⟩:=h f (by simp)
  obtain⟨xs1,k1,k2⟩:=GB hs hx
  obtain⟨xs2,m1,m2⟩:=open_fs hf (λg hg=>h g (by simp[hg]))
  refine⟨xs1++xs2,k1.append m1,?_⟩
  rw[ho,hc] at k2
  have:=J9 k2 m2
  rwa [ads,List.take_add,List.drop_drop]
end
theorem YN{r:Reach}{b0:Nat}{v:Value}{s:Sh}(hs:tc P t [s])(hn:∀fs,P.underlying t≠ς (.struct fs))(hv:Value.okWide P w r b0 t v):v.cells.toList=[v]:=by
 cases hs with
 |int h=>obtain⟨n,rfl⟩:=okWide_int h hv;rfl
 |bool h=>obtain⟨n,rfl⟩:=okWide_bool h hv;rfl
 |string h=>obtain⟨n,rfl⟩:=okWide_string h hv;rfl
 |slice h=>obtain⟨a,l,c,rfl⟩:=okWide_slice h hv;rfl
 |struct h=>simp_all
theorem open_c{r:Reach}{b0:Nat}{v:Value}{d:DataW H}{p:List MemPlace}{s:Sh}(hs:tc P t [s])(hn:∀fs,P.underlying t≠ς (.struct fs))(hv:Value.okWide P w r b0 t v)(h:DataW.Trod enc P w 0 (λ_=>ζ) held t v d p):
 ∃x,WT s x/\avR w (λb=>b<w.heap.size) (.c x) v:=by
 obtain⟨fuel,hf⟩:=h
 rw[YN hs hn hv] at hf
 obtain⟨xs,h1,h2⟩:=GB hs hf
 cases h1 with
 |cons h h'=>cases h' with
  |nil=>exact⟨_,h,h2.1⟩
theorem open_agg{r:Reach}{b0:Nat}{v:Value}{d:DataW H}{p:List MemPlace}{ss:List Sh}{fs:Array Field}(hs:tc P t ss)(hu:P.underlying t=ς (.struct fs))(hv:Value.okWide P w r b0 t v)(h:DataW.Trod enc P w 0 (λ_=>ζ) held t v d p):
 ∃xs,WTs ss xs/\avR w (λb=>b<w.heap.size) (.agg xs) v:=by
 obtain⟨cs,rfl,_⟩:=okWide_struct hu hv
 obtain⟨fuel,hf⟩:=h
 obtain⟨xs,h1,h2⟩:=GB hs hf
 exact⟨xs,h1,cs,rfl,h2⟩
end
theorem jm{α:Type}{e:List Sh}{f:α->List D}{p:α->Prop}(h:∀x,WTs e x->∃a,x=f a/\p a):∀{xs:Lad},WTL e xs->∃l:List α,xs=l.map f/\∀a∈l,p a
 |_,.nil=>⟨[],rfl,by simp⟩
 |_,.cons h1 h2=>by
  obtain⟨a,rfl,ha⟩:=h _ h1
  obtain⟨l,rfl,hl⟩:=jm h h2
  exact⟨a::l,rfl,by simp_all⟩
theorem QS(h:GR w w' (λ_=>False)):Below w.heap.size w w':=⟨h.os,h.tape,h.output,h.size,λb hb=>h.block b hb (λh=>h)⟩
theorem law_calls{f:FuncId}{args:List AV}{vals:Array Value}(h:Fn P f args [rB ζ])(hT:TabsIn w)(hA:AR w (λb=>b<w.heap.size) args vals.toList):
 Calls P f vals w λe w'=>e= .returned (.bool ζ)/\Below w.heap.size w w':=by
 refine(h.calls _ w vals (λ_ h=>h) hT hA).mono ?_
 rintro e w' ⟨v,G,bs,rfl,hp,_,hr,_⟩
 obtain⟨_,hr⟩:=hr
 simp only[rdD] at hr
 exact⟨by rw[hr],QS hp⟩
abbrev WR(n:Int):Int:=IntKind.i64.wrap n
theorem Fn.frz{f:FuncId}{args:List AV}{ty:Nat}(h:Fn P f args [.c (.own ty sz els n)])(hn:els.length=n):Fn P f args [.c (.d (.l els))]:=by
 refine⟨h.enters,λF w vals hF hT hA=>(h.calls F w vals hF hT hA).mono ?_⟩
 rintro e w' ⟨v,G,bs,rfl,hp,hG,hr,_⟩
 obtain⟨b,c,arr,rfl,rfl,hh,ha,hlc,hmx,hes,hrd,hgb,hbb⟩:=hr
 subst hn
 have hlt:b<w'.heap.size:=by
  rcases ac9 b w'.heap.size with h|h
  .exact h
  simp_all
 refine⟨_,λk=>G k\/k=b,[],rfl,hp,?_,⟨rfl,?_⟩,by simp⟩
 .rintro k (hk|rfl)
  .exact hG k hk
  exact⟨hbb,hlt,.mk hh⟩
 rw[rdD]
 exact⟨_,_,rfl,hlc,.inr ⟨b,0,rfl,.inr rfl,bP (λ_ _=>rfl) (λ_ h=>.inl h) rfl _ _ hrd⟩⟩
mutual
inductive WS:Sh->D->Prop
 |i {k:IntKind} {n:Int} (h:(Lit.int k n).wf=ζ):WS (.i k) (.i k n)
 |b {x:Bool}:WS .b (.b x)
 |str {s:ByteArray} (h:s.size<=maxLen):WS .str (.str s)
 |l {e:List Sh} {xs:Lad} (hl:xs.length<=1048576) (h:WSL e xs):WS (.l e) (.l xs)
inductive WSs:List Sh->List D->Prop
 |nil:WSs [] []
 |cons {s:Sh} {ss:List Sh} {x:D} {xs:List D} (h:WS s x) (h':WSs ss xs):WSs (s::ss) (x::xs)
inductive WSL:List Sh->Lad->Prop
 |nil {e:List Sh}:WSL e []
 |cons {e:List Sh} {x:List D} {xs:Lad} (h:WSs e x) (h':WSL e xs):WSL e (x::xs)
end
mutual
def tot:D->Nat
 | .l xs=>xs.length+totLL xs
 | .i _ _=>0
 | .b _=>0
 | .str _=>0
 | .k _ _ _=>0
def totLL:Lad->Nat
 |[]=>0
 |e::es=>totL e+totLL es
def totL:List D->Nat
 |[]=>0
 |d::ds=>tot d+totL ds
end
@[simp] theorem tot_i {k:IntKind} {n:Int}:tot (.i k n)=0:=by rw[tot]
@[simp] theorem tot_b {x:Bool}:tot (.b x)=0:=by rw[tot]
@[simp] theorem tot_str {s:ByteArray}:tot (.str s)=0:=by rw[tot]
@[simp] theorem tot_l {xs:Lad}:tot (.l xs)=xs.length+totLL xs:=by rw[tot]
@[simp] theorem totL_nil:totL []=0:=by rw[totL]
@[simp] theorem totL_cons {xs:List D}:totL (x::xs)=tot x+totL xs:=by rw[totL]
@[simp] theorem totLL_nil:totLL []=0:=by rw[totLL]
@[simp] theorem totLL_cons {x:List D} {xs:Lad}:totLL (x::xs)=totL x+totLL xs:=by rw[totLL]
mutual
theorem WS_of:∀{s:Sh} {x:D},WT s x->tot x<=1048576->WS s x
 |_,_,.i h,_=>.i h
 |_,_,.b,_=>.b
 |_,_,.str h,_=>.str h
 |_,_,.l hl h,ht=>by rw[tot_l] at ht;exact .l oaa (WSL_of h oaa)
theorem WN:∀{s:List Sh} {x:List D},WTs s x->totL x<=1048576->WSs s x
 |_,_,.nil,_=>.nil
 |_,_,.cons h h',ht=>by rw[totL_cons] at ht;exact .cons (WS_of h oaa) (WN h' oaa)
theorem WSL_of:∀{s:List Sh} {x:Lad},WTL s x->totLL x<=1048576->WSL s x
 |_,_,.nil,_=>.nil
 |_,_,.cons h h',ht=>by rw[totLL_cons] at ht;exact .cons (WN h oaa) (WSL_of h' oaa)
end
section
variable{k:IntKind}{e ss:List Sh}{x:List D}{xs:Lad}{d:D}
theorem WS.gi(h:WS (.i k) d):∃n,d= .i k n/\(Lit.int k n).wf=true:=by cases h with|i h=>simp_all
theorem WS.gb(h:WS .b d):∃n,d= .b n:=by cases h;simp_all
theorem WS.gs(h:WS .str d):∃s,d= .str s/\s.size<=maxLen:=by cases h with|str h=>simp_all
theorem WS.gl(h:WS (.l e) d):∃ys,d= .l ys/\ys.length<=1048576/\WSL e ys:=by cases h with|l hl h=>simp_all
theorem WSs.gn(h:WSs [] x):x=[]:=by cases h;rfl
theorem WSs.gi(h:WSs (.i k::ss) x):∃n r,x= .i k n::r/\(Lit.int k n).wf=ζ/\WSs ss r:=by cases h with|cons h h'=>cases h with|i h=>grind
theorem WSs.gb(h:WSs (.b::ss) x):∃n r,x= .b n::r/\WSs ss r:=by cases h with|cons h h'=>cases h;grind
theorem WSs.gs(h:WSs (.str::ss) x):∃s r,x= .str s::r/\s.size<=maxLen/\WSs ss r:=by cases h with|cons h h'=>cases h with|str h=>grind
theorem WSs.gl(h:WSs (.l e::ss) x):∃ys r,x= .l ys::r/\ys.length<=1048576/\WSL e ys/\WSs ss r:=by cases h with|cons h h'=>cases h with|l hl h=>grind
theorem WTs.gn(h:WTs [] x):x=[]:=by cases h;rfl
theorem WTs.gi(h:WTs (.i k::ss) x):∃n r,x= .i k n::r/\(Lit.int k n).wf=ζ/\WTs ss r:=by cases h with|cons h h'=>cases h with|i h=>grind
theorem WTs.gb(h:WTs (.b::ss) x):∃n r,x= .b n::r/\WTs ss r:=by cases h with|cons h h'=>cases h;grind
theorem WTs.gs(h:WTs (.str::ss) x):∃s r,x= .str s::r/\s.size<=maxLen/\WTs ss r:=by cases h with|cons h h'=>cases h with|str h=>grind
theorem WTs.gl(h:WTs (.l e::ss) x):∃ys r,x= .l ys::r/\ys.length<=9223372036854775807/\WTL e ys/\WTs ss r:=by cases h with|cons h h'=>cases h with|l hl h=>exact⟨_,_,rfl,by unfold maxLen at hl;omega,h,h'⟩
theorem WT.gl(h:WT (.l e) d):∃ys,d= .l ys/\ys.length<=9223372036854775807/\WTL e ys:=by cases h with|l hl h=>exact⟨_,rfl,by unfold maxLen at hl;omega,h⟩
theorem WT.gi(h:WT (.i k) d):∃n,d= .i k n/\(Lit.int k n).wf=true:=by cases h with|i h=>simp_all
theorem WT.gb(h:WT .b d):∃n,d= .b n:=by cases h;simp_all
theorem WT.gs(h:WT .str d):∃s,d= .str s/\s.size<=maxLen:=by cases h with|str h=>simp_all
theorem WSs.len:∀{ss:List Sh} {xs:List D},WSs ss xs->xs.length=ss.length
 |_,_,.nil=>rfl
 |_,_,.cons _ h=>by simp[WSs.len h]
theorem WSL.len:∀{xs:Lad},WSL ss xs->∀e∈xs,e.length=ss.length
 |_,.nil=>by simp
 |_,.cons h h'=>by simpa using⟨h.len,WSL.len h'⟩
theorem WTL.len:∀{xs:Lad},WTL ss xs->∀e∈xs,e.length=ss.length
 |_,.nil=>by simp
 |_,.cons h h'=>by simpa using⟨h.len,WTL.len h'⟩
theorem WSL.get:∀{xs:Lad},WSL ss xs->∀(i:Nat) (h:i<xs.length),WSs ss xs[i]
 |_::_,.cons h h',0,_=>h
 |_::_,.cons h h',i+1,hi=>by simpa using WSL.get h' i (by simp_all)
theorem WTL.get:∀{xs:Lad},WTL ss xs->∀(i:Nat) (h:i<xs.length),WTs ss xs[i]
 |_::_,.cons h h',0,_=>h
 |_::_,.cons h h',i+1,hi=>by simpa using WTL.get h' i (by simp_all)
theorem WSL.at{k:Nat}(h:WSL ss xs)(hk:k<xs.length):∃e,xs[k]=e/\xs[(k:Int).toNat]?=ς e/\WSs ss e:=⟨_,rfl,by simp[hk],h.get k hk⟩
theorem WTL.at{k:Nat}(h:WTL ss xs)(hk:k<xs.length):∃e,xs[k]=e/\xs[(k:Int).toNat]?=ς e/\WTs ss e:=⟨_,rfl,by simp[hk],h.get k hk⟩
end
section
variable{P:Program}{d:Option Tmp}{ty:TypeId}{ps:String}{af:Array Edge}{gd:Option (Nat×Bool)}{x y z:Operand}
@[irreducible] def booB (a b:Bool):Bool:=a==b
@[simp] theorem booB_t {a b:Bool}:booB a b=ζ↔a=b:=by simp[booB]
@[simp] theorem booB_f {a b:Bool}:booB a b=η↔a≠b:=by simp[booB]
theorem Yt{a b:Bool}[ht:TyU P t .bool]:
 AWN P ⟨d,.binOp .eql t x y t',ty,ps,af,gd⟩ [(x,.v (.c (.d g (.b a)))),(y,.v (.c (.d g' (.b b))))] [] (.v (.c (.d η (.b (booB a b))))) []:=
 cA λE ac w hn _=>by
  have h1:=wX (hn x _ (.head _))
  have h2:=wX (hn y _ (.tail _ (.head _)))
  exact⟨.bool (a==b),by simp[execOp,h1,h2,eqGuard,binOp,run_equal_bool w t a b ht.h],by simp[cvT,cvV,cvC,gD,rdD,booB]⟩
theorem Yu{a b:Bool}[ht:TyU P t .bool]:
 AWN P ⟨d,.binOp .neq t x y t',ty,ps,af,gd⟩ [(x,.v (.c (.d g (.b a)))),(y,.v (.c (.d g' (.b b))))] [] (.v (.c (.d η (.b (!booB a b))))) []:=
 cA λE ac w hn _=>by
  have h1:=wX (hn x _ (.head _))
  have h2:=wX (hn y _ (.tail _ (.head _)))
  exact⟨.bool (!(a==b)),by simp[execOp,h1,h2,eqGuard,binOp,run_equal_bool w t a b ht.h],by simp[cvT,cvV,cvC,gD,rdD,booB]⟩
theorem CG{e:TypeId}(h:P.underlying t=ς (.slice e)):P.elem t=e/\P.underlying t=ς (.slice (P.elem t)):=by
 have:P.elem t=e:=by simp[Program.elem,h]
 simp_all
theorem KY{F:Nat->Prop}{xs:Lad}{A:Option Addr}{c h:Nat}(hs:∀e∈xs,e.length=sz)(h1:l<=h)(h2:h<=xs.length)(hlc:xs.length<=c)(hr:xs=[]\/∃b off,A=ς ⟨b,off,ξ⟩/\F b/\rdLL w F xs b off):rdD w F (.l ((xs.take h).drop l)) (sliced A l h c sz):=by
 have hl:((xs.take h).drop l).length=h-l:=by simp;omega
 rw[rdD,hl]
 refine⟨_,_,rfl,by omega,?_⟩
 by_cases hlh:h=l
 .simp_all
 right
 rcases hr with rfl|⟨b,off,rfl,hb,hr⟩
 .simp_all
 rw[if_neg oaa]
 exact⟨b,off+l*sz,by simp[Addr.add],hb,AX (oc h hr) (λe he=>hs e (adk he)) l⟩
theorem QK{t:Nat}{g g2:Bool}{xs:Lad}{h:Int}{hi:Operand}[ht:dz P t e sz by_](hs:∀e∈xs,e.length=sz)(h0:0<=h)(h2:h<=xs.length):
 AWN P ⟨d,.slice t x ξ (ς hi) ξ,ty,ps,af,gd⟩ [(x,.v (.c (.d g (.l xs)))),(hi,.v (.c (.d g2 (.i .i64 h))))] [] (.v (.c (.d g (.l (xs.take h.toNat))))) []:=
 cA λE ac w hn _=>by
  have k1:=hn x _ (.head _)
  have k3:=ic (hn hi _ (.tail _ (.head _)))
  simp only[cvT,cvV,cvC,gD,rdD] at k1
  obtain⟨A,c,hu,hlc,hr⟩:=k1
  obtain⟨i,z,hi1,hi2,_⟩:=ht.i
  obtain⟨he,hu'⟩:=CG ht.u
  refine⟨sliced A 0 h.toNat c sz,?_,by have:=KY (l:=0) (h:=h.toNat) hs oaa oaa hlc hr;rw[List.drop_zero] at this;exact this⟩
  simp[execOp,hu,k3,run_sliceAt_slice w t _ _ _ _ hu',run_slice_h w t A xs.length c hu' .i64 h h0 oaa,he,ey hi1,hi2]
theorem QL{t:Nat}{g g2:Bool}{xs:Lad}{l:Int}{lo:Operand}[ht:dz P t e sz by_](hs:∀e∈xs,e.length=sz)(h0:0<=l)(h2:l<=xs.length):
 AWN P ⟨d,.slice t x (ς lo) ξ ξ,ty,ps,af,gd⟩ [(x,.v (.c (.d g (.l xs)))),(lo,.v (.c (.d g2 (.i .i64 l))))] [] (.v (.c (.d g (.l (xs.drop l.toNat))))) []:=
 cA λE ac w hn _=>by
  have k1:=hn x _ (.head _)
  have k3:=ic (hn lo _ (.tail _ (.head _)))
  simp only[cvT,cvV,cvC,gD,rdD] at k1
  obtain⟨A,c,hu,hlc,hr⟩:=k1
  obtain⟨i,z,hi1,hi2,_⟩:=ht.i
  obtain⟨he,hu'⟩:=CG ht.u
  refine⟨sliced A l.toNat xs.length c sz,?_,by have:=KY (l:=l.toNat) (h:=xs.length) hs oaa oaa hlc hr;rw[List.take_length] at this;exact this⟩
  simp[execOp,hu,k3,run_sliceAt_slice w t _ _ _ _ hu',run_slice_l w t A xs.length c hu' .i64 l h0 oaa,he,ey hi1,hi2]
end
section
variable{P:Program}{N:Nat}{d:Tmp}{ty:TypeId}{ps:String}{af:Array Edge}{gd:Option (Nat×Bool)}{x y z:Operand}{sl:Lab}{ob:Laa}{nx:Nat}
theorem bq{a b:Bool}[TyU P t .bool](hx:opT sl x= .v (.c (.d g (.b a))))(hy:opT sl y= .v (.c (.d g' (.b b))))(hN:nlt d N=ζ):
 NS0 P N ⟨ς d,.binOp .eql t x y t',ty,ps,af,gd⟩ sl ob nx d (tB (booB a b)) ⟨d,[(x,.v (.c (.d g (.b a)))),(y,.v (.c (.d g' (.b b))))],[],tB (booB a b),[]⟩:=dx (st:=⟨sl,ob,nx⟩) Yt rfl hN ⟨hx,hy,θ⟩ trivial rfl
theorem bne{a b:Bool}[TyU P t .bool](hx:opT sl x= .v (.c (.d g (.b a))))(hy:opT sl y= .v (.c (.d g' (.b b))))(hN:nlt d N=ζ):
 NS0 P N ⟨ς d,.binOp .neq t x y t',ty,ps,af,gd⟩ sl ob nx d (tB (!booB a b)) ⟨d,[(x,.v (.c (.d g (.b a)))),(y,.v (.c (.d g' (.b b))))],[],tB (!booB a b),[]⟩:=dx (st:=⟨sl,ob,nx⟩) Yu rfl hN ⟨hx,hy,θ⟩ trivial rfl
theorem cdh{t:Nat}{g g2:Bool}{xs:Lad}{h:Int}{hi:Operand}[ht:dz P t e sz by_](hx:opT sl x= .v (.c (.d g (.l xs))))(hh:opT sl hi= .v (.c (.d g2 (.i .i64 h))))(hN:nlt d N=ζ)(hs:∀e∈xs,e.length=sz)(h0:0<=h)(h2:h<=xs.length):
 NS0 P N ⟨ς d,.slice t x ξ (ς hi) ξ,ty,ps,af,gd⟩ sl ob nx d (.v (.c (.d g (.l (xs.take h.toNat))))) ⟨d,[(x,.v (.c (.d g (.l xs)))),(hi,.v (.c (.d g2 (.i .i64 h))))],[],.v (.c (.d g (.l (xs.take h.toNat)))),[]⟩:=
 dx (st:=⟨sl,ob,nx⟩) (QK hs h0 h2) rfl hN ⟨hx,hh,θ⟩ trivial rfl
theorem cdl{t:Nat}{g g2:Bool}{xs:Lad}{l:Int}{lo:Operand}[ht:dz P t e sz by_](hx:opT sl x= .v (.c (.d g (.l xs))))(hl:opT sl lo= .v (.c (.d g2 (.i .i64 l))))(hN:nlt d N=ζ)(hs:∀e∈xs,e.length=sz)(h0:0<=l)(h2:l<=xs.length):
 NS0 P N ⟨ς d,.slice t x (ς lo) ξ ξ,ty,ps,af,gd⟩ sl ob nx d (.v (.c (.d g (.l (xs.drop l.toNat))))) ⟨d,[(x,.v (.c (.d g (.l xs)))),(lo,.v (.c (.d g2 (.i .i64 l))))],[],.v (.c (.d g (.l (xs.drop l.toNat)))),[]⟩:=
 dx (st:=⟨sl,ob,nx⟩) (QL hs h0 h2) rfl hN ⟨hx,hl,θ⟩ trivial rfl
end
def fi(e:List D)(j:Nat):Int:=match e[j]? with|some (.i _ n)=>n|_=>0
def fb(e:List D)(j:Nat):Bool:=match e[j]? with|some (.b n)=>n|_=>η
def fs(e:List D)(j:Nat):ByteArray:=match e[j]? with|some (.str n)=>n|_=>⟨#[]⟩
def fl(e:List D)(j:Nat):Lad:=match e[j]? with|some (.l n)=>n|_=>[]
@[simp] theorem fi_0 {k:IntKind} {n:Int} :fi (.i k n::r) 0=n:=rfl
@[simp] theorem fb_0 {n:Bool} :fb (.b n::r) 0=n:=rfl
@[simp] theorem fs_0 {n:ByteArray} :fs (.str n::r) 0=n:=rfl
@[simp] theorem fl_0 {n:Lad} :fl (.l n::r) 0=n:=rfl
@[simp] theorem fi_s {d:D} :fi (d::r) (j+1)=fi r j:=rfl
@[simp] theorem fb_s {d:D} :fb (d::r) (j+1)=fb r j:=rfl
@[simp] theorem fs_s {d:D} :fs (d::r) (j+1)=fs r j:=rfl
@[simp] theorem fl_s {d:D} :fl (d::r) (j+1)=fl r j:=rfl
def oR{α:Type}(f:α->Bool):Int->List α->Int
 |_,[]=> -1
 |i,a::l=>bif f a then i else oR f (i+1) l
theorem X1{f:α->Bool}{l:List α}{i:Int}(h:k<l.length):oR f i (l.drop k)=bif f l[k] then i else oR f (i+1) (l.drop (k+1)):=by rw[adI h];rfl
theorem HN{α:Type}{f:α->Bool}:∀{l:List α} {i:Int},0<=i->leB 0 (oR f i l)=l.any f
 |[],i,h=>by simp[oR]
 |a::l,i,h=>by
  rw[oR,List.any_cons]
  cases hf:f a with
  |true=>simpa using h
  |false=>simp only[cond_false,adD];exact HN oaa
theorem wN{ob:Laa}{o ty:Nat}{g:Bool}(ho:go ob o=ς (.row ty sz els g ζ):=by exact rfl)(hlt:rsv o=false:=by exact rfl):
 cO N ⟨sl,ob,nx⟩ ⟨sl,(o,.row ty sz els g η)::ob,nx⟩:=by
 intro cx E a w hR
 obtain⟨b,c,arr,hr,hh,ha,hlc,hmx,hes,hrd,hFm,_⟩:=hR.obs o _ ho
 have hF:=hFm rfl
 obtain⟨hb1,hb2⟩:=hR.ok.rb o b c hr
 have hb3:cx.In b:=by
  rcases hb2 with h|h
  .exact h
  simp_all
 let E':Env:=⟨E.r,λk=>E.F k\/k=b,λk=>E.G k\/(g=ζ/\k=b),E.T,E.Z,E.n⟩
 have hH:∀(g':Bool) k,E.H g' k->E'.H g' k:=λg' k hk=>by cases g'<;>exact Or.inl hk
 have hk:iG E w E' w:=⟨λ_ _ h=>h,hH,λ_ _ _=>rfl,λ_ _ h=>⟨h,rfl⟩,λ_ h=>⟨h,.refl _ _⟩,rfl⟩
 refine⟨E',⟨?_,?_,?_,hR.ok.rb,hR.ok.inj,hR.ok.os,hR.ok.tape,hR.ok.output,hR.ok.size,hR.ok.block,hR.ok.pin,λk hk=>hk.elim (hR.ok.ff k) (λe=>e▸hb3.nf),λk hk hk'=>hk.elim (λh=>hR.ok.gc k h hk') (λe=>e▸.mk hh),
  ⟨λl k h=>?_,hR.ok.sf.tt,λk h=>?_,hR.ok.sf.zs,hR.ok.sf.ze⟩⟩,hR.dom,λl x hl=>?_,λk=>jx hk (hR.sl k),hR.dfr,hR.size,hR.td⟩
 .rintro k (h|rfl)
  .exact hR.ok.fb k h
  exact hb1
 .rintro k (h|⟨_,rfl⟩)
  .exact .inl (hR.ok.gf k h)
  omega
 .rintro k (h|⟨_,rfl⟩)
  .exact hR.ok.gn k h
  exact hb3.ng
 .obtain⟨h1,h2,h3,h4⟩:=hR.ok.sf.tb l k h
  grind
 .obtain⟨h1,h2,h3,h4⟩:=hR.ok.sf.zc k h
  grind
 by_cases hol:o=l
 .subst hol
  rw[bX] at hl
  cases hl
  exact⟨b,c,arr,hr,hh,ha,hlc,hmx,hes,bP (λ_ _=>rfl) (hH g) rfl _ _ hrd,(λh=>by cases h),λ_=>⟨.inr rfl,λhg=>.inr ⟨by injection hg,rfl⟩⟩,θ⟩
 rw[bg _ _ hol] at hl
 refine fG hk (λ_ _ _=>rfl) (λb' c' hr' hn hn'=>?_) (hR.obs l x hl)
 rcases hn' with h|h
 .exact hn h
 subst h;exact hol (hR.ok.inj _ _ _ _ _ hr hr')
def dfz(ob:Laa):C->Option (C×Lac)
 | .w o n=>match go ob o with
  |some (.row _ _ els (.b g) η)=>ς (.d g (.l els),[(els.length,n)])
  |_=>ς (.w o n,[])
 |c=>ς (c,[])
def Qn(ob:Laa):List C->Option (List C×Lac)
 |[]=>ς ([],[])
 |c::cs=>match dfz ob c,Qn ob cs with
  |some (x,e),ς (xs,es)=>ς (x::xs,e++es)
  |_,_=>ξ
def vfz(ob:Laa):T->Option (T×Lac)
 | .v (.c c)=>match dfz ob c with
  |some (x,e)=>ς (.v (.c x),e)
  |none=>ξ
 | .v (.agg cs)=>match Qn ob cs with
  |some (x,e)=>ς (.v (.agg x),e)
  |none=>ξ
 |_=>ξ
theorem Xm{ob:Laa}(hob:∀l x,go ob l=ς x->cN E w l x){c c':C}{e:Lac}(h:dfz ob c=ς (c',e))(he:Eqs e)(hc:cvC E w c u):cvC E w c' u:=by
 unfold dfz at h
 split at h
 .rename_i o n
  split at h
  .rename_i ho
   simp at h;obtain⟨rfl,rfl⟩:=h
   obtain⟨b,c,hr,rfl⟩:=hc
   obtain⟨b',c',arr,hr',hh,ha,hlc,hmx,hes,hrd,_,hFm,_⟩:=hob o _ ho
   rw[hr] at hr';cases hr'
   obtain⟨h1,h2⟩:=hFm rfl
   have hn:=he.1
   subst hn
   show rdD _ _ _ _
   rw[rdD]
   refine⟨_,_,rfl,hlc,.inr ⟨b,0,rfl,?_,hrd⟩⟩
   exact(λ(g:Bool) (h2:Gr.b g=Gr.b ζ->E.G b)=>(by
    cases g
    .exact h1
    exact h2 rfl:E.H (.b g) b)) _ h2
  simp_all
 simp_all
theorem LA{E:Env}{w:World}{ob:Laa}(hob:∀l x,go ob l=ς x->cN E w l x):∀{cs cs':List C} {e:Lac} {us:Lae},Qn ob cs=ς (cs',e)->Eqs e->CV E w cs us->CV E w cs' us
 |[],cs',e,us,h,he,hc=>by simp[Qn] at h;simp_all
 |c::cs,cs',e,us,h,he,hc=>by
  cases us with
  |nil=>exact hc.elim
  |cons u us=>
   simp only[Qn] at h
   split at h
   .rename_i h1 h2
    simp at h;obtain⟨rfl,rfl⟩:=h
    obtain⟨k1,k2⟩:=dE he
    exact⟨Xm hob h1 k1 hc.1,LA hob h2 k2 hc.2⟩
   cases h
theorem oo{ob:Laa}{t t':T}{e:Lac}(hk:gt sl k=t:=by exact rfl)(hv:vfz ob t=ς (t',e):=by exact rfl)(he:Eqs e:=by repeat (first|exact θ|refine⟨by first|rfl|exact lm _|simp,?_⟩)):cO N ⟨sl,ob,nx⟩ ⟨(k,t')::sl,ob,nx⟩:=by
 intro cx E a w hR
 refine⟨E,hR.ok,hR.dom,hR.obs,λj=>?_,hR.dfr,hR.size,hR.td⟩
 by_cases hj:k=j
 .subst hj
  rw[da]
  have:=hR.sl k
  rw[hk] at this
  unfold vfz at hv
  split at hv
  .split at hv
   .rename_i h1;simp at hv;obtain⟨rfl,rfl⟩:=hv;exact Xm hR.obs h1 he this
   cases hv
  .split at hv
   .rename_i h1;simp at hv;obtain⟨rfl,rfl⟩:=hv;obtain⟨arr,hu,hc⟩:=this;exact⟨arr,hu,LA hR.obs h1 he hc⟩
   cases hv
  cases hv
 rw[ck _ _ hj];exact hR.sl j
inductive bJ (σ ρ:Type) where
 |next (x:σ)
 |done (r:ρ)
def iter{σ ρ:Type}(step:σ->Option (bJ σ ρ)):Nat->σ->Option ρ
 |0,_=>ξ
 |n+1,x=>match step x with
  |some (.next x')=>iter step n x'
  |some (.done r)=>ς r
  |none=>ξ
def dn(o:Option ρ):Option (bJ σ ρ):=match o with|some r=>ς (.done r)|none=>ξ
@[irreducible] def FU:Nat:=18446744073709551616
def ix(xs:List α)(i:Int):Option α:=bif leB 0 i then xs[i.toNat]? else ξ
theorem bt{b:Bool}{x y:Option α}{r:Option α}(h:b=ζ)(H:(bif b then x else y)=r):x=r:=by simp_all
theorem bf{b:Bool}{x y:Option α}{r:Option α}(h:b=η)(H:(bif b then x else y)=r):y=r:=by simp_all
theorem ob{β:Type}{o:Option α}{k:α->Option β}{r:β}(H:Option.bind o k=ς r):∃a,o=ς a/\k a=ς r:=Option.bind_eq_some_iff.1 H
theorem rq{b:Bool}{x:Option α}{r:α}(H:(bif b then x else ξ)=ς r):b=ζ/\x=ς r:=by
 grind
theorem dnE{m:Option ρ}{o:bJ σ ρ}(H:dn m=ς o):∃r,m=ς r/\o= .done r:=by
 cases m with
 |none=>cases H
 |some r=>exact⟨r,rfl,(Option.some.inj H).symm⟩
theorem ixE{xs:List α}{i:Int}{x:α}(H:ix xs i=ς x):0<=i/\xs[i.toNat]?=ς x:=by
 unfold ix at H
 obtain⟨h,H⟩:=rq H
 simp_all
theorem SQ{xs:List α}{i:Int}{x:α}(H:ix xs i=ς x):i<xs.length:=by
 obtain⟨h0,h1⟩:=ixE H
 grind
theorem fK{β:Type}{xs:List α}{i:Int}{x:α}(f:α->β)(H:ix xs i=ς x):(xs.map f)[i.toNat]?=ς (f x):=by
 rw[ada,(ixE H).2];rfl
section
variable{P:Program}{N:Nat}{st:St}{AQ:Exit->St->Prop}
theorem aK{a b c:St}(h:cO N a b)(k:cO N b c):cO N a c:=λcx E ac w hR=>let ⟨E',h'⟩:=h cx E ac w hR;k cx E' ac w h'
theorem mu(a:St):cO N a a:=λ_ E _ _ h=>⟨E,h⟩
class Clo(N:Nat)(AQ:Exit->St->Prop):Prop where
 h:∀e s m,cO N s m->AQ e m->AQ e s
instance {rs:List ResultVar} {res:List RV}:Clo N (vW N P rs res):=⟨λe s m hw h=>by
 cases e<;>simp only[vW] at h ⊢<;>first|exact h|(obtain⟨s',h1,h2⟩:=h;exact⟨s',aK hw h1,h2⟩)⟩
instance {y:Code} [c:Clo N AQ]:Clo N (vw (λs=>AWC P N y s AQ) AQ):=⟨λe s m hw h=>by
 cases e<;>first|exact wa hw h|exact c.h _ _ _ hw h⟩
instance {id:Nat} [c:Clo N AQ]:Clo N (jv id AQ):=⟨λe s m hw h=>by
 cases e with
 |exit n=>
  simp only[jv] at h ⊢
  cases hb:fW n id<;>rw[hb] at h<;>exact c.h _ _ _ hw h
 |_=>exact c.h _ _ _ hw h⟩
instance {M:St} [c:Clo N AQ]:Clo N (vw (λs=>cO N s M) AQ):=⟨λe s m hw h=>by
 cases e<;>first|exact aK hw h|exact c.h _ _ _ hw h⟩
def eB(N:Nat)(S:σ->St)(r:ρ)(o:bJ σ ρ)(AQ:Exit->St->Prop):Exit->St->Prop:=
 vw (λs=>∃x',o= .next x'/\cO N s (S x')) (λe s=>∃r',o= .done r'/\(r'=r->AQ e s))
instance {σ ρ:Type} {S:σ->St} {r:ρ} {o:bJ σ ρ} [c:Clo N AQ]:Clo N (eB N S r o AQ):=⟨λe s m hw h=>by
 cases e<;>first
  |(obtain⟨x',h1,h2⟩:=h;exact⟨x',h1,aK hw h2⟩)
  |(obtain⟨r',h1,h2⟩:=h;exact⟨r',h1,λhq=>c.h _ _ _ hw (h2 hq)⟩)⟩
theorem yH{S:σ->St}{r:ρ}{x':σ}(h:cO N s (S x')):eB (ρ:=ρ) N S r (.next x') AQ .normal s:=⟨x',rfl,h⟩
theorem HS{S:σ->St}{r r':ρ}(h:r'=r->AQ (.exit n) s):eB N S r (bJ.done r') AQ (.exit n) s:=⟨r',rfl,h⟩
theorem iq_r{S:σ->St}{r r':ρ}(h:r'=r->AQ .ret s):eB N S r (bJ.done r') AQ .ret s:=⟨r',rfl,h⟩
theorem Nt{x:Code}(M:St)[c:Clo N AQ](h1:AWC P N x st (vw (λs=>cO N s M) AQ))(h2:AQ .normal M):AWC P N x st AQ:=
 Cz h1 λe s h=>by
  cases e<;>first|exact c.h _ _ _ h h2|exact h
theorem Ns{x:Code}(M:St)[c:Clo N AQ](h1:AWC P N x st (jv id (vw (λs=>cO N s M) AQ)))(h2:AQ .normal M):AWC P N x st (jv id AQ):=
 Cz h1 λe s h=>by
  cases e with
  |exit n=>
   simp only[jv] at h ⊢
   cases hb:fW n id<;>rw[hb] at h
   .exact h
   exact c.h _ _ _ h h2
  |normal=>exact c.h _ _ _ h h2
  |_=>exact h
class Jw(N:Nat)(K:St->Prop):Prop where
 h:∀s m,cO N s m->K m->K s
instance {y:Code}:Jw N (λs=>AWC P N y s AQ):=⟨λs m hw h=>wa hw h⟩
instance [c:Clo N AQ]:Jw N (λs=>AQ .normal s):=⟨λs m hw h=>c.h _ _ _ hw h⟩
instance {M:St}:Jw N (λs=>cO N s M):=⟨λs m hw h=>aK hw h⟩
theorem Nv{ops:Array Oper}{l:List Oper}{K:St->Prop}(M:St)[c:Jw N K](h1:AWR P N ops l st (λs=>cO N s M))(h2:K M):AWR P N ops l st K:=
 W1 (λs h=>c.h _ _ h h2) h1
theorem Sn{ops:Array Oper}{K K':List Inf->St->Prop}(hk:∀is s,K is s->K' is s):∀{l:List Oper} {is:List Inf} {st:St},DR P N ops l is st K->DR P N ops l is st K'
 |[],is,st,h=>hk _ _ h
 |o::l,is,st,h=>by
  obtain⟨x,s1,s2,h1,h2,h3⟩:=h
  exact⟨x,s1,s2,h1,h2,Sn hk h3⟩
theorem LB{ops ops':Array Oper}{l:List Oper}{is:List Inf}{K:St->Prop}(M:St)[c:Jw N K](h1:DR P N ops l is st (λis t=>BI ops' is nx=ζ/\cO N t M))(h2:K M):DR P N ops l is st (λis t=>BI ops' is nx=ζ/\K t):=
 Sn (λis s h=>⟨h.1,c.h _ _ h.2 h2⟩) h1
theorem Nr{c:Code}{step:σ->Option (bJ σ ρ)}{x0:σ}{r:ρ}(S:σ->St)(H:iter step n x0=ς r)(h0:cO N st (S x0))(round:∀x o,step x=ς o->AWC P N c (S x) (eB N S r o AQ)):AWC P N (.loop c) st AQ:=by
 refine WZ (σ:=Nat×σ) (λp=>iter step p.1 p.2=ς r) (λp=>S p.2) (λp=>p.1) (n,x0) H h0 ?_
 rintro⟨m,x⟩ hI
 cases m with
 |zero=>cases hI
 |succ m=>
  simp only[iter] at hI
  cases hs:step x with
  |none=>simp_all
  |some o=>
   rw[hs] at hI
   refine Cz (round x o hs) λe s h=>?_
   cases o with
   |next x'=>
    cases e with
    |normal=>
     obtain⟨x'',hx,hw⟩:=h
     cases hx
     exact⟨(m,x'),hI,hw,Nat.lt_succ_self _⟩
    |_=>obtain⟨r',hx,_⟩:=h;cases hx
   |done r'=>
    cases hI
    cases e with
    |normal=>obtain⟨x'',hx,hw⟩:=h;cases hx
    |_=>obtain⟨r'',hx,h⟩:=h;cases hx;exact h rfl
end
def jh(by_:Nat)(n c:Int):Bool:=decide (0<=n/\n<=c/\(by_:Int)*c<=281474976710656/\c<=9223372036854775807)
def c8(by_ n:Nat):Bool:=decide (n*by_<=140737488355328/\n<=9223372036854775807)
theorem JN{enc:α->List D}(h:∀a,(enc a).length=n)(l:List α):∀e∈l.map enc,e.length=n:=by
 simp_all
theorem lm{enc:α->List D}(l:List α):(l.map enc).length=l.length:=adb _
section
variable{P:Program}{N:Nat}{d:Tmp}{ty:TypeId}{ps:String}{af:Array Edge}{gd:Option (Nat×Bool)}{x y z:Operand}{sl:Lab}{ob:Laa}{nx:Nat}
variable{α:Type}{enc:α->List D}
theorem xdT{xs:List α}{i:Int}{a:α}[dz P t e sz by_](H:ix xs i=ς a)(henc:∀a,(enc a).length=sz:=by exact λ_=>rfl)(hx:opT sl x= .v (.c (.d g (.l (xs.map enc)))):=by exact rfl)(hy:opT sl y= .v (.c (.d g' (.i kd i))):=by exact rfl)(hN:nlt d N=true:=by exact rfl):
 NS0 P N ⟨ς d,.indexAddr t x y,ty,ps,af,gd⟩ sl ob nx d (.v (.c (.q g (enc a) 0))) ⟨d,[(x,.v (.c (.d g (.l (xs.map enc))))),(y,.v (.c (.d g' (.i kd i))))],[],.v (.c (.q g (enc a) 0)),[]⟩:=
 xd hx hy hN (ixE H).1 (fK enc H) (JN henc xs)
theorem xwT{o:Nat}{i:Int}{ys:List α}{a:α}[dz P t e sz by_](H:ix ys i=ς a)(hx:opT sl x= .v (.c (.w o n)):=by exact rfl)(hy:opT sl y= .v (.c (.d g (.i kd i))):=by exact rfl)(hn:ys.length=n:=by first|rfl|simp)(hN:nlt d N=true:=by exact rfl):
 NS0 P N ⟨ς d,.indexAddr t x y,ty,ps,af,gd⟩ sl ob nx d (.v (.c (.e o sz i.toNat 0))) ⟨d,[(x,.v (.c (.w o n))),(y,.v (.c (.d g (.i kd i))))],[],.v (.c (.e o sz i.toNat 0)),[]⟩:=
 xw hx hy hN (ixE H).1 (by have:=SQ H;omega)
theorem mkT{zd:List D}{k k':IntKind}{n c:Int}{za:α}[dz P t e sz by_][TyE P e zd](H:jh by_ n c=ζ)(hz:enc za=zd)(hx:opT sl x= .v (.c (.d g (.i k n))):=by exact rfl)(hy:opT sl y= .v (.c (.d g' (.i k' c))):=by exact rfl)(hN:nlt d N=true:=by exact rfl)(hq:nxt nx=ς nx':=by exact rfl):
 NS1 P N ⟨ς d,.makeSlice t x y,ty,ps,af,gd⟩ sl ob nx nx' d (.v (.c (.w nx (aal n.toNat za).length))) (.row e sz ((aal n.toNat za).map enc) ζ ζ) ⟨d,[(x,.v (.c (.d g (.i k n)))),(y,.v (.c (.d g' (.i k' c))))],[],.v (.c (.w nx (aal n.toNat za).length)),[(nx,.row e sz ((aal n.toNat za).map enc) ζ ζ)]⟩:=by
 simp only[jh,decide_eq_true_eq] at H
 have hn:(n.toNat:Int)=n:=by omega
 have:=mk (P:=P) (N:=N) (d:=d) (ty:=ty) (ps:=ps) (af:=af) (gd:=gd) (ob:=ob) (sl:=sl) (nx:=nx) (nx':=nx') (t:=t) (e:=e) (sz:=sz) (by_:=by_) (zd:=zd) (x:=x) (y:=y) (n:=n.toNat) (by rw[hn];exact hx) hy hN oaa oaa oaa hq
 simp_all
theorem apT{o:Nat}{ys zs:List α}{zd:Lad}{g gy gg:Bool}{c:C}[dz P t e sz by_](H:c8 by_ (ys++zs).length=ζ)(hzd:zs.map enc=zd:=by exact rfl)(henc:∀a,(enc a).length=sz:=by exact λ_=>rfl)(hd:nlt d N=true:=by exact rfl)(hx:opT sl x= .v (.c (.w o n)):=by exact rfl)(hy:opT sl y= .v (.c c):=by exact rfl)(hn:ys.length=n:=by first|rfl|simp)(hs:Src ob c zd gy:=by first|exact .d|exact .nil|exact .w rfl (by first|rfl|exact lm _|simp)|exact .wn rfl (by first|rfl|exact lm _|simp))(ho:go ob o=ς (.row e sz (ys.map enc) g ζ):=by exact rfl)(hk:nX o sl=ς sl':=by exact rfl)(hkb:jE o ob=ς ob':=by exact rfl)(hg:(g&&gy)=gg:=by exact rfl)(hrv:rsp o=false:=by exact rfl):
 AWO P N ⟨ς d,.call ⟨.builtin .append,#[x,y],#[t,t]⟩,ty,ps,af,gd⟩ ⟨sl,ob,nx⟩ ⟨(d,.v (.c (.w o (ys++zs).length)))::sl',(o,.row e sz ((ys++zs).map enc) gg ζ)::ob',nx⟩:=by
 subst hzd
 simp only[c8,decide_eq_true_eq,ads] at H
 have:=ap (P:=P) (N:=N) (d:=d) (ty:=ty) (ps:=ps) (af:=af) (gd:=gd) (nx:=nx) (t:=t) (e:=e) (sz:=sz) (by_:=by_) hd hx hy ho hs hk hkb hg (by simp_all) (JN henc zs) (by simp_all) (by simp_all) hrv
 simp_all
theorem soT{o:Nat}{i:Int}{rt:TypeId}{ys:List α}{a a':α}{ns:List D}{g g' gg:Bool}[TyN P t n](H:ix ys i=ς a)(hx:opT sl x= .v (.c (.e o sz i.toNat j)):=by exact rfl)(hy:opT sl y= .v v:=by exact rfl)(ho:go ob o=ς (.row rt sz (ys.map enc) g ζ):=by exact rfl)(hv:vD v=ς (ns,g'):=by exact rfl)(hn:fW ns.length n=true:=by exact rfl)(hs:mI j ns (enc a)=ς (enc a'):=by exact rfl)(hg:(g&&g')=gg:=by exact rfl):
 AWO P N ⟨ξ,.store t x y,ty,ps,af,gd⟩ ⟨sl,ob,nx⟩ ⟨sl,(o,.row rt sz ((ys.set i.toNat a').map enc) gg ζ)::ob,nx⟩:=by
 have:=so (P:=P) (N:=N) (ty:=ty) (ps:=ps) (af:=af) (gd:=gd) (nx:=nx) (t:=t) (n:=n) hx hy ho hv hn (fK enc H) hs hg
 simp_all
end
def eI(n:Int):List D:=[.i .i64 n]
def eU8(n:Int):List D:=[.i .u8 n]
def d6(xs:List α)(l h:Int):Bool:=decide (0<=l/\l<=h/\h<=xs.length)
theorem ne0{b:Int}(h:(!eqB b 0)=ζ):b≠0:=by simp_all
theorem wn{o n':Nat}(h:gt sl k= .v (.c (.w o n)))(hn:n=n'):gt sl k= .v (.c (.w o n')):=hn▸h
section
variable{P:Program}{N:Nat}{d:Tmp}{ty:TypeId}{ps:String}{af:Array Edge}{gd:Option (Nat×Bool)}{x y z:Operand}{sl:Lab}{ob:Laa}{nx:Nat}
variable{α:Type}{enc:α->List D}
theorem ldT{xs:List α}[dz P t e sz by_](hx:opT sl x= .v (.c (.d g (.l (xs.map enc)))))(hN:nlt d N=ζ):
 NS0 P N ⟨ς d,.call ⟨.builtin .len,#[x],#[t]⟩,ty,ps,af,gd⟩ sl ob nx d (tI xs.length) ⟨d,[(x,.v (.c (.d g (.l (xs.map enc)))))],[],tI xs.length,[]⟩:=by
 have:=ld (P:=P) (N:=N) (d:=d) (ty:=ty) (ps:=ps) (af:=af) (gd:=gd) (ob:=ob) (nx:=nx) (t:=t) hx hN
 simp_all
theorem cdhT{t:Nat}{g g2:Bool}{xs:List α}{h:Int}{hi:Operand}[ht:dz P t e sz by_](H:d6 xs 0 h=ζ)(henc:∀a,(enc a).length=sz)(hx:opT sl x= .v (.c (.d g (.l (xs.map enc)))))(hh:opT sl hi= .v (.c (.d g2 (.i .i64 h))))(hN:nlt d N=ζ):
 NS0 P N ⟨ς d,.slice t x ξ (ς hi) ξ,ty,ps,af,gd⟩ sl ob nx d (.v (.c (.d g (.l ((xs.take h.toNat).map enc))))) ⟨d,[(x,.v (.c (.d g (.l (xs.map enc))))),(hi,.v (.c (.d g2 (.i .i64 h))))],[],.v (.c (.d g (.l ((xs.take h.toNat).map enc)))),[]⟩:=by
 simp only[d6,decide_eq_true_eq] at H
 have:=cdh (P:=P) (N:=N) (d:=d) (ty:=ty) (ps:=ps) (af:=af) (gd:=gd) (ob:=ob) (nx:=nx) (t:=t) (e:=e) (sz:=sz) (by_:=by_) hx hh hN (JN henc xs) H.2.1 (by simp_all)
 simp_all
theorem cdlT{t:Nat}{g g2:Bool}{xs:List α}{l:Int}{lo:Operand}[ht:dz P t e sz by_](H:d6 xs l xs.length=ζ)(henc:∀a,(enc a).length=sz)(hx:opT sl x= .v (.c (.d g (.l (xs.map enc)))))(hl:opT sl lo= .v (.c (.d g2 (.i .i64 l))))(hN:nlt d N=ζ):
 NS0 P N ⟨ς d,.slice t x (ς lo) ξ ξ,ty,ps,af,gd⟩ sl ob nx d (.v (.c (.d g (.l ((xs.drop l.toNat).map enc))))) ⟨d,[(x,.v (.c (.d g (.l (xs.map enc))))),(lo,.v (.c (.d g2 (.i .i64 l))))],[],.v (.c (.d g (.l ((xs.drop l.toNat).map enc)))),[]⟩:=by
 simp only[d6,decide_eq_true_eq] at H
 have:=cdl (P:=P) (N:=N) (d:=d) (ty:=ty) (ps:=ps) (af:=af) (gd:=gd) (ob:=ob) (nx:=nx) (t:=t) (e:=e) (sz:=sz) (by_:=by_) hx hl hN (JN henc xs) H.1 (by simp_all)
 simp_all
end
end Go.AM
