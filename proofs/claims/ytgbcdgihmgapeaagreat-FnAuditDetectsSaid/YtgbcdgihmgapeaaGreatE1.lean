/- A part. -/
import Derived.Orders
import Derived.Below
import Derived.KernelRfl
import Derived.Maps.AppendAt
import Derived.Laws.MakeOwn
import Derived.Tactics
import Derived.Laws.Strings
import Derived.Great.FillDense
import Derived.Deep.Slices
import Derived.WideShapes
import Derived.ProofKit
import Derived.OpenShut
import Derived.ChangeOld
import Derived.Laws.Slices
import Derived.Laws.Small
set_option linter.unusedVariables false
set_option linter.unusedSimpArgs false
set_option maxHeartbeats 4000000
open Option renaming some->ς,none->ξ
open Bool renaming true->ζ,false->η
open True renaming intro->θ
open List renaming getElem?_eq_getElem->Zl,getElem?_eq_some_iff->v0,mem_of_getElem?->Zk,getElem?_append_right->Zr,eq_nil_of_length_eq_zero->ZS,getElem?_append_left->Zt,mem_cons->Zp,replicate->ZP,pairwise_iff_getElem->ZJ,findIdx?_eq_some_iff_getElem->Z0,getElem?_of_mem->Zx,take_succ_cons->ZT,range->Zm,any_eq_true->ZG,getElem?_take->ZQ,flatten_cons->ZW,drop_eq_getElem_cons->Z1,findIdx?_eq_none_iff->Z3,length_map->ZU,mem_of_mem_take->ZL,all_cons->ZR,getElem?_drop->ZZ,length_append->ZM,getElem?_map->ZH,cons_append->ZN,length_cons->ZE,all_eq_true->Zq,nodup_cons->Z2,mem_append->Zn
open Nat renaming eq_of_beq_eq_true->Zo,beq->d0,mul_le_mul_right->ZI,zero_add->Zs,le_refl->Zu,le_of_ble_eq_true->ZK,zero_le->ZA,add_mul_mod_self_right->Z7,ble->Zw,lt_of_lt_of_le->Zy,add_zero->ZX,add_comm->Z5,lt_or_ge->ZF,mod_eq_of_lt->Z8,strongRecOn->Z6,le_trans->Zz
open Bool renaming and_eq_true->hV,not_eq_true'->ZD,or_eq_false_iff->ZB,or_eq_true->ZC,false_or->ZV
open Array renaming getElem?_eq_getElem->ZO,replicate->Zv,toArray_toList->ZY,getD->Z4
namespace Go.AM
variable{w w':World}{b k sz l n N j id i e off f ft nx nx':Nat}{u:Value}{t t' vt:TypeId}{a:Act}{P:Program}{dj:Tmp}{y:Code}{σ α ρ:Type}{kd:IntKind}{m:Bool}{h:Int}
abbrev Lae:=List Value
abbrev Lac:=List (Nat×Nat)
theorem oaa{p:Prop}(h:p:=by omega):p:=h
def nT:List Nat:=[]
def Gi(_:World):Prop:=True
theorem SW(w w':World)(_:∀b∈nT,w'.heap[b]?=w.heap[b]?)(_:Gi w):Gi w':=trivial
theorem Gh(w:World)(_:Gi w):∀b∈nT,b<w.heap.size:=λ_ h=>by cases h
open Go.RowKit
def nlt(a b:Nat):Bool:=Zw (a+1) b
def TabsIn(w:World):Prop:=Gi w
inductive D where
 |i (k:IntKind) (n:Int)
 |b (x:Bool)
 |str (s:ByteArray)
 |l (xs:List (List D))
 |k (A:Option Addr) (n c:Nat)
 deriving Inhabited
variable{x:Go.AM.D}{r el:List Go.AM.D}
abbrev Lad:=List (List D)
variable{els ys:Go.AM.Lad}
mutual
def rdD(w:World)(F:Nat->Prop):D->Value->Prop
 | .i k n,u=>u= .int k n
 | .b x,u=>u= .bool x
 | .str s,u=>u= .string s
 | .l xs,u=>∃A c,u= .slice A xs.length c/\xs.length<=c/\(xs=[]\/∃b off,A=ς ⟨b,off,ξ⟩/\F b/\rdLL w F xs b off)
 | .k A n c,u=>u= .slice A n c
def rdLL(w:World)(F:Nat->Prop):Lad->Nat->Nat->Prop
 |[],_,_=>True
 |e::es,b,k=>rdL w F e b k/\rdLL w F es b (k+e.length)
def rdL(w:World)(F:Nat->Prop):List D->Nat->Nat->Prop
 |[],_,_=>True
 |d::ds,b,k=>(∃u,w.cell? ⟨b,k,ξ⟩=ς u/\rdD w F d u)/\rdL w F ds b (k+1)
end
theorem qT(h:w'.heap[b]?=w.heap[b]?):w'.cell? ⟨b,k,ξ⟩=w.cell? ⟨b,k,ξ⟩:=by
 simp[World.cell?,h]
mutual
theorem bP{w w':World}{F F':Nat->Prop}(hw:∀b,F b->w'.heap[b]?=w.heap[b]?)(hF:∀b,F b->F' b):
 ∀(d:D) (u:Value),rdD w F d u->rdD w' F' d u
 | .i _ _,_,h=>by simpa [rdD] using h
 | .b _,_,h=>by simpa [rdD] using h
 | .str _,_,h=>by simpa [rdD] using h
 | .l xs,u,h=>by
  rw[rdD] at h ⊢
  obtain⟨A,c,hu,hlc,h⟩:=h
  refine⟨A,c,hu,hlc,?_⟩
  rcases h with h|⟨b,off,hA,hb,h⟩
  .exact .inl h
  exact .inr ⟨b,off,hA,hF b hb,rdLL_mono hw hF xs b off hb h⟩
 | .k _ _ _,_,h=>by simpa [rdD] using h
theorem rdLL_mono{w w':World}{F F':Nat->Prop}(hw:∀b,F b->w'.heap[b]?=w.heap[b]?)(hF:∀b,F b->F' b):
 ∀(xs:Lad) (b k:Nat),F b->rdLL w F xs b k->rdLL w' F' xs b k
 |[],_,_,_,_=>by simp[rdLL]
 |e::es,b,k,hb,h=>by
  rw[rdLL] at h ⊢
  exact⟨rdL_mono hw hF e b k hb h.1,rdLL_mono hw hF es b _ hb h.2⟩
theorem rdL_mono{w w':World}{F F':Nat->Prop}(hw:∀b,F b->w'.heap[b]?=w.heap[b]?)(hF:∀b,F b->F' b):
 ∀(xs:List D) (b k:Nat),F b->rdL w F xs b k->rdL w' F' xs b k
 |[],_,_,_,_=>by simp[rdL]
 |d::ds,b,k,hb,h=>by
  rw[rdL] at h ⊢
  obtain⟨⟨u,hc,hu⟩,h⟩:=h
  exact⟨⟨u,(qT (hw b hb)).trans hc,bP hw hF d u hu⟩,rdL_mono hw hF ds b _ hb h⟩
end
theorem Ei{w w':World}{F F':Nat->Prop}(hw:∀b,F b->w'.heap[b]?=w.heap[b]?)(hF:∀b,F b->F' b){b:Nat}(hb:w'.heap[b]?=w.heap[b]?):
 ∀(xs:List D) (k:Nat),rdL w F xs b k->rdL w' F' xs b k
 |[],_,_=>by simp[rdL]
 |d::ds,k,h=>by
  rw[rdL] at h ⊢
  obtain⟨⟨u,hc,hu⟩,h⟩:=h
  exact⟨⟨u,(qT hb).trans hc,bP hw hF d u hu⟩,Ei hw hF hb ds _ h⟩
theorem bS{w w':World}{F F':Nat->Prop}(hw:∀b,F b->w'.heap[b]?=w.heap[b]?)(hF:∀b,F b->F' b){b:Nat}(hb:w'.heap[b]?=w.heap[b]?):
 ∀(xs:Lad) (k:Nat),rdLL w F xs b k->rdLL w' F' xs b k
 |[],_,_=>by simp[rdLL]
 |e::es,k,h=>by
  rw[rdLL] at h ⊢
  exact⟨Ei hw hF hb e k h.1,bS hw hF hb es _ h.2⟩
theorem iA{w:World}{F:Nat->Prop}:∀{xs:List D} {b k:Nat} {j:Nat} {d:D},rdL w F xs b k->xs[j]?=ς d->∃u,w.cell? ⟨b,k+j,ξ⟩=ς u/\rdD w F d u
 |[],_,_,_,_,_,h=>by simp at h
 |_::_,b,k,0,d,h,hj=>by
  rw[rdL] at h
  simp_all
 |_::ds,b,k,j+1,d,h,hj=>by
  rw[rdL] at h
  have:=iA (j:=j) h.2 (by simpa using hj)
  grind
theorem lA{w:World}{F:Nat->Prop}:∀{xs:List D} {b k:Nat},(∀j d,xs[j]?=ς d->∃u,w.cell? ⟨b,k+j,ξ⟩=ς u/\rdD w F d u)->rdL w F xs b k
 |[],_,_,_=>by simp[rdL]
 |d::ds,b,k,h=>by
  rw[rdL]
  refine⟨h 0 d rfl,lA λj d' hj=>?_⟩
  have:=h (j+1) d' (by simp_all)
  grind
theorem ph{w:World}{F:Nat->Prop}{sz:Nat}:∀{xs:Lad} {b k:Nat} {i:Nat} {e:List D},rdLL w F xs b k->(∀e∈xs,e.length=sz)->xs[i]?=ς e->rdL w F e b (k+i*sz)
 |[],_,_,_,_,_,_,h=>by simp at h
 |_::_,b,k,0,e,h,_,hi=>by
  rw[rdLL] at h
  simp_all
 |e0::es,b,k,i+1,e,h,hs,hi=>by
  rw[rdLL] at h
  have h0:e0.length=sz:=hs e0 (by simp)
  have:=ph (i:=i) h.2 (λx hx=>hs x (by simp[hx])) (by simpa using hi)
  grind
theorem tZ{w:World}{F:Nat->Prop}{sz:Nat}:∀{xs:Lad} {b k:Nat},(∀e∈xs,e.length=sz)->(∀i e,xs[i]?=ς e->rdL w F e b (k+i*sz))->rdLL w F xs b k
 |[],_,_,_,_=>by simp[rdLL]
 |e0::es,b,k,hs,h=>by
  rw[rdLL]
  have h0:e0.length=sz:=hs e0 (by simp)
  refine⟨by simpa using h 0 e0 rfl,tZ (λx hx=>hs x (by simp[hx])) λi e hi=>?_⟩
  have:=h (i+1) e (by simp_all)
  grind
theorem vV{F:Nat->Prop}{xs:Lad}(h:rdLL w F xs b k)(hs:∀e∈xs,e.length=sz)(m:Nat):rdLL w F (xs.drop m) b (k+m*sz):=
 tZ (λe he=>hs e (List.mem_of_mem_drop he)) λi e hi=>by
  rw[ZZ] at hi
  have:=ph h hs hi
  grind
theorem lH{w:World}{F:Nat->Prop}:∀{xs:Lad} {b k:Nat} (m:Nat),rdLL w F xs b k->rdLL w F (xs.take m) b k
 |[],_,_,_,_=>by simp[rdLL]
 |_::_,_,_,0,_=>by simp[rdLL]
 |e::es,b,k,m+1,h=>by
  rw[rdLL] at h
  rw[ZT,rdLL]
  exact⟨h.1,lH m h.2⟩
theorem Nc{sz:Nat}:∀{xs:Lad},(∀e∈xs,e.length=sz)->(xs.map List.length).sum=xs.length*sz
 |[],_=>by simp
 |e::es,h=>by
  simp[h e (by simp),Nc (xs:=es) λx hx=>h x (by simp[hx]),Nat.add_mul]
  omega
theorem iS{F:Nat->Prop}{d:D}(h:rdD w F d u):u.oneCell'=true:=by
 cases d<;>simp only[rdD] at h
 case l xs=>obtain⟨A,c,rfl,_⟩:=h;rfl
 all_goals subst h;rfl
theorem nk{F:Nat->Prop}{d:D}(h:rdD w F d u):u.cells= #[u]:=by
 cases d<;>simp only[rdD] at h
 case l xs=>obtain⟨A,c,rfl,_⟩:=h;rfl
 all_goals subst h;rfl
def KP(u u':Value):Prop:=u'=u\/(∃k n m,u= .int k n/\u'= .int k m)\/(∃x y,u= .bool x/\u'= .bool y)\/(∃s t,u= .string s/\u'= .string t)
theorem KP.trans{v x:Value}(h:KP u v)(h':KP v x):KP u x:=by
 rcases h with rfl|⟨k,n,m,rfl,rfl⟩|⟨a,b,rfl,rfl⟩|⟨s,t,rfl,rfl⟩
 .exact h'
 .rcases h' with rfl|⟨k',n',m',h1,rfl⟩|⟨a,b,h1,rfl⟩|⟨s,t,h1,rfl⟩
  .exact .inr (.inl ⟨_,_,_,rfl,rfl⟩)
  .cases h1;exact .inr (.inl ⟨_,_,_,rfl,rfl⟩)
  .cases h1
  cases h1
 .rcases h' with rfl|⟨k',n',m',h1,rfl⟩|⟨a,b,h1,rfl⟩|⟨s,t,h1,rfl⟩
  .exact .inr (.inr (.inl ⟨_,_,rfl,rfl⟩))
  .cases h1
  .cases h1;exact .inr (.inr (.inl ⟨_,_,rfl,rfl⟩))
  cases h1
 rcases h' with rfl|⟨k',n',m',h1,rfl⟩|⟨a,b,h1,rfl⟩|⟨s,t,h1,rfl⟩
 .exact .inr (.inr (.inr ⟨_,_,rfl,rfl⟩))
 .cases h1
 .cases h1
 cases h1;exact .inr (.inr (.inr ⟨_,_,rfl,rfl⟩))
def oH(w w':World)(b:Nat):Prop:=∀k u,w.cell? ⟨b,k,ξ⟩=ς u->∃u',w'.cell? ⟨b,k,ξ⟩=ς u'/\KP u u'
theorem oH.refl(w:World)(b:Nat):oH w w b:=λ_ u h=>⟨u,h,.inl rfl⟩
theorem oH.of_eq(h:w'.heap[b]?=w.heap[b]?):oH w w' b:=λ_ u hc=>⟨u,(qT h).trans hc,.inl rfl⟩
theorem oH.trans{w'':World}(h:oH w w' b)(h':oH w' w'' b):oH w w'' b:=λk u hc=>by
 obtain⟨u',h1,h2⟩:=h k u hc
 obtain⟨u'',h3,h4⟩:=h' k u' h1
 exact⟨u'',h3,h2.trans h4⟩
mutual
def rsD(w:World)(F:Nat->Prop):D->Value->Prop
 | .i k _,u=>∃m,u= .int k m
 | .b _,u=>∃x,u= .bool x
 | .str _,u=>∃s,u= .string s
 | .l xs,u=>∃A c,u= .slice A xs.length c/\xs.length<=c/\(xs=[]\/∃b off,A=ς ⟨b,off,ξ⟩/\F b/\rsLL w F xs b off)
 | .k A n c,u=>u= .slice A n c
def rsLL(w:World)(F:Nat->Prop):Lad->Nat->Nat->Prop
 |[],_,_=>True
 |e::es,b,k=>rsL w F e b k/\rsLL w F es b (k+e.length)
def rsL(w:World)(F:Nat->Prop):List D->Nat->Nat->Prop
 |[],_,_=>True
 |d::ds,b,k=>(∃u,w.cell? ⟨b,k,ξ⟩=ς u/\rsD w F d u)/\rsL w F ds b (k+1)
end
theorem VG{F:Nat->Prop}{d:D}{u':Value}(h:rsD w F d u)(hs:KP u u'):rsD w F d u':=by
 rcases hs with rfl|⟨k,n,m,rfl,rfl⟩|⟨a,b,rfl,rfl⟩|⟨s,t,rfl,rfl⟩
 .exact h
 all_goals cases d<;>simp only[rsD] at h ⊢
 all_goals first
  |(obtain⟨A,c,h,_⟩:=h;cases h;done)
  |(obtain⟨m',h⟩:=h;cases h;done)
  |(obtain⟨m',h⟩:=h;cases h;exact⟨_,rfl⟩)
  |(cases h;done)
mutual
theorem qy{w w':World}{F F':Nat->Prop}(hw:∀b,F b->oH w w' b)(hF:∀b,F b->F' b):
 ∀(d:D) (u:Value),rsD w F d u->rsD w' F' d u
 | .i _ _,_,h=>by simpa [rsD] using h
 | .b _,_,h=>by simpa [rsD] using h
 | .str _,_,h=>by simpa [rsD] using h
 | .l xs,u,h=>by
  rw[rsD] at h ⊢
  obtain⟨A,c,hu,hlc,h⟩:=h
  refine⟨A,c,hu,hlc,?_⟩
  rcases h with h|⟨b,off,hA,hb,h⟩
  .exact .inl h
  exact .inr ⟨b,off,hA,hF b hb,rsLL_mono hw hF xs b off hb h⟩
 | .k _ _ _,_,h=>by simpa [rsD] using h
theorem rsLL_mono{w w':World}{F F':Nat->Prop}(hw:∀b,F b->oH w w' b)(hF:∀b,F b->F' b):
 ∀(xs:Lad) (b k:Nat),F b->rsLL w F xs b k->rsLL w' F' xs b k
 |[],_,_,_,_=>by simp[rsLL]
 |e::es,b,k,hb,h=>by
  rw[rsLL] at h ⊢
  exact⟨rsL_mono hw hF e b k hb h.1,rsLL_mono hw hF es b _ hb h.2⟩
theorem rsL_mono{w w':World}{F F':Nat->Prop}(hw:∀b,F b->oH w w' b)(hF:∀b,F b->F' b):
 ∀(xs:List D) (b k:Nat),F b->rsL w F xs b k->rsL w' F' xs b k
 |[],_,_,_,_=>by simp[rsL]
 |d::ds,b,k,hb,h=>by
  rw[rsL] at h ⊢
  obtain⟨⟨u,hc,hu⟩,h⟩:=h
  obtain⟨u',hc',hs⟩:=hw b hb k u hc
  exact⟨⟨u',hc',qy hw hF d u' (VG hu hs)⟩,rsL_mono hw hF ds b _ hb h⟩
end
mutual
theorem Ys{w:World}{F:Nat->Prop}:∀(d:D) (u:Value),rdD w F d u->rsD w F d u
 | .i _ n,_,h=>by rw[rdD] at h;rw[rsD];simp_all
 | .b x,_,h=>by rw[rdD] at h;rw[rsD];simp_all
 | .str s,_,h=>by rw[rdD] at h;rw[rsD];simp_all
 | .l xs,u,h=>by
  rw[rdD] at h;rw[rsD]
  obtain⟨A,c,hu,hlc,h⟩:=h
  refine⟨A,c,hu,hlc,?_⟩
  rcases h with h|⟨b,off,hA,hb,h⟩
  .exact .inl h
  exact .inr ⟨b,off,hA,hb,rsLL_of xs b off h⟩
 | .k _ _ _,_,h=>by rw[rdD] at h;rw[rsD];exact h
theorem rsLL_of{w:World}{F:Nat->Prop}:∀(xs:Lad) (b k:Nat),rdLL w F xs b k->rsLL w F xs b k
 |[],_,_,_=>by simp[rsLL]
 |e::es,b,k,h=>by
  rw[rdLL] at h;rw[rsLL]
  exact⟨rsL_of e b k h.1,rsLL_of es b _ h.2⟩
theorem rsL_of{w:World}{F:Nat->Prop}:∀(xs:List D) (b k:Nat),rdL w F xs b k->rsL w F xs b k
 |[],_,_,_=>by simp[rsL]
 |d::ds,b,k,h=>by
  rw[rdL] at h;rw[rsL]
  obtain⟨⟨u,hc,hu⟩,h⟩:=h
  exact⟨⟨u,hc,Ys d u hu⟩,rsL_of ds b _ h⟩
end
theorem KD{w:World}{F:Nat->Prop}:∀{xs:List D} {b k:Nat} {j:Nat} {d:D},rsL w F xs b k->xs[j]?=ς d->∃u,w.cell? ⟨b,k+j,ξ⟩=ς u/\rsD w F d u
 |[],_,_,_,_,_,h=>by simp at h
 |_::_,b,k,0,d,h,hj=>by
  rw[rsL] at h
  simp_all
 |_::ds,b,k,j+1,d,h,hj=>by
  rw[rsL] at h
  have:=KD (j:=j) h.2 (by simpa using hj)
  grind
theorem KC{F:Nat->Prop}{d:D}(h:rsD w F d u):u.oneCell'=ζ/\u.cells= #[u]:=by
 cases d<;>simp only[rsD] at h
 case l xs=>obtain⟨A,c,rfl,_⟩:=h;exact⟨rfl,rfl⟩
 all_goals obtain⟨_,rfl⟩:=h;exact⟨rfl,rfl⟩
def Sep(T:Nat->Prop)(b:Nat)(Q:Nat->Nat->Prop):Prop:=(∀k b',Q k b'->T b'/\b'≠b)/\∀k k' b',Q k b'->Q k' b'->k=k'
def A8(w:World)(b c:Nat)(xs:Lad):Prop:=∃arr ty sz,w.heap[b]?=ς (.cells arr ty (0,0))/\arr.size=c*sz/\c<=maxLen/\∀e∈xs,e.length=sz
theorem A8.keep{c:Nat}{xs:Lad}(h:A8 w b c xs)(hb:w'.heap[b]?=w.heap[b]?):A8 w' b c xs:=by
 obtain⟨arr,ty,sz,h1,h2⟩:=h
 exact⟨arr,ty,sz,hb.trans h1,h2⟩
mutual
def eT(w:World):(Nat->Prop)->D->Value->Prop
 |_,.i k n,u=>u= .int k n
 |_,.b x,u=>u= .bool x
 |_,.str s,u=>u= .string s
 |T,.l xs,u=>∃A c,u= .slice A xs.length c/\xs.length<=c/\(xs=[]\/∃b Q,A=ς ⟨b,0,ξ⟩/\T b/\Sep T b Q/\trLL w Q xs b 0/\A8 w b c xs)
 |_,.k A n c,u=>u= .slice A n c
def trLL(w:World)(Q:Nat->Nat->Prop):Lad->Nat->Nat->Prop
 |[],_,_=>True
 |e::es,b,k=>trL w Q e b k/\trLL w Q es b (k+e.length)
def trL(w:World)(Q:Nat->Nat->Prop):List D->Nat->Nat->Prop
 |[],_,_=>True
 |d::ds,b,k=>(∃u,w.cell? ⟨b,k,ξ⟩=ς u/\eT w (Q k) d u)/\trL w Q ds b (k+1)
end
theorem Sep.mono{T T':Nat->Prop}{Q:Nat->Nat->Prop}(h:Sep T b Q)(hT:∀b,T b->T' b):Sep T' b Q:=⟨λk b' hk=>⟨hT b' (h.1 k b' hk).1,(h.1 k b' hk).2⟩,h.2⟩
mutual
theorem eT.keep{w w':World}:∀{x:D} {T T':Nat->Prop} {u:Value},eT w T x u->(∀b,T b->w'.heap[b]?=w.heap[b]?)->(∀b,T b->T' b)->eT w' T' x u
 | .i _ _,_,_,_,h,_,_=>by simpa [eT] using h
 | .b _,_,_,_,h,_,_=>by simpa [eT] using h
 | .str _,_,_,_,h,_,_=>by simpa [eT] using h
 | .l xs,T,T',u,h,hw,hT=>by
  rw[eT] at h ⊢
  obtain⟨A,c,hu,hlc,h⟩:=h
  refine⟨A,c,hu,hlc,?_⟩
  rcases h with h|⟨b,Q,hA,hb,hs,h,hr⟩
  .exact .inl h
  exact .inr ⟨b,Q,hA,hT b hb,hs.mono hT,trLL_keep (xs:=xs) (hw b hb) (λk b' hk=>hw b' (hs.1 k b' hk).1) h,hr.keep (hw b hb)⟩
 | .k _ _ _,_,_,_,h,_,_=>by simpa [eT] using h
theorem trLL_keep{w w':World}{Q:Nat->Nat->Prop}:∀{xs:Lad} {b k:Nat},w'.heap[b]?=w.heap[b]?->(∀k b',Q k b'->w'.heap[b']?=w.heap[b']?)->trLL w Q xs b k->trLL w' Q xs b k
 |[],_,_,_,_,_=>by simp[trLL]
 |e::es,b,k,hb,hw,h=>by
  rw[trLL] at h ⊢
  exact⟨trL_keep (xs:=e) hb hw h.1,trLL_keep (xs:=es) hb hw h.2⟩
theorem trL_keep{w w':World}{Q:Nat->Nat->Prop}:∀{xs:List D} {b k:Nat},w'.heap[b]?=w.heap[b]?->(∀k b',Q k b'->w'.heap[b']?=w.heap[b']?)->trL w Q xs b k->trL w' Q xs b k
 |[],_,_,_,_,_=>by simp[trL]
 |d::ds,b,k,hb,hw,h=>by
  rw[trL] at h ⊢
  obtain⟨⟨u,hc,hu⟩,h⟩:=h
  exact⟨⟨u,(qT hb).trans hc,eT.keep (x:=d) hu (hw k) (λ_ h=>h)⟩,trL_keep (xs:=ds) hb hw h⟩
end
mutual
theorem eT.rdF{w:World}{F:Nat->Prop}:∀{x:D} {T:Nat->Prop} {u:Value},eT w T x u->(∀b,T b->F b)->rdD w F x u
 | .i _ _,_,_,h,_=>by rw[eT] at h;rw[rdD];exact h
 | .b _,_,_,h,_=>by rw[eT] at h;rw[rdD];exact h
 | .str _,_,_,h,_=>by rw[eT] at h;rw[rdD];exact h
 | .l xs,T,u,h,hF=>by
  rw[eT] at h;rw[rdD]
  obtain⟨A,c,hu,hlc,h⟩:=h
  refine⟨A,c,hu,hlc,?_⟩
  rcases h with h|⟨b,Q,hA,hb,hs,h,_⟩
  .exact .inl h
  exact .inr ⟨b,0,hA,hF b hb,trLL_rd (xs:=xs) (λk b' hk=>hF b' (hs.1 k b' hk).1) h⟩
 | .k _ _ _,_,_,h,_=>by rw[eT] at h;rw[rdD];exact h
theorem trLL_rd{w:World}{F:Nat->Prop}{Q:Nat->Nat->Prop}:∀{xs:Lad} {b k:Nat},(∀k b',Q k b'->F b')->trLL w Q xs b k->rdLL w F xs b k
 |[],_,_,_,_=>by simp[rdLL]
 |e::es,b,k,hF,h=>by
  rw[trLL] at h;rw[rdLL]
  exact⟨trL_rd (xs:=e) hF h.1,trLL_rd (xs:=es) hF h.2⟩
theorem trL_rd{w:World}{F:Nat->Prop}{Q:Nat->Nat->Prop}:∀{xs:List D} {b k:Nat},(∀k b',Q k b'->F b')->trL w Q xs b k->rdL w F xs b k
 |[],_,_,_,_=>by simp[rdL]
 |d::ds,b,k,hF,h=>by
  rw[trL] at h;rw[rdL]
  obtain⟨⟨u,hc,hu⟩,h⟩:=h
  exact⟨⟨u,hc,eT.rdF (x:=d) hu (hF k)⟩,trL_rd (xs:=ds) hF h⟩
end
theorem eT.rd{T:Nat->Prop}(h:eT w T x u):rdD w T x u:=h.rdF λ_ h=>h
def db(w:World)(T:Nat->Prop)(els:Lad)(b:Nat):Prop:=∃Q,Sep T b Q/\trLL w Q els b 0
theorem db.keep{T T':Nat->Prop}(h:db w T els b)(hb:w'.heap[b]?=w.heap[b]?)(hw:∀b,T b->w'.heap[b]?=w.heap[b]?)(hT:∀b,T b->T' b):db w' T' els b:=by
 obtain⟨Q,h1,h2⟩:=h
 exact⟨Q,h1.mono hT,trLL_keep hb (λk b' hk=>hw b' (h1.1 k b' hk).1) h2⟩
theorem db.tree{T:Nat->Prop}{c:Nat}(h:db w T els b)(hc:els.length<=c)(hx:A8 w b c els):eT w (λk=>T k\/k=b) (.l els) (.slice (ς ⟨b,0,ξ⟩) els.length c):=by
 obtain⟨Q,h1,h2⟩:=h
 rw[eT]
 exact⟨_,_,rfl,hc,.inr ⟨b,Q,rfl,.inr rfl,h1.mono λ_ h=>.inl h,h2,hx⟩⟩
theorem y7{w:World}{Q:Nat->Nat->Prop}:∀{e:List D} {b k:Nat},trL w Q e b k↔∀j d,e[j]?=ς d->∃u,w.cell? ⟨b,k+j,ξ⟩=ς u/\eT w (Q (k+j)) d u
 |[],b,k=>by simp[trL]
 |d::ds,b,k=>by
  rw[trL,y7]
  constructor
  .rintro⟨h1,h2⟩ j x hj
   cases j with
   |zero=>simp at hj;subst hj;exact h1
   |succ j=>have:=h2 j x (by simpa using hj);rwa [show k+1+j=k+(j+1) by omega] at this
  intro h
  refine⟨h 0 d rfl,λj x hj=>?_⟩
  have:=h (j+1) x (by simpa using hj)
  rwa [show k+(j+1)=k+1+j by omega] at this
theorem Jh{w:World}{Q:Nat->Nat->Prop}:∀{xs:Lad} {b k:Nat},trLL w Q xs b k↔trL w Q xs.flatten b k
 |[],b,k=>by simp[trLL,trL]
 |e::es,b,k=>by
  rw[trLL,Jh,ZW,y7,y7,y7]
  constructor
  .rintro⟨h1,h2⟩ j x hj
   by_cases h:j<e.length
   .rw[Zt h] at hj;exact h1 j x hj
   rw[Zr oaa] at hj
   have:=h2 _ x hj
   rwa [show k+e.length+(j-e.length)=k+j by omega] at this
  intro h
  refine⟨λj x hj=>h j x ?_,λj x hj=>?_⟩
  .rw[Zt (v0.1 hj).1];exact hj
  have:=h (e.length+j) x (by rw[Zr oaa];simpa using hj)
  rwa [<-Nat.add_assoc] at this
theorem db.iff{T:Nat->Prop} :db w T els b↔∃Q,Sep T b Q/\∀j d,els.flatten[j]?=ς d->∃u,w.cell? ⟨b,j,ξ⟩=ς u/\eT w (Q j) d u:=by
 unfold db
 simp only[Jh,y7,Zs]
inductive Gr where
 |b (x:Bool)
 |s (n:Nat)
 |t (n:Nat)
variable{g g':Go.AM.Gr}
def Gr.sub:Gr->Gr
 | .t n=>.s n
 |g=>g
instance:Coe Bool Gr:=⟨Gr.b⟩
inductive C where
 |d (g:Gr) (x:D)
 |w (o n:Nat)
 |s (o sz off len:Nat)
 |p (o k:Nat)
 |e (o sz i j:Nat)
 |q (g:Gr) (x:List D) (j:Nat)
 |fn (f:FuncId)
 |nil
 |any
 |r (l:Nat) (x:D)
 |z (x:D)
 |zq (x:List D) (j:Nat)
 |wn (o n:Nat)
variable{cs:List Go.AM.C}
inductive V where
 |c (x:C)
 |agg (cs:List C)
variable{vs:List Go.AM.V}
inductive T where
 |v (x:V)
 |tup (ts:List V)
 |any
variable{out:Go.AM.T}
abbrev Lab:=List (Nat×T)
variable{sl sl':Go.AM.Lab}
structure Hid where
 nl:Prop
 S:Nat->Nat->(Nat->Prop)->World->Prop
 st:∀(b c:Nat) (R R':Nat->Prop) (w w':World),S b c R w->(∀k,R k->R' k)->w'.heap[b]?=w.heap[b]?->(∀k,R k->w'.heap[k]?=w.heap[k]?)->S b c R' w'
inductive Ob where
 |var (ty:TypeId) (cs:List C)
 |row (ty:TypeId) (sz:Nat) (els:Lad) (g:Gr) (m:Bool)
 |rown (ty:TypeId) (sz:Nat) (els:Lad) (g:Gr)
 |abs (l:Nat) (h:Hid)
abbrev Laa:=List (Nat×Ob)
variable{nob ob':Go.AM.Laa}
abbrev tI(n:Int):T:=.v (.c (.d η (.i .i64 n)))
abbrev tB(b:Bool):T:=.v (.c (.d η (.b b)))
abbrev tS(s:ByteArray):T:=.v (.c (.d η (.str s)))
structure Env where
 r:Nat->Option (Nat×Nat)
 F:Nat->Prop
 G:Nat->Prop
 T:Nat->Nat->Prop:=λ_ _=>False
 Z:Nat->Prop:=λ_=>False
 n:Nat->Prop:=λ_=>False
variable{E E':Go.AM.Env}
def Env.H(E:Env):Gr->Nat->Prop
 | .b g=>if g then E.G else E.F
 | .s n| .t n=>E.T n
def qR(E:Env)(w:World)(els:Lad)(b:Nat):Gr->Prop
 | .b _=>True
 | .s n| .t n=>db w (E.T n) els b
theorem Cp(hT:E'.T=E.T):∀{g:Gr},qR E w els b g->qR E' w els b g
 | .b _,_=>trivial
 | .s n,h| .t n,h=>h.keep rfl (λ_ _=>rfl) λk hk=>by rw[hT];exact hk
def gD(E:Env)(w:World):Gr->D->Value->Prop
 | .t l,x,u=>eT w (E.T l) x u
 | .b g,x,u=>rdD w (E.H (.b g)) x u
 | .s l,x,u=>rdD w (E.T l) x u
theorem jQ:∀{g:Gr} {x:D} {u:Value},gD E w g x u->rdD w (E.H g) x u
 | .t l,x,u,h=>h.rd
 | .b g,x,u,h=>h
 | .s l,x,u,h=>h
theorem XD:∀{g:Gr} {x:D} {u:Value},rdD w (E.H g) x u->gD E w g.sub x u
 | .t l,x,u,h=>h
 | .b g,x,u,h=>h
 | .s l,x,u,h=>h
def cvC(E:Env)(w:World):C->Value->Prop
 | .d g x,u=>gD E w g x u
 | .w o n,u=>∃b c,E.r o=ς (b,c)/\u= .slice (ς ⟨b,0,ξ⟩) n c
 | .s o sz off len,u=>∃A c b k,E.r o=ς (b,k)/\u= .slice A len c/\len<=c/\off+c<=k/\(c=0\/A=ς ⟨b,off*sz,ξ⟩)
 | .p o k,u=>∃b c,E.r o=ς (b,c)/\u= .pointer (ς ⟨b,k,ξ⟩)
 | .e o sz i j,u=>∃b c,E.r o=ς (b,c)/\u= .pointer (ς ⟨b,i*sz+j,ξ⟩)
 | .q g x j,u=>∃b k,u= .pointer (ς ⟨b,k+j,ξ⟩)/\E.H g b/\rdL w (E.H g) x b k
 | .fn f,u=>u= .func (.func f) #[] #[]
 | .nil,u=>u= .slice ξ 0 0
 | .any,_=>True
 | .r l x,u=>rdD w (E.T l) x u
 | .z x,u=>rsD w E.Z x u
 | .zq x j,u=>∃b k,u= .pointer (ς ⟨b,k+j,ξ⟩)/\E.Z b/\rsL w E.Z x b k
 | .wn o n,u=>(E.n o/\n=0/\u= .slice ξ 0 0)\/(¬E.n o/\∃b c,E.r o=ς (b,c)/\u= .slice (ς ⟨b,0,ξ⟩) n c)
theorem p4(h:cvC E w (.d g x) u):rdD w (E.H g) x u:=jQ h
def CV(E:Env)(w:World):List C->Lae->Prop
 |[],[]=>True
 |c::cs,u::us=>cvC E w c u/\CV E w cs us
 |_,_=>False
def cvV(E:Env)(w:World):V->Value->Prop
 | .c x,u=>cvC E w x u
 | .agg cs,u=>∃arr,u= .agg arr/\CV E w cs arr.toList
def VV(E:Env)(w:World):List V->Lae->Prop
 |[],[]=>True
 |c::cs,u::us=>cvV E w c u/\VV E w cs us
 |_,_=>False
def cvT(E:Env)(w:World):T->Value->Prop
 | .v x,u=>cvV E w x u
 | .tup ts,u=>∃arr,u= .tuple arr/\VV E w ts arr.toList
 | .any,_=>True
theorem sv(h:cvT E w (.v (.c (.d g x))) u):rdD w (E.H g) x u:=jQ h
def cg(E:Env)(w:World)(o:Nat):Ob->Prop
 | .var ty cs=>∃b c arr,E.r o=ς (b,c)/\w.heap[b]?=ς (.cells arr ty (0,0))/\CV E w cs arr.toList/\¬E.F b
 | .row ty sz els g m=>∃b c arr,E.r o=ς (b,c)/\w.heap[b]?=ς (.cells arr ty (0,0))/\arr.size=c*sz/\els.length<=c/\c<=maxLen/\
  (∀e∈els,e.length=sz)/\rdLL w (E.H g) els b 0/\(m=ζ->¬E.F b)/\(m=η->E.F b/\(g=ζ->E.G b))/\qR E w els b g
 | .rown ty sz els g=>(E.n o/\els=[])\/(¬E.n o/\∃b c arr,E.r o=ς (b,c)/\w.heap[b]?=ς (.cells arr ty (0,0))/\arr.size=c*sz/\els.length<=c/\c<=maxLen/\
  (∀e∈els,e.length=sz)/\rdLL w (E.H g) els b 0/\¬E.F b/\qR E w els b g)
 | .abs l h=>(E.n o/\h.nl)\/(¬E.n o/\∃b c,E.r o=ς (b,c)/\h.S b c (E.T l) w/\¬E.F b)
structure Cx where
 w0:World
 W:Nat->Prop
 r0:Nat->Option (Nat×Nat):=λ_=>ξ
 F0:Nat->Prop:=λ_=>True
 Z:Nat->Prop:=λ_=>False
 gw:TabsIn w0/\∀b∈nT,¬W b
 G0:Nat->Prop:=λ_=>False
def rsv(o:Nat):Bool:=Zw 190 o&&nlt o 210
def rsp(o:Nat):Bool:=Zw 200 o&&nlt o 210
theorem AX{o:Nat}(h:rsp o=ζ):rsv o=true:=by
 simp only[rsp,rsv,nlt,hV,Nat.ble_eq] at h ⊢
 omega
theorem mn{o:Nat}(h:rsv o=η):rsp o=false:=by
 cases k:rsp o with
 |false=>rfl
 |true=>rw[AX k] at h;cases h
def eJ(w:World)(b:Nat):Prop:=∃arr ty fz,w.heap[b]?=ς (.cells arr ty fz)/\(fz=(0,0)\/arr.size<=fz.1)
theorem eJ.mk{arr:Array Value}{ty:TypeId}(h:w.heap[b]?=ς (.cells arr ty (0,0))):eJ w b:=⟨arr,ty,_,h,.inl rfl⟩
def Cx.In(cx:Cx)(b:Nat):Prop:=cx.w0.heap.size<=b\/(cx.W b/\cx.G0 b/\cx.F0 b/\¬cx.Z b)
structure wm(cx:Cx)(E:Env)(w:World):Prop where
 tb:∀l b,E.T l b->(b<w.heap.size/\cx.In b)/\¬E.F b/\(∀o c,E.r o≠ς (b,c))/\eJ w b
 tt:∀l l' b,E.T l b->E.T l' b->l=l'
 zc:∀b,cx.Z b->(b<cx.w0.heap.size/\b<w.heap.size/\cx.W b)/\¬E.F b/\(∀o c,E.r o≠ς (b,c))/\eJ w b
 zs:∀b,cx.Z b->oH cx.w0 w b
 ze:∀b,E.Z b->cx.Z b
theorem wm.zb{cx:Cx}(s:wm cx E w)(b:Nat)(h:E.Z b):(b<cx.w0.heap.size/\b<w.heap.size/\cx.W b)/\¬E.F b/\(∀o c,E.r o≠ς (b,c))/\eJ w b:=s.zc b (s.ze b h)
theorem Cx.In.ng{cx:Cx}(h:cx.In b):cx.w0.heap.size<=b\/cx.G0 b:=h.imp id λh=>h.2.1
theorem Cx.In.nf{cx:Cx}(h:cx.In b):cx.F0 b\/cx.w0.heap.size<=b:=h.elim .inr λh=>.inl h.2.2.1
theorem Cx.In.nw{cx:Cx}(h:cx.In b):cx.w0.heap.size<=b\/cx.W b:=h.imp id λh=>h.1
theorem wm.tz{cx:Cx}(s:wm cx E w)(h:E.T l b):¬cx.Z b:=λhz=>(s.tb l b h).1.2.elim (λk=>by have:=(s.zc b hz).1.1;omega) (λk=>k.2.2.2 hz)
structure cF(cx:Cx)(E:Env)(w:World):Prop where
 fb:∀b,E.F b->b<w.heap.size
 gf:∀b,E.G b->E.F b
 gn:∀b,E.G b->cx.w0.heap.size<=b\/cx.G0 b
 rb:∀o b c,E.r o=ς (b,c)->b<w.heap.size/\(cx.In b\/(cx.W b/\rsv o=ζ))
 inj:∀o o' b c c',E.r o=ς (b,c)->E.r o'=ς (b,c')->o=o'
 os:w.os=cx.w0.os
 tape:w.tape=cx.w0.tape
 output:w.output=cx.w0.output
 size:cx.w0.heap.size<=w.heap.size
 block:∀b,b<cx.w0.heap.size->¬cx.W b->w.heap[b]?=cx.w0.heap[b]?
 pin:∀o x,rsp o=ζ->E.r o=ς x->cx.r0 o=ς x
 ff:∀b,E.F b->cx.F0 b\/cx.w0.heap.size<=b
 gc:∀b,E.F b->cx.In b->eJ w b
 sf:wm cx E w
theorem U3{o:Obj}(h:w.heap[b]?=ς o):b<w.heap.size:=by
 grind
theorem cF.tabs{cx:Cx}(ok:cF cx E w):TabsIn w:=
 SW cx.w0 w (λb hb=>ok.block b (Gh _ cx.gw.1 b hb) (cx.gw.2 b hb)) cx.gw.1
theorem cF.nt{cx:Cx}(ok:cF cx E w)(hk:k∈nT)(h:E.T l k):False:=by
 have:=Gh _ cx.gw.1 k hk
 rcases(ok.sf.tb l k h).1.2.nw with m|m
 .omega
 exact cx.gw.2 _ hk m
theorem cF.rw{cx:Cx}(ok:cF cx E w){o c:Nat}(h:E.r o=ς (b,c)):cx.w0.heap.size<=b\/cx.W b:=(ok.rb o b c h).2.elim Cx.In.nw λh=>.inr h.1
theorem cF.ntab{cx:Cx}(ok:cF cx E w){o c:Nat}(h:E.r o=ς (b,c)):∀k∈nT,k≠b:=λk hk e=>by
 have:=Gh _ cx.gw.1 k hk
 subst e
 rcases ok.rw h with m|m
 .omega
 exact cx.gw.2 _ hk m
structure Ext(E:Env)(w:World)(E':Env)(w':World):Prop where
 r:∀o x,E.r o=ς x->E'.r o=ς x
 F:∀b,E.F b->E'.F b
 G:∀b,E.G b->E'.G b
 F':∀b,E'.F b->E.F b\/w.heap.size<=b
 heap:∀b,b<w.heap.size->w'.heap[b]?=w.heap[b]?
 T:∀l b,E.T l b->E'.T l b
 T':∀l b,E'.T l b->E.T l b\/(E.r l=ξ/\∃x,E'.r l=ς x)
 Z:E'.Z=E.Z
 n:E'.n=E.n
theorem Ext.refl(E:Env)(w:World):Ext E w E w:=⟨λ_ _ h=>h,λ_ h=>h,λ_ h=>h,λ_ h=>.inl h,λ_ _=>rfl,λ_ _ h=>h,λ_ _ h=>.inl h,rfl,rfl⟩
theorem eJ.of_eq(h:w'.heap[b]?=w.heap[b]?)(p:eJ w b):eJ w' b:=by
 obtain⟨arr,ty,fz,hp,hf⟩:=p
 exact⟨arr,ty,fz,h.trans hp,hf⟩
theorem wm.grow{cx:Cx}(s:wm cx E w)(hT:E'.T=E.T)(hZ:E'.Z=E.Z)(hF:∀b,E'.F b->E.F b\/w.heap.size<=b)(hr:∀o b c,E'.r o=ς (b,c)->(∃o' c',E.r o'=ς (b,c'))\/w.heap.size<=b)(hs:w.heap.size<=w'.heap.size)(hh:∀b,b<w.heap.size->w'.heap[b]?=w.heap[b]?):wm cx E' w':=by
 refine⟨λl b h=>?_,λl l' b h h'=>?_,λb h=>?_,λb h=>?_,λb h=>s.ze b (hZ▸h)⟩
 .rw[hT] at h
  obtain⟨⟨h1,h2⟩,h3,h4,h5⟩:=s.tb l b h
  refine⟨⟨by omega,h2⟩,λhf=>?_,λo c ho=>?_,h5.of_eq (hh b h1)⟩
  .grind
  grind
 .rw[hT] at h h';exact s.tt l l' b h h'
 .obtain⟨⟨h1,h2,h2'⟩,h3,h4,h5⟩:=s.zc b h
  refine⟨⟨h1,by omega,h2'⟩,λhf=>?_,λo c ho=>?_,h5.of_eq (hh b h2)⟩
  .grind
  grind
 exact(s.zs b h).trans (.of_eq (hh b (s.zc b h).1.2.1))
theorem cF.hb{cx:Cx}(ok:cF cx E w):∀{g:Gr} {b:Nat},E.H g b->b<w.heap.size
 | .b η,b,h=>ok.fb b h
 | .b ζ,b,h=>ok.fb b (ok.gf b h)
 | .s n,b,h| .t n,b,h=>(ok.sf.tb n b h).1.1
theorem Ext.H(x:Ext E w E' w'):∀{g:Gr} {b:Nat},E.H g b->E'.H g b
 | .b η,b,h=>x.F b h
 | .b ζ,b,h=>x.G b h
 | .s n,b,h| .t n,b,h=>x.T n b h
structure gb(E:Env)(w:World)(E':Env)(w':World):Prop where
 r:∀o x,E.r o=ς x->E'.r o=ς x
 H:∀(g:Bool) b,E.H g b->E'.H g b
 heap:∀(g:Bool) b,E.H g b->w'.heap[b]?=w.heap[b]?
 T:∀l b,E.T l b->E'.T l b/\w'.heap[b]?=w.heap[b]?
 Z:∀b,E.Z b->E'.Z b/\oH w w' b
 n:E'.n=E.n
theorem gb.HH(x:gb E w E' w'):∀(g:Gr) b,E.H g b->E'.H g b
 | .b g,b,h=>x.H g b h
 | .s n,b,h| .t n,b,h=>(x.T n b h).1
theorem gb.hp(x:gb E w E' w'):∀(g:Gr) b,E.H g b->w'.heap[b]?=w.heap[b]?
 | .b g,b,h=>x.heap g b h
 | .s n,b,h| .t n,b,h=>(x.T n b h).2
theorem Ep(x:gb E w E' w')(hb:w'.heap[b]?=w.heap[b]?):∀{g:Gr},qR E w els b g->qR E' w' els b g
 | .b _,_=>trivial
 | .s n,h| .t n,h=>h.keep hb (λk hk=>(x.T n k hk).2) λk hk=>(x.T n k hk).1
theorem gb.of_ext{cx:Cx}(ok:cF cx E w)(x:Ext E w E' w'):gb E w E' w':=
 ⟨x.r,λ_ _ h=>x.H h,λ_ b h=>x.heap b (ok.hb h),λl b h=>⟨x.T l b h,x.heap b (ok.sf.tb l b h).1.1⟩,λb h=>⟨by rw[x.Z];exact h,.of_eq (x.heap b (ok.sf.zb b h).1.2.1)⟩,x.n⟩
theorem QU(x:gb E w E' w'):∀{g:Gr} {d:D} {u:Value},gD E w g d u->gD E' w' g d u
 | .b g,d,u,h=>bP (x.hp (.b g)) (x.HH (.b g)) d u h
 | .s g,d,u,h=>bP (x.hp (.s g)) (x.HH (.s g)) d u h
 | .t l,y,u,h=>h.keep (λb hb=>(x.T l b hb).2) λb hb=>(x.T l b hb).1
theorem sY(x:gb E w E' w'):∀{c:C} {u:Value},cvC E w c u->cvC E' w' c u
 | .d g d,u,h=>QU x h
 | .w o n,u,⟨b,c,h,hu⟩=>⟨b,c,x.r _ _ h,hu⟩
 | .s o sz off len,u,⟨A,c,b,k,h,hu⟩=>⟨A,c,b,k,x.r _ _ h,hu⟩
 | .p o k,u,⟨b,c,h,hu⟩=>⟨b,c,x.r _ _ h,hu⟩
 | .e o sz i j,u,⟨b,c,h,hu⟩=>⟨b,c,x.r _ _ h,hu⟩
 | .q g y j,u,⟨b,k,hu,hb,h⟩=>⟨b,k,hu,x.HH g b hb,rdL_mono (x.hp g) (x.HH g) y b k hb h⟩
 | .fn f,u,h=>h
 | .nil,u,h=>h
 | .any,u,_=>trivial
 | .r l d,u,h=>bP (λb hb=>(x.T l b hb).2) (λb hb=>(x.T l b hb).1) d u h
 | .z d,u,h=>qy (λb hb=>(x.Z b hb).2) (λb hb=>(x.Z b hb).1) d u h
 | .zq y j,u,⟨b,k,hu,hb,h⟩=>⟨b,k,hu,(x.Z b hb).1,rsL_mono (λb hb=>(x.Z b hb).2) (λb hb=>(x.Z b hb).1) y b k hb h⟩
 | .wn o n,u,.inl ⟨h1,h2⟩=>.inl ⟨by rw[x.n];exact h1,h2⟩
 | .wn o n,u,.inr ⟨h1,b,c,h,hu⟩=>.inr ⟨by rw[x.n];exact h1,b,c,x.r _ _ h,hu⟩
theorem pN{E E':Env}{w w':World}(x:gb E w E' w'):∀{cs:List C} {us:Lae},CV E w cs us->CV E' w' cs us
 |[],[],_=>trivial
 |_::_,_::_,h=>⟨sY x h.1,pN x h.2⟩
 |[],_::_,h=>h.elim
 |_::_,[],h=>h.elim
theorem DE(x:gb E w E' w'){v:V}(h:cvV E w v u):cvV E' w' v u:=by
 cases v with
 |c c=>exact sY x h
 |agg cs=>obtain⟨arr,hu,h⟩:=h;exact⟨arr,hu,pN x h⟩
theorem GO{E E':Env}{w w':World}(x:gb E w E' w'):∀{cs:List V} {us:Lae},VV E w cs us->VV E' w' cs us
 |[],[],_=>trivial
 |_::_,_::_,h=>⟨DE x h.1,GO x h.2⟩
 |[],_::_,h=>h.elim
 |_::_,[],h=>h.elim
theorem iw(x:gb E w E' w'){t:T}(h:cvT E w t u):cvT E' w' t u:=by
 cases t with
 |v v=>exact DE x h
 |tup ts=>obtain⟨arr,hu,h⟩:=h;exact⟨arr,hu,GO x h⟩
 |any=>trivial
theorem fy(x:gb E w E' w'){o:Nat}{ob:Ob}(hb:∀b c,E.r o=ς (b,c)->w'.heap[b]?=w.heap[b]?)(hF:∀b c,E.r o=ς (b,c)->¬E.F b->¬E'.F b)(h:cg E w o ob):cg E' w' o ob:=by
 cases ob with
 |var ty cs=>
  obtain⟨b,c,arr,hr,hh,hc,hf⟩:=h
  exact⟨b,c,arr,x.r _ _ hr,(hb b c hr).trans hh,pN x hc,hF b c hr hf⟩
 |row ty sz els g m=>
  obtain⟨b,c,arr,hr,hh,h1,h2,h3,h4,h5,h6,h7,h8⟩:=h
  exact⟨b,c,arr,x.r _ _ hr,(hb b c hr).trans hh,h1,h2,h3,h4,bS (x.hp g) (x.HH g) (hb b c hr) _ _ h5,λhm=>hF b c hr (h6 hm),λhm=>⟨x.H η b (h7 hm).1,λhg=>x.H ζ b ((h7 hm).2 hg)⟩,Ep x (hb b c hr) h8⟩
 |rown ty sz els g=>
  rcases h with⟨h0,h1⟩|⟨h0,b,c,arr,hr,hh,h1,h2,h3,h4,h5,h6,h7⟩
  .exact .inl ⟨by rw[x.n];exact h0,h1⟩
  exact .inr ⟨by rw[x.n];exact h0,b,c,arr,x.r _ _ hr,(hb b c hr).trans hh,h1,h2,h3,h4,bS (x.hp g) (x.HH g) (hb b c hr) _ _ h5,hF b c hr h6,Ep x (hb b c hr) h7⟩
 |abs l y=>
  rcases h with⟨h0,h1⟩|⟨h0,b,c,hr,h1,h2⟩
  .exact .inl ⟨by rw[x.n];exact h0,h1⟩
  exact .inr ⟨by rw[x.n];exact h0,b,c,x.r _ _ hr,y.st b c _ _ w w' h1 (λk hk=>(x.T l k hk).1) (hb b c hr) (λk hk=>(x.T l k hk).2),hF b c hr h2⟩
theorem vW{cx:Cx}(ok:cF cx E w)(x:Ext E w E' w'){o:Nat}{ob:Ob}(h:cg E w o ob):cg E' w' o ob:=
 fy (.of_ext ok x) (λb c hr=>x.heap b (ok.rb _ _ _ hr).1) (λb c hr hf hf'=>by
  have:=(ok.rb _ _ _ hr).1
  rcases x.F' b hf' with h|h
  .exact hf h
  omega) h
def gt:Lab->Nat->T
 |[],_=>.any
 |(k,v)::r,n=>bif d0 k n then v else gt r n
def go:Laa->Nat->Option Ob
 |[],_=>ξ
 |(k,v)::r,n=>bif d0 k n then ς v else go r n
theorem gJ(h:k≠n):d0 k n=false:=by
 rcases hb:d0 k n with _|_
 .rfl
 simp_all
theorem cG(k:Nat)(v:T)(r:Lab):gt ((k,v)::r) k=v:=by simp[gt]
theorem b7(v:T)(r:Lab)(h:k≠n):gt ((k,v)::r) n=gt r n:=by simp[gt,gJ h]
theorem bM(k:Nat)(v:Ob)(r:Laa):go ((k,v)::r) k=ς v:=by simp[go]
theorem a9(v:Ob)(r:Laa)(h:k≠n):go ((k,v)::r) n=go r n:=by simp[go,gJ h]
structure St where
 sl:Lab
 ob:Laa
 nx:Nat
variable{st s:Go.AM.St}
structure Rel(N:Nat)(cx:Cx)(E:Env)(st:St)(a:Act)(w:World):Prop where
 ok:cF cx E w
 dom:∀o x,E.r o=ς x->o<st.nx
 obs:∀o ob,go st.ob o=ς ob->cg E w o ob
 sl:∀k,cvT E w (gt st.sl k) (a.tmps.getD k undef)
 dfr:a.defers=[]
 size:a.tmps.size=N
 td:∀l b,E.T l b->l<st.nx
def w7:Value->C
 | .int k n=>.d η (.i k n)
 | .bool b=>.d η (.b b)
 | .string s=>.d η (.str s)
 | .slice a n c=>bif a.isNone&&d0 n 0&&d0 c 0 then .nil else .any
 |_=>.any
theorem vC(E:Env)(w:World)(u:Value):cvC E w (w7 u) u:=by
 cases u with
 |slice a n c=>
  simp only[w7]
  cases h:a.isNone&&d0 n 0&&d0 c 0 with
  |false=>exact θ
  |true=>
   simp only[hV,Option.isNone_iff_eq_none] at h
   obtain⟨⟨rfl,h1⟩,h2⟩:=h
   have e1:=Zo h1
   have e2:=Zo h2
   subst e1;subst e2
   exact rfl
 |_=>simp only[w7,cvC,gD,rdD]
def opT(sl:Lab):Operand->T
 | .tmp k=>gt sl k
 | .const (.int k n)=>.v (.c (.d η (.i k n)))
 | .const (.bool b)=>.v (.c (.d η (.b b)))
 | .const (.string s)=>.v (.c (.d η (.str s)))
 | .const (.agg cs)=>.v (.agg (cs.toList.map w7))
 | .const v=>.v (.c (w7 v))
 | .func f=>.v (.c (.fn f))
 | .global _=>.any
theorem sR(E:Env)(w:World):∀us:Lae,CV E w (us.map w7) us
 |[]=>trivial
 |u::us=>⟨vC E w u,sR E w us⟩
theorem Rel.op{cx:Cx}(h:Rel N cx E st a w)(x:Operand):cvT E w (opT st.sl x) (a.eval x):=by
 cases x with
 |tmp k=>exact h.sl k
 |const v=>
  cases v<;>simp only[opT,Act.eval,cvT,cvV]<;>first|exact vC E w _|exact⟨_,rfl,sR E w _⟩|(simp only[cvC,gD,rdD])
 |func f=>rfl
 |global g=>simp[opT,cvT]
def AWN(P:Program)(o:Oper)(needs:List (Operand×T))(nob:Laa)(out:T)(nw:Laa):Prop:=
 ∀(cx:Cx) (E:Env) (a:Act) (w:World),cF cx E w->(∀x t,(x,t)∈needs->cvT E w t (a.eval x))->(∀l ob,(l,ob)∈nob->cg E w l ob)->
  (∀l ob,(l,ob)∈nw->E.r l=ξ/\rsv l=η)->
  o.wp P a w (λa' w'=>∃v E',a'=a.put o.dst v/\cF cx E' w'/\Ext E w E' w'/\cvT E' w' out v/\(∀l ob,(l,ob)∈nw->cg E' w' l ob)/\
   (∀l x,E'.r l=ς x->E.r l=ς x\/∃ob,(l,ob)∈nw)) (λ_ _ _=>False)
theorem cf{o:Oper}{needs:List (Operand×T)}(h:∀(E:Env) (a:Act) (w:World),(∀x t,(x,t)∈needs->cvT E w t (a.eval x))->(∀l ob,(l,ob)∈nob->cg E w l ob)->
 ∃v,(execOp a.eval o).run P w= .ok (.value v) w/\cvT E w out v):AWN P o needs nob out []:=by
 intro cx E a w ok hn hb _
 obtain⟨v,hr,hv⟩:=h E a w hn hb
 unfold Oper.wp
 rw[hr]
 exact⟨v,E,rfl,ok,Ext.refl E w,hv,(λ_ _ h=>by simp at h),λ_ _ h=>.inl h⟩
def AWO(P:Program)(N:Nat)(o:Oper)(st st':St):Prop:=
 ∀(cx:Cx) (E:Env) (a:Act) (w:World),Rel N cx E st a w->o.wp P a w (λa' w'=>∃E',Rel N cx E' st' a' w') (λ_ _ _=>False)
def Lk(sl:Lab):List (Operand×T)->Prop
 |[]=>True
 |(x,t)::r=>opT sl x=t/\Lk sl r
def Lo(ob:Laa):Laa->Prop
 |[]=>True
 |(l,x)::r=>go ob l=ς x/\Lo ob r
def Nw(nx:Nat):Laa->Nat->Prop
 |[],n=>n=nx
 |(l,_)::r,n=>(l=nx/\rsv l=η)/\Nw (nx+1) r n
theorem Lk.mem:∀{l:List (Operand×T)},Lk sl l->∀x t,(x,t)∈l->opT sl x=t
 |(y,s)::r,h,x,t,hm=>by
  rcases Zp.1 hm with e|e
  .cases e;exact h.1
  exact Lk.mem h.2 x t e
theorem Lo.mem{ob:Laa}:∀{l:Laa},Lo ob l->∀x t,(x,t)∈l->go ob x=ς t
 |(y,s)::r,h,x,t,hm=>by
  rcases Zp.1 hm with e|e
  .cases e;exact h.1
  exact Lo.mem h.2 x t e
theorem Nw.mem:∀{l:Laa} {nx n:Nat},Nw nx l n->nx<=n/\∀x t,(x,t)∈l->nx<=x/\x<n/\rsv x=η
 |[],nx,n,h=>⟨by rw[Nw] at h;omega,λ_ _ h=>by simp at h⟩
 |(y,s)::r,nx,n,h=>by
  rw[Nw] at h
  obtain⟨h1,h2⟩:=Nw.mem h.2
  grind
theorem zE{nw ob:Laa}{o:Nat}{x:Ob}(h:go (nw++ob) o=ς x):(o,x)∈nw\/go ob o=ς x:=by
 induction nw with
 |nil=>exact .inr h
 |cons p r ih=>
  obtain⟨k,v⟩:=p
  by_cases hk:k=o
  .subst hk
   rw[ZN,bM] at h
   simp_all
  rw[ZN,a9 v _ hk] at h
  grind
theorem eK{d:Tmp}{v:Value}(h:d<a.tmps.size)(k:Nat):(a.put (ς d) v).tmps.getD k undef=if d=k then v else a.tmps.getD k undef:=by
 by_cases hk:d=k
 .subst hk;simp[Act.put,h]
 simp[Act.put,hk,Array.getElem?_setIfInBounds_ne hk]
theorem JE{o:Oper}{needs:List (Operand×T)}{nw:Laa}{d:Tmp}(h:AWN P o needs nob out nw)(hd:o.dst=ς d)(hN:d<N)(hn:Lk st.sl needs)(hb:Lo st.ob nob)(hw:Nw st.nx nw n):
 AWO P N o st ⟨(d,out)::st.sl,nw++st.ob,n⟩:=by
 intro cx E a w hR
 obtain⟨hx1,hx2⟩:=Nw.mem hw
 refine Oper.wp_mono ?_ (h cx E a w hR.ok (λx t hm=>by have:=hR.op x;rwa [Lk.mem hn x t hm] at this) (λl ob hm=>hR.obs l ob (Lo.mem hb l ob hm))
  (λl ob hm=>by
   refine⟨?_,(hx2 l ob hm).2.2⟩
   rcases hr:E.r l with _|x
   .rfl
   have:=hR.dom l x hr;grind))
 rintro a' w' ⟨v,E',rfl,ok',ext,hv,hob,hdom⟩
 refine⟨E',ok',λl x hl=>?_,λl ob hl=>?_,λk=>?_,?_,?_,?_⟩
 .rcases hdom l x hl with h|⟨ob,h⟩
  .have:=hR.dom l x h;grind
  grind
 .rcases zE hl with h|h
  .simp_all
  exact vW hR.ok ext (hR.obs l ob h)
 .rw[hd,eK (by rw[hR.size];exact hN)]
  by_cases hk:d=k
  .subst hk;rw[cG,if_pos rfl];exact hv
  rw[b7 _ _ hk,if_neg hk];exact iw (.of_ext hR.ok ext) (hR.sl k)
 .rw[hd];exact hR.dfr
 .rw[hd];simpa [Act.put] using hR.size
 intro l b h
 rcases ext.T' l b h with h|⟨h0,x,h⟩
 .exact Zy (hR.td l b h) hx1
 rcases hdom l x h with h|⟨ob,h⟩
 .rw[h0] at h;cases h
 exact(hx2 l ob h).2.1
theorem qQ{o:Oper}{K:Act->World->Prop}{Q Q':Exit->Act->World->Prop}(hQ:∀e a w,Q e a w->Q' e a w)(hh:o.wp P a w K Q):o.wp P a w K Q':=by
 unfold Oper.wp at*
 generalize (execOp a.eval o).run P w=r at*
 cases r with
 |ok n w'=>
  cases n<;>simp only[Oper.upon] at hh ⊢<;>
   first
    |exact hh
    |exact Calls.mono hh (λe w'' he=>by
     cases e<;>first|exact he|exact hQ _ _ _ he|(obtain⟨a0,w0,h0⟩:=he;exact⟨a0,w0,hQ _ _ _ h0⟩))
 |halt x w'=>cases x<;>simp only[Oper.upon] at hh ⊢<;>first|exact hh|exact hQ _ _ _ hh
def B5(N:Nat)(cx:Cx)(AQ:Exit->St->Prop):Exit->Act->World->Prop:=λe a w=>∃E st,Rel N cx E st a w/\AQ e st
def onN(K:St->Prop):Exit->St->Prop
 | .normal,s=>K s
 |_,_=>False
def rW(K:St->Prop)(AQ:Exit->St->Prop):Exit->St->Prop
 | .normal,s=>K s
 |e,s=>AQ e s
def AWR(P:Program)(N:Nat)(ops:Array Oper)(l:List Oper)(st:St)(K:St->Prop):Prop:=
 ∀(cx:Cx) (E:Env) (a:Act) (w:World),Rel N cx E st a w->wpList P ops (B5 N cx (onN K)) l a w
def AWC(P:Program)(N:Nat)(c:Code)(st:St)(AQ:Exit->St->Prop):Prop:=
 ∀(cx:Cx) (E:Env) (a:Act) (w:World),Rel N cx E st a w->c.wp P (B5 N cx AQ) a w
section
variable{P:Program}{N:Nat}{ops:Array Oper}{l:List Oper}{o:Oper}{st st':St}{K:St->Prop}{AQ:Exit->St->Prop}
theorem E8(h:K st):AWR P N ops [] st K:=λcx E a w hR=>wpList_nil ⟨E,st,hR,h⟩
theorem sb{Q:Exit->Act->World->Prop} :wpList P ops Q (o::l) a w=if Region.wanted o (yielded ops a.tmps) then o.wp P a w (wpList P ops Q l) Q\/(o.asks P a w/\LetsOut Q) else wpList P ops Q l (a.put o.dst undef) w:=rfl
theorem iu(hg:o.guard=ξ)(h:AWO P N o st st')(h':AWR P N ops l st' K):AWR P N ops (o::l) st K:=by
 intro cx E a w hR
 rw[sb,if_pos (by simp[Region.wanted,hg])]
 exact .inl (qQ (λ_ _ _ h=>h.elim) (Oper.wp_mono (λa' w' ⟨E',hR'⟩=>h' cx E' a' w' hR') (h cx E a w hR)))
theorem C9{cx:Cx}{b:Bool}(hR:Rel N cx E st a w)(hj:(ops[j]?).bind (·.dst)=ς dj)(hdj:dj<N)(hb:gt st.sl dj=tB b):
 yielded ops a.tmps j=ς b:=by
 have:=hR.sl dj
 rw[hb] at this
 simp only[cvT,cvV,cvC,gD,rdD] at this
 have hs:dj<a.tmps.size:=by rw[hR.size];exact hdj
 have h2:a.tmps[dj]?=ς (.bool b):=by
  rw[ZO hs]
  simpa [Z4,hs] using this
 unfold yielded
 simp_all
theorem jq{b:Bool}(hg:o.guard=ς (j,b))(hj:(ops[j]?).bind (·.dst)=ς dj)(hdj:dj<N)(hb:gt st.sl dj=tB b)(h:AWO P N o st st')(h':AWR P N ops l st' K):
 AWR P N ops (o::l) st K:=by
 intro cx E a w hR
 rw[sb,if_pos (by simp[Region.wanted,hg,C9 hR hj hdj hb])]
 exact .inl (qQ (λ_ _ _ h=>h.elim) (Oper.wp_mono (λa' w' ⟨E',hR'⟩=>h' cx E' a' w' hR') (h cx E a w hR)))
theorem Rel.putAny{cx:Cx}(hR:Rel N cx E st a w){d:Tmp}(hd:d<N)(v:Value):Rel N cx E ⟨(d,.any)::st.sl,st.ob,st.nx⟩ (a.put (ς d) v) w:=by
 refine⟨hR.ok,hR.dom,hR.obs,λk=>?_,hR.dfr,by simpa [Act.put] using hR.size,hR.td⟩
 rw[eK (by rw[hR.size];exact hd)]
 by_cases hk:d=k
 .subst hk;rw[cG];trivial
 rw[b7 _ _ hk,if_neg hk];exact hR.sl k
def noG(b:Bool):T->Bool
 | .v (.c (.d _ (.b c)))=>c==!b
 | .tup []=>ζ
 |_=>η
theorem Da{N:Nat}{ops:Array Oper}{tmps:Array Value}{b:Bool}{t:T}(hv:cvT E w t (tmps.getD dj undef))(hs:dj<tmps.size)(hj:(ops[j]?).bind (·.dst)=ς dj)(hb:noG b t=ζ):
 yielded ops tmps j≠ς b:=by
 have h2:tmps[dj]?=ς (tmps.getD dj undef):=by rw[ZO hs];simp[Z4,hs]
 unfold yielded
 rw[hj]
 simp only[Option.bind_some,h2]
 unfold noG at hb
 split at hb
 .rename_i g c
  have hv:gD E w g (.b c) (tmps.getD dj undef):=hv
  have hv:=jQ hv
  simp only[rdD] at hv
  simp_all
 .obtain⟨arr,h1,h3⟩:=hv
  rw[h1];simp
 cases hb
theorem Rel.putUnd{cx:Cx}(hR:Rel N cx E st a w){d:Tmp}(hd:d<N):Rel N cx E ⟨(d,.tup [])::st.sl,st.ob,st.nx⟩ (a.put (ς d) undef) w:=by
 refine⟨hR.ok,hR.dom,hR.obs,λk=>?_,hR.dfr,by simpa [Act.put] using hR.size,hR.td⟩
 rw[eK (by rw[hR.size];exact hd)]
 by_cases hk:d=k
 .subst hk;rw[cG,if_pos rfl];exact⟨#[],rfl,θ⟩
 rw[b7 _ _ hk,if_neg hk];exact hR.sl k
theorem Bj{d:Tmp}{b:Bool}(hg:o.guard=ς (j,b))(hj:(ops[j]?).bind (·.dst)=ς dj)(hdj:dj<N)(hb:noG b (gt st.sl dj)=ζ)(hd:o.dst=ς d)(hN:d<N)(h':AWR P N ops l ⟨(d,.tup [])::st.sl,st.ob,st.nx⟩ K):AWR P N ops (o::l) st K:=by
 intro cx E a w hR
 rw[sb,if_neg (by simp[Region.wanted,hg,Da (N:=N) (hR.sl dj) (by rw[hR.size];exact hdj) hj hb]),hd]
 exact h' cx E _ w (hR.putUnd hN)
theorem Rel.decide{cx:Cx}(hR:Rel N cx E st a w){d:Tmp}{b c:Bool}(hb:gt st.sl d=tB b)(h:b=c):Rel N cx E ⟨(d,tB c)::st.sl,st.ob,st.nx⟩ a w:=by
 refine⟨hR.ok,hR.dom,hR.obs,λk=>?_,hR.dfr,hR.size,hR.td⟩
 by_cases hk:d=k
 .subst hk;rw[cG,<-h,<-hb];exact hR.sl d
 rw[b7 _ _ hk];exact hR.sl k
theorem NC{d:Tmp}{b:Bool}(hb:gt st.sl d=tB b)(h1:b=ζ->AWR P N ops l ⟨(d,tB ζ)::st.sl,st.ob,st.nx⟩ K)(h0:b=η->AWR P N ops l ⟨(d,tB η)::st.sl,st.ob,st.nx⟩ K):
 AWR P N ops l st K:=by
 intro cx E a w hR
 cases hc:b with
 |true=>exact h1 hc cx E a w (hR.decide hb hc)
 |false=>exact h0 hc cx E a w (hR.decide hb hc)
theorem P6{K':St->Prop}(h:∀s,K s->K' s)(hh:AWR P N ops l st K):AWR P N ops l st K':=by
 intro cx E a w hR
 have:=hh cx E a w hR
 revert this
 have key:∀(l:List Oper) (a:Act) (w:World),wpList P ops (B5 N cx (onN K)) l a w->wpList P ops (B5 N cx (onN K')) l a w:=by
  intro l
  have hQ:∀e a w,B5 N cx (onN K) e a w->B5 N cx (onN K') e a w:=by
   rintro e a w ⟨E,s,hR,hq⟩
   refine⟨E,s,hR,?_⟩
   cases e<;>simp only[onN] at hq ⊢
   exact h s hq
  induction l with
  |nil=>exact λa w h=>hQ _ _ _ h
  |cons o l ih=>
   intro a w hw
   rw[sb] at hw ⊢
   split
   .rename_i hwt
    rw[if_pos hwt] at hw
    rcases hw with hw|⟨h1,a0,w0,h2⟩
    .exact .inl (qQ hQ (Oper.wp_mono ih hw))
    exact .inr ⟨h1,a0,w0,hQ _ _ _ h2⟩
   simp_all
 simp_all
theorem xM{c:Code}{AQ':Exit->St->Prop}(h:AWC P N c st AQ)(hq:∀e s,AQ e s->AQ' e s):AWC P N c st AQ':=
 λcx E a w hR=>wp_mono (h cx E a w hR) λe a w ⟨E,s,hR,q⟩=>⟨E,s,hR,hq e s q⟩
theorem Bi(h:AQ .normal st):AWC P N .skip st AQ:=λcx E a w hR=>wp_skip ⟨E,st,hR,h⟩
theorem E7(h:AQ .ret st):AWC P N .ret st AQ:=λcx E a w hR=>wp_ret ⟨E,st,hR,h⟩
theorem Bh(h:AQ (.exit id) st):AWC P N (.exit id) st AQ:=λcx E a w hR=>wp_exit ⟨E,st,hR,h⟩
theorem AI{x:Code}(h:AWC P N x st (rW (λs=>AWC P N y s AQ) AQ)):AWC P N (x.seq y) st AQ:=λcx E a w hR=>
 wp_seq (wp_mono (h cx E a w hR) λe a w ⟨E,s,hR,q⟩=>by
  cases e<;>first|exact q cx E a w hR|exact⟨E,s,hR,q⟩)
theorem tJ{l:List Oper}(h:AWR P N l.toArray l st (λs=>AQ .normal s)):AWC P N (.region id l.toArray η) st AQ:=λcx E a w hR=>
 wp_mono (wp_region_lit (h cx E a w hR)) λe a w ⟨E,s,hR,q⟩=>⟨E,s,hR,by cases e<;>first|exact q|exact q.elim⟩
theorem pZ{l:List Oper}(h:AWR P N l.toArray l st (λs=>AWC P N y s AQ)):AWC P N ((Code.region id l.toArray η).seq y) st AQ:=
 AI (tJ h)
theorem zv{cx:Cx}{c:Operand}{b:Bool}(hR:Rel N cx E st a w)(hb:opT st.sl c=tB b):a.eval c= .bool b:=by
 have:=hR.op c
 rw[hb] at this
 simpa [rdD] using sv this
theorem sq{c:Operand}{x:Code}(hb:opT st.sl c=tB ζ)(h:AWC P N x st AQ):AWC P N (.cond c x y) st AQ:=λcx E a w hR=>wp_cond_true (zv hR hb) (h cx E a w hR)
theorem pU{c:Operand}{x:Code}(hb:opT st.sl c=tB η)(h:AWC P N y st AQ):AWC P N (.cond c x y) st AQ:=λcx E a w hR=>wp_cond_false (zv hR hb) (h cx E a w hR)
theorem nZ{c:Operand}{x:Code}{b:Bool}(hb:opT st.sl c=tB b)(h1:b=ζ->AWC P N x st AQ)(h0:b=η->AWC P N y st AQ):AWC P N (.cond c x y) st AQ:=λcx E a w hR=>
 wp_cond_split (zv hR hb) (λh=>h1 h cx E a w hR) (λh=>h0 h cx E a w hR)
def iv(id:Nat)(AQ:Exit->St->Prop):Exit->St->Prop
 | .exit n,s=>bif d0 n id then AQ .normal s else AQ (.exit n) s
 |e,s=>AQ e s
theorem zn{c:Code}(h:AWC P N c st (iv id AQ)):AWC P N (.block id c) st AQ:=λcx E a w hR=>
 wp_block (wp_mono (h cx E a w hR) λe a w ⟨E,s,hR,q⟩=>by
  cases e with
  |exit n=>
   simp only[Exit.inBlock]
   by_cases hn:n=id
   .subst hn;rw[if_pos rfl];exact⟨E,s,hR,by simpa [iv] using q⟩
   rw[if_neg hn];exact⟨E,s,hR,by simpa [iv,gJ hn] using q⟩
  |_=>exact⟨E,s,hR,q⟩)
def cB(N:Nat)(st st':St):Prop:=∀(cx:Cx) (E:Env) (a:Act) (w:World),Rel N cx E st a w->∃E',Rel N cx E' st' a w
theorem i8{c:Code}(hw:cB N st st')(h:AWC P N c st' AQ):AWC P N c st AQ:=λcx E a w hR=>let ⟨E',hR'⟩:=hw cx E a w hR;h cx E' a w hR'
theorem ea(hw:cB N st st')(h:AWR P N ops l st' K):AWR P N ops l st K:=λcx E a w hR=>let ⟨E',hR'⟩:=hw cx E a w hR;h cx E' a w hR'
def C.lt(n:Nat):C->Bool
 | .w o _| .s o _ _ _| .p o _| .e o _ _ _| .r o _| .wn o _| .d (.s o) _| .d (.t o) _| .q (.s o) _ _| .q (.t o) _ _=>nlt o n
 |_=>ζ
def V.lt(n:Nat):V->Bool
 | .c x=>x.lt n
 | .agg cs=>cs.all (C.lt n)
def T.lt(n:Nat):T->Bool
 | .v x=>x.lt n
 | .tup ts=>ts.all (V.lt n)
 | .any=>ζ
def Ob.lt(n:Nat):Ob->Bool
 | .var _ cs=>cs.all (C.lt n)
 | .row _ _ _ (.s l) _| .row _ _ _ (.t l) _| .rown _ _ _ (.s l)| .rown _ _ _ (.t l)=>nlt l n
 | .row .. | .rown .. =>ζ
 | .abs l _=>nlt l n
theorem bO{a:Nat}(h:nlt a b=ζ):a<b:=ZK h
def LeS(sl:Lab)(n:Nat):Lab->Prop
 |[]=>True
 |(k,t)::r=>gt sl k=t/\t.lt n=ζ/\LeS sl n r
def LeO(ob:Laa)(n:Nat):Laa->Prop
 |[]=>True
 |(l,x)::r=>go ob l=ς x/\(nlt l n=ζ/\x.lt n=ζ)/\LeO ob n r
theorem LeS.gt(h:LeS sl n sl')(k:Nat):(AM.gt sl' k= .any\/AM.gt sl' k=AM.gt sl k)/\(AM.gt sl' k).lt n=true:=by
 induction sl' with
 |nil=>exact⟨.inl rfl,rfl⟩
 |cons p r ih=>
  obtain⟨j,t⟩:=p
  by_cases hj:j=k
  .subst hj;rw[cG];exact⟨.inr h.1.symm,h.2.1⟩
  rw[b7 _ _ hj];exact ih h.2.2
theorem LeO.go{ob:Laa}(h:LeO ob n ob'){l:Nat}{x:Ob}(hl:AM.go ob' l=ς x):AM.go ob l=ς x/\l<n/\x.lt n=true:=by
 induction ob' with
 |nil=>cases hl
 |cons p r ih=>
  obtain⟨j,t⟩:=p
  by_cases hj:j=l
  .subst hj;rw[bM] at hl;cases hl;exact⟨h.1,bO h.2.1.1,h.2.1.2⟩
  rw[a9 _ _ hj] at hl;exact ih h.2.2 hl
def Env.below(E:Env)(n:Nat):Env:={E with r:=λo=>if o<n then E.r o else ξ,T:=λl b=>l<n/\E.T l b}
theorem Ly{l:Nat}(h:l<n):(E.below n).T l=E.T l:=funext λb=>propext ⟨λk=>k.2,λk=>⟨h,k⟩⟩
theorem Qg:∀{c:C} {u:Value},c.lt n=ζ->cvC E w c u->cvC (E.below n) w c u
 | .d (.b g) d,u,_,h=>h
 | .d (.s l) d,u,hl,h=>bP (F':=(E.below n).T l) (λ_ _=>rfl) (λb hb=>⟨bO hl,hb⟩) d u h
 | .d (.t l) d,u,hl,h=>h.keep (λ_ _=>rfl) λb hb=>⟨bO hl,hb⟩
 | .w o m,u,hl,⟨b,c,h,hu⟩=>⟨b,c,by rw[Env.below];simp only;rw[if_pos (bO hl)];exact h,hu⟩
 | .s o sz off len,u,hl,⟨A,c,b,k,h,hu⟩=>⟨A,c,b,k,by rw[Env.below];simp only;rw[if_pos (bO hl)];exact h,hu⟩
 | .p o k,u,hl,⟨b,c,h,hu⟩=>⟨b,c,by rw[Env.below];simp only;rw[if_pos (bO hl)];exact h,hu⟩
 | .e o sz i j,u,hl,⟨b,c,h,hu⟩=>⟨b,c,by rw[Env.below];simp only;rw[if_pos (bO hl)];exact h,hu⟩
 | .q (.b g) y j,u,_,h=>h
 | .q (.s l) y j,u,hl,h| .q (.t l) y j,u,hl,h=>by simpa only[cvC,Env.H,Ly (bO hl)] using h
 | .fn f,u,_,h=>h
 | .nil,u,_,h=>h
 | .any,u,_,_=>trivial
 | .r l d,u,hl,h=>bP (F':=(E.below n).T l) (λ_ _=>rfl) (λb hb=>⟨bO hl,hb⟩) d u h
 | .z d,u,_,h=>h
 | .zq y j,u,_,h=>h
 | .wn o m,u,_,.inl h=>.inl h
 | .wn o m,u,hl,.inr ⟨h0,b,c,h,hu⟩=>.inr ⟨h0,b,c,by rw[Env.below];simp only;rw[if_pos (bO hl)];exact h,hu⟩
theorem PC{E:Env}{w:World}{n:Nat}:∀{cs:List C} {us:Lae},cs.all (C.lt n)=ζ->CV E w cs us->CV (E.below n) w cs us
 |[],[],_,_=>trivial
 |c::cs,u::us,hl,h=>by
  simp only[ZR,hV] at hl
  exact⟨Qg hl.1 h.1,PC hl.2 h.2⟩
 |[],_::_,_,h=>h.elim
 |_::_,[],_,h=>h.elim
theorem Qj{v:V}(hl:v.lt n=ζ)(h:cvV E w v u):cvV (E.below n) w v u:=by
 cases v with
 |c c=>exact Qg hl h
 |agg cs=>obtain⟨arr,hu,h⟩:=h;exact⟨arr,hu,PC hl h⟩
theorem Ws{E:Env}{w:World}{n:Nat}:∀{cs:List V} {us:Lae},cs.all (V.lt n)=ζ->VV E w cs us->VV (E.below n) w cs us
 |[],[],_,_=>trivial
 |c::cs,u::us,hl,h=>by
  simp only[ZR,hV] at hl
  exact⟨Qj hl.1 h.1,Ws hl.2 h.2⟩
 |[],_::_,_,h=>h.elim
 |_::_,[],_,h=>h.elim
theorem Xn{t:T}(hl:t.lt n=ζ)(h:cvT E w t u):cvT (E.below n) w t u:=by
 cases t with
 |v v=>exact Qj hl h
 |tup ts=>obtain⟨arr,hu,h⟩:=h;exact⟨arr,hu,Ws hl h⟩
 |any=>trivial
def Gr.lt(n:Nat):Gr->Prop
 | .b _=>True
 | .s l| .t l=>l<n
theorem Lx:∀{g:Gr},g.lt n->(E.below n).H g=E.H g
 | .b _,_=>rfl
 | .s l,h| .t l,h=>Ly h
theorem Lw:∀{g:Gr},g.lt n->qR E w els b g->qR (E.below n) w els b g
 | .b _,_,_=>trivial
 | .s l,h,k| .t l,h,k=>k.keep rfl (λ_ _=>rfl) λb hb=>⟨h,hb⟩
theorem Sr{o:Nat}{ob:Ob}(ho:o<n)(hl:ob.lt n=ζ)(h:cg E w o ob):cg (E.below n) w o ob:=by
 cases ob with
 |var ty cs=>
  obtain⟨b,c,arr,hr,hh,hc,hF⟩:=h
  exact⟨b,c,arr,by simp only[Env.below];simp_all,hh,PC hl hc,hF⟩
 |row ty sz els g m=>
  obtain⟨b,c,arr,hr,h1,h2,h3,h4,h5,h6,h7,h8,h9⟩:=h
  have hg:g.lt n:=by
   cases g with
   |b x=>trivial
   |s l=>exact bO hl
   |t l=>exact bO hl
  exact⟨b,c,arr,by simp only[Env.below];simp_all,h1,h2,h3,h4,h5,by rw[Lx hg];exact h6,h7,h8,Lw hg h9⟩
 |rown ty sz els g=>
  rcases h with h|⟨h0,b,c,arr,hr,h⟩
  .exact .inl h
  obtain⟨h1,h2,h3,h4,h5,h6,h7,h9⟩:=h
  have hg:g.lt n:=by
   cases g with
   |b x=>trivial
   |s l=>exact bO hl
   |t l=>exact bO hl
  exact .inr ⟨h0,b,c,arr,by simp only[Env.below];simp_all,h1,h2,h3,h4,h5,by rw[Lx hg];exact h6,h7,Lw hg h9⟩
 |abs l y=>
  rcases h with h|⟨h0,b,c,hr,h1,h2⟩
  .exact .inl h
  exact .inr ⟨h0,b,c,by simp only[Env.below];simp_all,y.st b c _ _ w w h1 (λk hk=>⟨bO hl,hk⟩) rfl (λ_ _=>rfl),h2⟩
theorem cF.below{cx:Cx}(ok:cF cx E w)(n:Nat):cF cx (E.below n) w:=by
 have hr:∀o x,(E.below n).r o=ς x->E.r o=ς x:=λo x h=>by
  simp only[Env.below] at h;simp_all
 refine⟨ok.fb,ok.gf,ok.gn,λo b c h=>ok.rb o b c (hr o _ h),λo o' b c c' h h'=>ok.inj o o' b c c' (hr _ _ h) (hr _ _ h'),ok.os,ok.tape,ok.output,ok.size,ok.block,λo x hv h=>ok.pin o x hv (hr o _ h),ok.ff,ok.gc,⟨λl b h=>?_,λl l' b h h'=>ok.sf.tt l l' b h.2 h'.2,λb h=>?_,ok.sf.zs,ok.sf.ze⟩⟩
 .obtain⟨h1,h2,h3,h4⟩:=ok.sf.tb l b h.2
  exact⟨h1,h2,λo c ho=>h3 o c (hr o _ ho),h4⟩
 obtain⟨h1,h2,h3,h4⟩:=ok.sf.zc b h
 exact⟨h1,h2,λo c ho=>h3 o c (hr o _ ho),h4⟩
theorem dZ(h1:LeS st.sl st'.nx st'.sl)(h2:LeO st.ob st'.nx st'.ob):cB N st st':=by
 intro cx E a w hR
 refine⟨E.below st'.nx,hR.ok.below _,λo x h=>?_,λo ob h=>?_,λk=>?_,hR.dfr,hR.size,λl b h=>h.1⟩
 .simp only[Env.below] at h;simp_all
 .obtain⟨h1,h2,h3⟩:=h2.go h
  exact Sr h2 h3 (hR.obs o ob h1)
 obtain⟨h1,h2⟩:=h1.gt k
 rcases h1 with h1|h1
 .rw[h1];trivial
 rw[h1] at h2 ⊢;exact Xn h2 (hR.sl k)
theorem P5{c:Code}(I:σ->Prop)(S:σ->St)(μ:σ->Nat)(x0:σ)(i0:I x0)(h0:cB N st (S x0))(round:∀x,I x->AWC P N c (S x) (rW (λs=>∃x',I x'/\cB N s (S x')/\μ x'<μ x) AQ)):AWC P N (.loop c) st AQ:=by
 intro cx E a w hR b k cs
 have key:∀n x,μ x=n->I x->∀E a w,Rel N cx E (S x) a w->
  ∃e a' w',B5 N cx AQ e a' w'/\Arrives P (lone (b.at a (.code c:: .inLoop c::k)) cs w) b k cs e a' w':=by
  intro n
  induction n using Z6 with
  |_ n ih=>
   intro x hn hI E a w hR
   obtain⟨e,a₁,w₁,⟨E₁,s₁,hR₁,hq⟩,harr⟩:=round x hI cx E a w hR b (.inLoop c::k) cs
   cases e with
   |normal=>
    obtain⟨x',hI',hW,hlt⟩:=hq
    obtain⟨E',hR'⟩:=hW cx E₁ a₁ w₁ hR₁
    obtain⟨e₂,a₂,w₂,hq₂,harr₂⟩:=ih (μ x') (hn▸hlt) x' rfl hI' E' a₁ w₁ hR'
    exact⟨e₂,a₂,w₂,hq₂,.of_steps (Steps.trans harr (.one step_inLoop)) harr₂⟩
   |exit id=>exact⟨_,a₁,w₁,⟨E₁,s₁,hR₁,hq⟩,.pass (x:=.inLoop c) rfl (λ_ _=>.inl (by simp)) harr⟩
   |goto l=>exact⟨_,a₁,w₁,⟨E₁,s₁,hR₁,hq⟩,.pass (x:=.inLoop c) rfl (λ_ _=>.inl (by simp)) harr⟩
   |ret=>exact⟨_,a₁,w₁,⟨E₁,s₁,hR₁,hq⟩,.pass (x:=.inLoop c) rfl (λ_ _=>.inl (by simp)) harr⟩
   |panic ch=>exact⟨_,a₁,w₁,⟨E₁,s₁,hR₁,hq⟩,.pass (x:=.inLoop c) rfl (λ_ _=>.inl (by simp)) harr⟩
   |outgrown=>exact⟨_,a₁,w₁,⟨E₁,s₁,hR₁,hq⟩,.pass (x:=.inLoop c) rfl (λ_ _=>.inl (by simp)) harr⟩
 obtain⟨E',hR'⟩:=h0 cx E a w hR
 obtain⟨e,a',w',hq,harr⟩:=key _ x0 rfl i0 E' a w hR'
 exact⟨e,a',w',hq,.of_steps (.one step_loop) harr⟩
end
class TyU(P:Program)(t:TypeId)(d:outParam TypeDesc):Prop where
 h:P.underlying t=ς d
class TyI(P:Program)(t:TypeId)(z:outParam Value)(n:outParam Nat)(b:outParam Nat):Prop where
 h:(P.info? t).map (λi=>(i.zero,i.size,i.bytes))=ς (ς z,n,b)
class g8(P:Program)(t:TypeId):Prop where
 h:∀w,(isAgg t).run P w= .ok η w
 n:∃i,P.info? t=ς i/\i.size=1
class fm(P:Program)(t:TypeId)(n:outParam Nat):Prop where
 h:∀w,(isAgg t).run P w= .ok ζ w
 n:∃i,P.info? t=ς i/\i.size=n
class da(P:Program)(t:TypeId)(e:outParam TypeId)(sz:outParam Nat)(by_:outParam Nat):Prop where
 u:P.underlying t=ς (.slice e)
 i:∃i z,P.info? e=ς i/\i.size=sz/\i.bytes=by_/\i.zero=ς z/\z.cells.size=sz
 p:0<sz
class TyF(P:Program)(t:TypeId)(f:Nat)(off:outParam Nat)(ft:outParam TypeId):Prop where
 h:∃fs fd,P.underlying t=ς (.struct fs)/\fs[f]?=ς fd/\fd.offset=off/\fd.type=ft/\∃i,P.info? ft=ς i/\i.size≠0
class TyZ(P:Program)(t:TypeId)(zs:outParam (List C)):Prop where
 h:∃i z,P.info? t=ς i/\i.zero=ς z/\z.cells.toList.map w7=zs
theorem d7{i:TypeInfo}(h:P.info? t=ς i)(w:World):(sizeOf t).run P w= .ok i.size w:=by
 simp[sizeOf,typeInfo,h]
section
variable{P:Program}{d:Option Tmp}{ty:TypeId}{ps:String}{af:Array Edge}{gd:Option (Nat×Bool)}{x y z:Operand}
theorem Kc{t:T}:AWN P ⟨d,.move x,ty,ps,af,gd⟩ [(x,t)] [] t []:=
 cf λE a w hn _=>⟨a.eval x,by simp[execOp],hn x t (.head _)⟩
theorem Cb{t:T}:AWN P ⟨d,.assign x,ty,ps,af,gd⟩ [(x,t)] [] t []:=
 cf λE a w hn _=>⟨a.eval x,by simp[execOp],hn x t (.head _)⟩
theorem fZ{k:IntKind}{n:Int}(h:cvT E w (.v (.c (.d g (.i k n)))) u):u= .int k n:=by
 have h:cvC E w (.d g _) u:=h
 simpa [rdD] using jQ h
theorem tL{b:Bool}(h:cvT E w (.v (.c (.d g (.b b)))) u):u= .bool b:=by
 have h:cvC E w (.d g _) u:=h
 simpa [rdD] using jQ h
theorem Bv{s:ByteArray}(h:cvT E w (.v (.c (.d g (.str s)))) u):u= .string s:=by
 have h:cvC E w (.d g _) u:=h
 simpa [rdD] using jQ h
theorem H9{t:T}:AWN P ⟨d,.pick x y z,ty,ps,af,gd⟩ [(x,.v (.c (.d g (.b ζ)))),(y,t)] [] t []:=
 cf λE a w hn _=>⟨a.eval y,by
  have h:=tL (hn x _ (.head _))
  simp[execOp,asBool,h],hn y t (.tail _ (.head _))⟩
theorem FW{t:T}:AWN P ⟨d,.pick x y z,ty,ps,af,gd⟩ [(x,.v (.c (.d g (.b η)))),(z,t)] [] t []:=
 cf λE a w hn _=>⟨a.eval z,by
  have h:=tL (hn x _ (.head _))
  simp[execOp,asBool,h],hn z t (.tail _ (.head _))⟩
@[irreducible] def ltB (a b:Int):Bool:=decide (a<b)
@[irreducible] def leB (a b:Int):Bool:=decide (a<=b)
@[irreducible] def eqB (a b:Int):Bool:=decide (a=b)
@[irreducible] def strB (a b:ByteArray):Bool:=a.toList==b.toList
@[simp] theorem ltB_t {a b:Int}:ltB a b=ζ↔a<b:=by simp[ltB]
@[simp] theorem ltB_f {a b:Int}:ltB a b=η↔b<=a:=by simp[ltB]
@[simp] theorem leB_t {a b:Int}:leB a b=ζ↔a<=b:=by simp[leB]
@[simp] theorem leB_f {a b:Int}:leB a b=η↔b<a:=by simp[leB]
@[simp] theorem eqB_t {a b:Int}:eqB a b=ζ↔a=b:=by simp[eqB]
@[simp] theorem eqB_f {a b:Int}:eqB a b=η↔a≠b:=by simp[eqB]
theorem K7{a b:ByteArray}(h:a.toList=b.toList):a=b:=by
 have:=congrArg List.toArray h
 simp only[ByteArray.toList_eq,ZY] at this
 exact ByteArray.ext this
@[simp] theorem strB_t {a b:ByteArray}:strB a b=ζ↔a=b:=by simp[strB];exact⟨K7,λh=>by rw[h]⟩
@[simp] theorem strB_f {a b:ByteArray}:strB a b=η↔a≠b:=by
 rw[<-Bool.not_eq_true,strB_t]
theorem XS(a b:Int):decide (a<b)=ltB a b:=by simp[ltB]
theorem XO(a b:Int):decide (a<=b)=leB a b:=by simp[leB]
theorem Xv(a b:Int):decide (a=b)=eqB a b:=by simp[eqB]
theorem Lz(a b:Int):(a==b)=eqB a b:=by rw[<-Xv];rfl
def Rj(op:BinOp)(k:IntKind)(a b:Int):Option D:=
 match op with
 | .add=>ς (.i k (k.wrap (a+b)))
 | .sub=>ς (.i k (k.wrap (a-b)))
 | .mul=>ς (.i k (k.wrap (a*b)))
 | .eql=>ς (.b (eqB a b))
 | .neq=>ς (.b (!eqB a b))
 | .lss=>ς (.b (ltB a b))
 | .leq=>ς (.b (leB a b))
 | .gtr=>ς (.b (ltB b a))
 | .geq=>ς (.b (leB b a))
 |_=>ξ
theorem n_int{op:BinOp}{k:IntKind}{a b:Int}{r:D}(h:Rj op k a b=ς r):
 AWN P ⟨d,.binOp op t x y t',ty,ps,af,gd⟩ [(x,.v (.c (.d g (.i k a)))),(y,.v (.c (.d g' (.i k b))))] [] (.v (.c (.d η r))) []:=
 cf λE ac w hn _=>by
  have h1:=fZ (hn x _ (.head _))
  have h2:=fZ (hn y _ (.tail _ (.head _)))
  cases op<;>simp only[Rj,Option.some.injEq,reduceCtorEq] at h<;>subst h<;>
   exact⟨_,by simp[execOp,h1,h2,eqGuard,binOp,Op.intArith,Op.intCmp];rfl,by simp[cvT,cvV,cvC,gD,rdD,bne,Lz,XS,XO]⟩
theorem n_rem{k:IntKind}{a b:Int}(h:b≠0):
 AWN P ⟨d,.binOp .rem t x y t',ty,ps,af,gd⟩ [(x,.v (.c (.d g (.i k a)))),(y,.v (.c (.d g' (.i k b))))] [] (.v (.c (.d η (.i k (a.tmod b))))) []:=
 cf λE ac w hn _=>by
  have h1:=fZ (hn x _ (.head _))
  have h2:=fZ (hn y _ (.tail _ (.head _)))
  exact⟨_,by simp[execOp,h1,h2,eqGuard,binOp,Op.intDiv,h];rfl,by rfl⟩
theorem n_quo{k:IntKind}{a b:Int}(h:b≠0):
 AWN P ⟨d,.binOp .quo t x y t',ty,ps,af,gd⟩ [(x,.v (.c (.d g (.i k a)))),(y,.v (.c (.d g' (.i k b))))] [] (.v (.c (.d η (.i k (k.wrap (a.tdiv b)))))) []:=
 cf λE ac w hn _=>by
  have h1:=fZ (hn x _ (.head _))
  have h2:=fZ (hn y _ (.tail _ (.head _)))
  exact⟨_,by simp[execOp,h1,h2,eqGuard,binOp,Op.intDiv,h];rfl,by rfl⟩
theorem RH{a b:ByteArray}:
 AWN P ⟨d,.binOp .eql t x y t',ty,ps,af,gd⟩ [(x,.v (.c (.d g (.str a)))),(y,.v (.c (.d g' (.str b))))] [] (.v (.c (.d η (.b (strB a b))))) []:=
 cf λE ac w hn _=>by
  have h1:=Bv (hn x _ (.head _))
  have h2:=Bv (hn y _ (.tail _ (.head _)))
  exact⟨_,by simp[execOp,h1,h2,eqGuard,binOp,Op.stringOp];rfl,by simp[cvT,cvV,cvC,gD,rdD,strB]⟩
theorem RI{a b:ByteArray}:
 AWN P ⟨d,.binOp .neq t x y t',ty,ps,af,gd⟩ [(x,.v (.c (.d g (.str a)))),(y,.v (.c (.d g' (.str b))))] [] (.v (.c (.d η (.b (!strB a b))))) []:=
 cf λE ac w hn _=>by
  have h1:=Bv (hn x _ (.head _))
  have h2:=Bv (hn y _ (.tail _ (.head _)))
  exact⟨_,by simp[execOp,h1,h2,eqGuard,binOp,Op.stringOp];rfl,by simp[cvT,cvV,cvC,gD,rdD,strB]⟩
theorem n_not{b:Bool}:AWN P ⟨d,.unOp .not t x,ty,ps,af,gd⟩ [(x,.v (.c (.d g (.b b))))] [] (.v (.c (.d η (.b (!b))))) []:=
 cf λE ac w hn _=>by
  have h1:=tL (hn x _ (.head _))
  exact⟨_,by simp[execOp,h1,Op.unary];rfl,by rfl⟩
theorem n_neg{k:IntKind}{n:Int}:AWN P ⟨d,.unOp .neg t x,ty,ps,af,gd⟩ [(x,.v (.c (.d g (.i k n))))] [] (.v (.c (.d η (.i k (k.wrap (0-n)))))) []:=
 cf λE ac w hn _=>by
  have h1:=fZ (hn x _ (.head _))
  exact⟨_,by simp[execOp,h1,Op.unary,Op.intArith];rfl,by simp[cvT,cvV,cvC,gD,rdD]⟩
theorem X3{ds:TypeDesc}{k k':IntKind}{n:Int}[hs:TyU P t ds][hd:TyU P t' (.int k')]:
 AWN P ⟨d,.convert t t' x,ty,ps,af,gd⟩ [(x,.v (.c (.d g (.i k n))))] [] (.v (.c (.d η (.i k' (k'.wrap n))))) []:=
 cf λE ac w hn _=>by
  have h1:=fZ (hn x _ (.head _))
  refine⟨.int k' (k'.wrap n),?_,by rfl⟩
  simp only[execOp,h1,convert]
  simp[underlying,hs.h,hd.h,Conv.intToInt]
theorem Oc{ts:List V}{v:V}(h:ts[i]?=ς v):AWN P ⟨d,.extract x i,ty,ps,af,gd⟩ [(x,.tup ts)] [] (.v v) []:=
 cf λE ac w hn _=>by
  obtain⟨arr,h1,h2⟩:=hn x _ (.head _)
  have key:∀(ts:List V) (us:Lae) (i:Nat),VV E w ts us->ts[i]?=ς v->∃u,us[i]?=ς u/\cvV E w v u:=by
   intro ts
   induction ts with
   |nil=>simp_all
   |cons t ts ih=>
    intro us i h9 hi
    cases us with
    |nil=>exact h9.elim
    |cons u us=>
     cases i with
     |zero=>simp at hi;subst hi;exact⟨u,rfl,h9.1⟩
     |succ i=>exact ih us i h9.2 (by simp_all)
  obtain⟨u,hu,hv⟩:=key ts arr.toList i h2 h
  exact⟨u,by simp[execOp,h1,Instr.extract,show arr[i]?=ς u by simp_all],hv⟩
theorem FV{o:Nat}:AWN P ⟨d,.nilCheck x,ty,ps,af,gd⟩ [(x,.v (.c (.p o k)))] [] (.v (.c (.p o k))) []:=
 cf λE ac w hn _=>by
  have h:=hn x _ (.head _)
  obtain⟨b,c,hr,hu⟩:=h
  exact⟨.pointer (ς ⟨b,k,ξ⟩),by simp[execOp,hu],b,c,hr,rfl⟩
theorem Vm{o by_:Nat}[ht:da P t e sz by_]:AWN P ⟨d,.call ⟨.builtin .len,#[x],#[t]⟩,ty,ps,af,gd⟩ [(x,.v (.c (.w o n)))] [] (tI n) []:=
 cf λE ac w hn _=>by
  obtain⟨b,c,hr,hu⟩:=hn x _ (.head _)
  exact⟨_,by simp[execOp,resolve,invoke,builtin,hu,Builtin.len_,underlying,ht.u,goInt];rfl,by rfl⟩
theorem Vl{o z by_:Nat}[ht:da P t e sz by_]:AWN P ⟨d,.call ⟨.builtin .len,#[x],#[t]⟩,ty,ps,af,gd⟩ [(x,.v (.c (.s o z off n)))] [] (tI n) []:=
 cf λE ac w hn _=>by
  obtain⟨A,c,b,k,hr,hu,_⟩:=hn x _ (.head _)
  exact⟨_,by simp[execOp,resolve,invoke,builtin,hu,Builtin.len_,underlying,ht.u,goInt];rfl,by rfl⟩
theorem Vk{xs:Lad}{by_:Nat}[ht:da P t e sz by_]:AWN P ⟨d,.call ⟨.builtin .len,#[x],#[t]⟩,ty,ps,af,gd⟩ [(x,.v (.c (.d g (.l xs))))] [] (tI xs.length) []:=
 cf λE ac w hn _=>by
  have h:=hn x _ (.head _)
  replace h:=sv h;simp only[rdD] at h
  obtain⟨A,c,hu,_⟩:=h
  exact⟨_,by simp[execOp,resolve,invoke,builtin,hu,Builtin.len_,underlying,ht.u,goInt];rfl,by rfl⟩
theorem Ok{by_:Nat}[ht:da P t e sz by_]:AWN P ⟨d,.call ⟨.builtin .len,#[x],#[t]⟩,ty,ps,af,gd⟩ [(x,.v (.c .nil))] [] (tI 0) []:=
 cf λE ac w hn _=>by
  have hu:ac.eval x= .slice ξ 0 0:=hn x _ (.head _)
  exact⟨_,by simp[execOp,resolve,invoke,builtin,hu,Builtin.len_,underlying,ht.u,goInt];rfl,by rfl⟩
theorem Ol{s:ByteArray}[ht:TyU P t .string]:AWN P ⟨d,.call ⟨.builtin .len,#[x],#[t]⟩,ty,ps,af,gd⟩ [(x,.v (.c (.d g (.str s))))] [] (tI s.size) []:=
 cf λE ac w hn _=>by
  have hu:=Bv (hn x _ (.head _))
  exact⟨_,by simp[execOp,resolve,invoke,builtin,hu,Builtin.len_,underlying,ht.h,goInt];rfl,by rfl⟩
theorem sm(b k j:Nat):(⟨b,k,ξ⟩:Addr).add j=⟨b,k+j,ξ⟩:=by
 unfold Addr.add;simp_all
theorem qV[h:TyF P t f off ft](b k:Nat)(w:World):(Instr.fieldAt t (.pointer (ς ⟨b,k,ξ⟩)) f).run P w= .ok (.pointer (ς ⟨b,k+off,ξ⟩)) w:=by
 obtain⟨fs,fd,h1,h2,rfl,rfl,i,h3,h4⟩:=h.h
 simp[Instr.fieldAt,underlying,h1,h2,Instr.sureAddr,fieldPlace,d7 h3,h4,sm]
theorem Oe{o:Nat}[h:TyF P t f off ft]:AWN P ⟨d,.fieldAddr t x f,ty,ps,af,gd⟩ [(x,.v (.c (.p o k)))] [] (.v (.c (.p o (k+off)))) []:=
 cf λE ac w hn _=>by
  obtain⟨b,c,hr,hu⟩:=hn x _ (.head _)
  exact⟨.pointer (ς ⟨b,k+off,ξ⟩),by simp[execOp,hu,qV],b,c,hr,rfl⟩
theorem Od{o:Nat}[h:TyF P t f off ft]:AWN P ⟨d,.fieldAddr t x f,ty,ps,af,gd⟩ [(x,.v (.c (.e o sz i j)))] [] (.v (.c (.e o sz i (j+off)))) []:=
 cf λE ac w hn _=>by
  obtain⟨b,c,hr,hu⟩:=hn x _ (.head _)
  exact⟨_,by simp[execOp,hu,qV];rfl,b,c,hr,by grind⟩
theorem Og{e:List D}[h:TyF P t f off ft]:AWN P ⟨d,.fieldAddr t x f,ty,ps,af,gd⟩ [(x,.v (.c (.q g e j)))] [] (.v (.c (.q g e (j+off)))) []:=
 cf λE ac w hn _=>by
  obtain⟨b,k,hu,hr⟩:=hn x _ (.head _)
  exact⟨_,by simp[execOp,hu,qV];rfl,b,k,by grind,hr⟩
theorem uT{by_:Nat}[ht:da P t e sz by_]{len cap:Nat}{i:Int}(h0:0<=i)(h1:i<len)(w:World):
 (Instr.indexAt t (.slice (ς ⟨b,k,ξ⟩) len cap) (.int kd i)).run P w= .ok (.pointer (ς ⟨b,k+i.toNat*sz,ξ⟩)) w:=by
 obtain⟨ii,z,h2,h3,_⟩:=ht.i
 have:=d7 h2 w
 simp[Instr.indexAt,asIntOf,underlying,ht.u,h0,h1,this,h3,sm]
theorem zK{by_:Nat}{o:Nat}{i:Int}[ht:da P t e sz by_](h0:0<=i)(h1:i<n):
 AWN P ⟨d,.indexAddr t x y,ty,ps,af,gd⟩ [(x,.v (.c (.w o n))),(y,.v (.c (.d g (.i kd i))))] [] (.v (.c (.e o sz i.toNat 0))) []:=
 cf λE ac w hn _=>by
  obtain⟨b,c,hr,hu⟩:=hn x _ (.head _)
  have h2:=fZ (hn y _ (.tail _ (.head _)))
  exact⟨_,by simp[execOp,hu,h2,uT h0 h1];rfl,b,c,hr,by simp⟩
theorem Oj{by_:Nat}{o:Nat}{i:Int}[ht:da P t e sz by_](h0:0<=i)(h1:i<n):
 AWN P ⟨d,.indexAddr t x y,ty,ps,af,gd⟩ [(x,.v (.c (.s o sz off n))),(y,.v (.c (.d g (.i kd i))))] [] (.v (.c (.e o sz (off+i.toNat) 0))) []:=
 cf λE ac w hn _=>by
  obtain⟨A,c,b,k,hr,hu,hc,_,hA⟩:=hn x _ (.head _)
  have h2:=fZ (hn y _ (.tail _ (.head _)))
  obtain rfl:A=ς ⟨b,off*sz,ξ⟩:=hA.resolve_left oaa
  exact⟨_,by simp[execOp,hu,h2,uT h0 h1];rfl,b,k,hr,by grind⟩
theorem Oi{by_:Nat}{xs:Lad}{i:Int}[ht:da P t e sz by_](h0:0<=i)(he:xs[i.toNat]?=ς el)(hs:∀e∈xs,e.length=sz):
 AWN P ⟨d,.indexAddr t x y,ty,ps,af,gd⟩ [(x,.v (.c (.d g (.l xs)))),(y,.v (.c (.d g' (.i kd i))))] [] (.v (.c (.q g el 0))) []:=
 cf λE ac w hn _=>by
  have h:=hn x _ (.head _)
  replace h:=sv h;simp only[rdD] at h
  obtain⟨A,c,hu,_,h⟩:=h
  have h2:=fZ (hn y _ (.tail _ (.head _)))
  have hl:i.toNat<xs.length:=(v0.1 he).1
  rcases h with h|⟨b,off,rfl,hb,h⟩
  .simp_all
  exact⟨_,by simp[execOp,hu,h2,uT (kd:=kd) h0 (by omega:i<(xs.length:Int))];rfl,b,off+i.toNat*sz,by simp,hb,ph h hs he⟩
def ldC(g:Gr):D->C
 | .l xs=>.d g.sub (.l xs)
 |x=>.d η x
theorem B3{x:D}(h:rdD w (E.H g) x u):cvC E w (ldC g x) u:=by
 cases x<;>simp only[ldC,cvC]<;>first|exact XD h|exact h|(simp only[gD,rdD] at h ⊢;exact h)
theorem lx[h:g8 P t](hc:w.cell? ⟨b,k,ξ⟩=ς u):(Instr.loadAt t (.pointer (ς ⟨b,k,ξ⟩))).run P w= .ok u w:=by
 simp[Instr.loadAt,Instr.sureAddr,loadVar,h.h,load,Sem.run,hc]
theorem jF{b k:Nat}{w:World}:∀(us:Lae) (i:Nat) (acc:Array Value),(∀j u,us[j]?=ς u->w.cell? ⟨b,k+(i+j),ξ⟩=ς u)->
 (loadCellsFrom ⟨b,k,ξ⟩ i us.length acc).run P w= .ok (acc++us.toArray) w
 |[],i,acc,_=>by rfl
 |u::us,i,acc,h=>by
  have h0:=h 0 u rfl
  have ih:=jF us (i+1) (acc.push u) (λj v hj=>by have:=h (j+1) v (by simp_all);rwa [show i+1+j=i+(j+1) from by omega])
  simp only[ZE,loadCellsFrom,load,sm]
  simp[Sem.run,show w.cell? ⟨b,k+i,ξ⟩=ς u by omega,ih]
theorem qk[h:fm P t n]{us:Lae}(hl:us.length=n)(hc:∀j u,us[j]?=ς u->w.cell? ⟨b,k+j,ξ⟩=ς u):
 (Instr.loadAt t (.pointer (ς ⟨b,k,ξ⟩))).run P w= .ok (.agg us.toArray) w:=by
 obtain⟨i,hi,hn⟩:=h.n
 have:=jF (P:=P) (b:=b) (k:=k) (w:=w) us 0 #[] (λj u hj=>by simp_all)
 simp[Instr.loadAt,Instr.sureAddr,loadVar,h.h,d7 hi,hn,<-hl,loadCells,this]
theorem Dr{E:Env}{w:World}:∀{cs:List C} {us:Lae} {k:Nat} {c:C},CV E w cs us->cs[k]?=ς c->∃u,us[k]?=ς u/\cvC E w c u
 |c::cs,u::us,0,c',h,hk=>by simp at hk;subst hk;exact⟨u,rfl,h.1⟩
 |c::cs,u::us,k+1,c',h,hk=>by
  obtain⟨v,hv,h'⟩:=Dr (k:=k) h.2 (by simpa using hk)
  simp_all
 |[],_,_,_,_,hk=>by simp at hk
 |_::_,[],_,_,h,_=>h.elim
theorem im{E:Env}{w:World}:∀{cs:List C} {us:Lae},CV E w cs us->us.length=cs.length
 |[],[],_=>rfl
 |c::cs,u::us,h=>by simp[im h.2]
 |[],_::_,h=>h.elim
 |_::_,[],h=>h.elim
theorem EN{E:Env}{w:World}:∀{cs:List C} {us:Lae} (k:Nat),CV E w cs us->CV E w (cs.drop k) (us.drop k)
 |cs,us,0,h=>by simpa using h
 |[],[],k+1,h=>by simpa using h
 |c::cs,u::us,k+1,h=>by simpa using EN k h.2
 |[],_::_,_+1,h=>h.elim
 |_::_,[],_+1,h=>h.elim
theorem ER{E:Env}{w:World}:∀{cs:List C} {us:Lae} (k:Nat),CV E w cs us->CV E w (cs.take k) (us.take k)
 |cs,us,0,h=>by simp[CV]
 |[],[],k+1,h=>by simp[CV]
 |c::cs,u::us,k+1,h=>by rw[ZT,ZT];exact⟨h.1,ER k h.2⟩
 |[],_::_,_+1,h=>h.elim
 |_::_,[],_+1,h=>h.elim
theorem dw{arr:Array Value}{ty':TypeId}(h:w.heap[b]?=ς (.cells arr ty' (0,0))):w.cell? ⟨b,k,ξ⟩=arr[k]?:=by
 simp[World.cell?,h]
theorem RD{o:Nat}{c:C}[ht:g8 P t](hc:cs[k]?=ς c):
 AWN P ⟨d,.load t x,ty,ps,af,gd⟩ [(x,.v (.c (.p o k)))] [(o,.var vt cs)] (.v (.c c)) []:=
 cf λE ac w hn hb=>by
  obtain⟨b,c',hr,hu⟩:=hn x _ (.head _)
  obtain⟨b',c'',arr,hr',hh,hcv,_⟩:=hb o _ (.head _)
  rw[hr] at hr';cases hr'
  obtain⟨u,hu',hcu⟩:=Dr hcv hc
  exact⟨u,by simp[execOp,hu,lx (P:=P) (show w.cell? ⟨b,k,ξ⟩=ς u by rw[dw hh];simp_all)],hcu⟩
theorem FO{o:Nat}[ht:fm P t n](hk:k+n<=cs.length):
 AWN P ⟨d,.load t x,ty,ps,af,gd⟩ [(x,.v (.c (.p o k)))] [(o,.var vt cs)] (.v (.agg ((cs.drop k).take n))) []:=
 cf λE ac w hn hb=>by
  obtain⟨b,c',hr,hu⟩:=hn x _ (.head _)
  obtain⟨b',c'',arr,hr',hh,hcv,_⟩:=hb o _ (.head _)
  rw[hr] at hr';cases hr'
  have hl:=im hcv
  refine⟨.agg ((arr.toList.drop k).take n).toArray,by
   simp[execOp,hu,qk (P:=P) (t:=t) (n:=n) (b:=b) (k:=k) (us:=(arr.toList.drop k).take n) (w:=w) (by grind) (λj u hj=>by
    rw[dw hh]
    grind)],_,rfl,ER n (EN k hcv)⟩
theorem RE{e:List D}{xd:D}[ht:g8 P t](hc:e[j]?=ς xd):AWN P ⟨d,.load t x,ty,ps,af,gd⟩ [(x,.v (.c (.q g e j)))] [] (.v (.c (ldC g xd))) []:=
 cf λE ac w hn hb=>by
  obtain⟨b,k,hu,hF,hr⟩:=hn x _ (.head _)
  obtain⟨u,hc,hd⟩:=iA hr hc
  exact⟨u,by simp[execOp,hu,lx (P:=P) hc],B3 hd⟩
theorem yC{w:World}{F:Nat->Prop}:∀{e:List D} {b k:Nat},rdL w F e b k->∃us:Lae,us.length=e.length/\(∀(j:Nat) (u:Value),us[j]?=ς u->w.cell? ⟨b,k+j,ξ⟩=ς u)/\∀(j:Nat) (xd:D),e[j]?=ς xd->∃u,us[j]?=ς u/\rdD w F xd u
 |[],b,k,_=>⟨[],rfl,by simp,by simp⟩
 |x::e,b,k,h=>by
  rw[rdL] at h
  obtain⟨⟨u,hc,hd⟩,h⟩:=h
  obtain⟨us,h1,h2,h3⟩:=yC h
  refine⟨u::us,by simp[h1],λj v hj=>?_,λj xd hj=>?_⟩
  .grind
  grind
theorem zi{E:Env}{w:World}{g:Gr}:∀{e:List D} {us:Lae},us.length=e.length->(∀(j:Nat) (xd:D),e[j]?=ς xd->∃u,us[j]?=ς u/\rdD w (E.H g) xd u)->CV E w (e.map (ldC g)) us
 |[],[],_,_=>trivial
 |x::e,u::us,hl,h=>by
  obtain⟨v,h1,h2⟩:=h 0 x rfl
  simp at h1;subst h1
  exact⟨B3 h2,zi (by simp_all) λj xd hj=>by
   obtain⟨v,h3,h4⟩:=h (j+1) xd (by simp_all)
   simp_all⟩
 |[],_::_,hl,_=>by simp at hl
 |_::_,[],hl,_=>by simp at hl
theorem Iy{F:Nat->Prop}{e:List D}(h:rdL w F e b k)(j n:Nat):rdL w F ((e.drop j).take n) b (k+j):=
 lA λi xd hi=>by
  rw[ZQ] at hi
  split at hi
  .rw[ZZ] at hi
   have:=iA h hi
   grind
  cases hi
theorem FQ{e:List D}[ht:fm P t n](hj:j+n<=e.length):
 AWN P ⟨d,.load t x,ty,ps,af,gd⟩ [(x,.v (.c (.q g e j)))] [] (.v (.agg (((e.drop j).take n).map (ldC g)))) []:=
 cf λE ac w hn hb=>by
  obtain⟨b,k,hu,hF,hr⟩:=hn x _ (.head _)
  obtain⟨us,h1,h2,h3⟩:=yC (Iy hr j n)
  exact⟨.agg us.toArray,by simp[execOp,hu,qk (P:=P) (t:=t) (n:=n) (us:=us) (by grind) h2],_,rfl,zi h1 h3⟩
theorem RB{o:Nat}{rt:TypeId}{xd:D}[ht:g8 P t](he:els[i]?=ς el)(hc:el[j]?=ς xd):
 AWN P ⟨d,.load t x,ty,ps,af,gd⟩ [(x,.v (.c (.e o sz i j)))] [(o,.row rt sz els g m)] (.v (.c (ldC g xd))) []:=
 cf λE ac w hn hb=>by
  obtain⟨b,c',hr,hu⟩:=hn x _ (.head _)
  obtain⟨b',c'',arr,hr',hh,h1,h2,h3,h4,h5,_⟩:=hb o _ (.head _)
  rw[hr] at hr';cases hr'
  obtain⟨u,hc,hd⟩:=iA (ph h5 h4 he) hc
  exact⟨u,by simp[execOp,hu,lx (P:=P) (t:=t) (show w.cell? ⟨b,i*sz+j,ξ⟩=ς u by simp_all)],B3 hd⟩
theorem FN{o:Nat}{rt:TypeId}[ht:fm P t n](he:els[i]?=ς el)(hj:j+n<=el.length):
 AWN P ⟨d,.load t x,ty,ps,af,gd⟩ [(x,.v (.c (.e o sz i j)))] [(o,.row rt sz els g m)] (.v (.agg (((el.drop j).take n).map (ldC g)))) []:=
 cf λE ac w hn hb=>by
  obtain⟨b,c',hr,hu⟩:=hn x _ (.head _)
  obtain⟨b',c'',arr,hr',hh,h1,h2,h3,h4,h5,_⟩:=hb o _ (.head _)
  rw[hr] at hr';cases hr'
  obtain⟨us,h6,h7,h8⟩:=yC (Iy (ph h5 h4 he) j n)
  exact⟨.agg us.toArray,by simp[execOp,hu,qk (P:=P) (t:=t) (n:=n) (b:=b) (k:=i*sz+j) (us:=us) (by grind) (λj' u hj'=>by have:=h7 j' u hj';simpa using this)],_,rfl,zi h6 h8⟩
theorem Rz{c:C}[h:TyF P t f off ft][ht:g8 P ft](hc:cs[off]?=ς c):AWN P ⟨d,.field t x f,ty,ps,af,gd⟩ [(x,.v (.agg cs))] [] (.v (.c c)) []:=
 cf λE ac w hn hb=>by
  obtain⟨arr,hu,hcv⟩:=hn x _ (.head _)
  obtain⟨u,hu',hcu⟩:=Dr hcv hc
  obtain⟨fs,fd,h1,h2,rfl,rfl,i,h3,h4⟩:=h.h
  exact⟨u,by simp[execOp,hu,Instr.field,underlying,h1,h2,asAgg,part,ht.h,show arr[fd.offset]?=ς u by simp_all],hcu⟩
theorem FM[h:TyF P t f off ft][ht:fm P ft n]:AWN P ⟨d,.field t x f,ty,ps,af,gd⟩ [(x,.v (.agg cs))] [] (.v (.agg ((cs.drop off).take n))) []:=
 cf λE ac w hn hb=>by
  obtain⟨arr,hu,hcv⟩:=hn x _ (.head _)
  obtain⟨fs,fd,h1,h2,rfl,rfl,i,h3,h4⟩:=h.h
  obtain⟨i',h5,h6⟩:=ht.n
  refine⟨.agg (arr.extract fd.offset (fd.offset+n)),by simp[execOp,hu,Instr.field,underlying,h1,h2,asAgg,part,ht.h,d7 h5,h6],_,rfl,?_⟩
  have:=ER n (EN fd.offset hcv)
  simp_all
end
def tkO{α:Type}:Nat->List α->Option (List α)
 |0,_=>ς []
 |n+1,x::xs=>match tkO n xs with|some r=>ς (x::r)|none=>ξ
 |_+1,[]=>ξ
def drO{α:Type}:Nat->List α->Option (List α)
 |0,xs=>ς xs
 |n+1,_::xs=>drO n xs
 |_+1,[]=>ξ
def yw(k n:Nat)(xs:List α):Option (List α):=match drO k xs with|some r=>tkO n r|none=>ξ
def oA{α:Type}:Nat->List α->List α->Option (List α)
 |0,[],cs=>ς cs
 |0,n::ns,_::cs=>match oA 0 ns cs with|some r=>ς (n::r)|none=>ξ
 |0,_::_,[]=>ξ
 |k+1,ns,c::cs=>match oA k ns cs with|some r=>ς (c::r)|none=>ξ
 |_+1,_,[]=>ξ
theorem Tr{α:Type}:∀{n:Nat} {xs r:List α},tkO n xs=ς r->r=xs.take n/\n<=xs.length
 |0,xs,r,h=>by simp[tkO] at h;subst h;simp
 |n+1,[],r,h=>by simp[tkO] at h
 |n+1,x::xs,r,h=>by
  simp only[tkO] at h
  cases h1:tkO n xs with
  |none=>simp_all
  |some s=>simp[h1] at h;obtain⟨h2,h3⟩:=Tr h1;simp_all
theorem Qt{α:Type}:∀{n:Nat} {xs r:List α},drO n xs=ς r->r=xs.drop n/\n<=xs.length
 |0,xs,r,h=>by simp[drO] at h;subst h;simp
 |n+1,[],r,h=>by simp[drO] at h
 |n+1,x::xs,r,h=>by simp only[drO] at h;obtain⟨h2,h3⟩:=Qt h;simp_all
theorem yx{xs r:List α}(h:yw k n xs=ς r):r=(xs.drop k).take n/\k+n<=xs.length:=by
 unfold yw at h
 cases h1:drO k xs with
 |none=>simp_all
 |some s=>
  simp[h1] at h
  obtain⟨h2,h3⟩:=Qt h1
  obtain⟨h4,h5⟩:=Tr h
  grind
theorem nY{α:Type}:∀{k:Nat} {ns cs r:List α},oA k ns cs=ς r->r=cs.take k++ns++cs.drop (k+ns.length)/\k+ns.length<=cs.length
 |0,[],cs,r,h=>by simp[oA] at h;subst h;simp
 |0,n::ns,[],r,h=>by simp[oA] at h
 |0,n::ns,c::cs,r,h=>by
  simp only[oA] at h
  cases h1:oA 0 ns cs with
  |none=>simp_all
  |some s=>simp[h1] at h;obtain⟨h2,h3⟩:=nY h1;simp_all
 |k+1,ns,[],r,h=>by cases ns<;>simp[oA] at h
 |k+1,ns,c::cs,r,h=>by
  have h':(match oA k ns cs with|some r=>ς (c::r)|none=>ξ)=ς r:=by cases ns<;>simpa [oA] using h
  cases h1:oA k ns cs with
  |none=>simp_all
  |some s=>
   simp[h1] at h';obtain⟨h2,h3⟩:=nY h1;grind
theorem CW{ns cs r:List α}(h:oA k ns cs=ς r)(i:Nat):r[i]?=if k<=i/\i<k+ns.length then ns[i-k]? else cs[i]?:=by
 obtain⟨h1,h2⟩:=nY h
 subst h1
 have hk:(cs.take k).length=k:=by simp;omega
 grind
theorem Wm{E:Env}{w:World}:∀{cs:List C} {us:Lae},us.length=cs.length->(∀(k:Nat) (c:C),cs[k]?=ς c->∃u,us[k]?=ς u/\cvC E w c u)->CV E w cs us
 |[],[],_,_=>trivial
 |c::cs,u::us,hl,h=>by
  obtain⟨v,h1,h2⟩:=h 0 c rfl
  simp at h1;subst h1
  exact⟨h2,Wm (by simp_all) λk c' hk=>by
   obtain⟨v,h3,h4⟩:=h (k+1) c' (by simp_all)
   simp_all⟩
 |[],_::_,hl,_=>by simp at hl
 |_::_,[],hl,_=>by simp at hl
section
variable{P:Program}{N:Nat}{d:Option Tmp}{ty:TypeId}{ps:String}{af:Array Edge}{gd:Option (Nat×Bool)}{x y z:Operand}
theorem Dg{o:Nat}{r:List C}[ht:fm P t n](hk:yw k n cs=ς r):
 AWN P ⟨d,.load t x,ty,ps,af,gd⟩ [(x,.v (.c (.p o k)))] [(o,.var vt cs)] (.v (.agg r)) []:=by
 obtain⟨h1,h2⟩:=yx hk
 subst h1
 exact FO h2
def ldO(g:Gr):List D->Option (List C)
 |[]=>ς []
 | .i k n::r=>match ldO g r with|some cs=>ς (.d η (.i k n)::cs)|none=>ξ
 | .b x::r=>match ldO g r with|some cs=>ς (.d η (.b x)::cs)|none=>ξ
 | .str s::r=>match ldO g r with|some cs=>ς (.d η (.str s)::cs)|none=>ξ
 | .l xs::r=>match ldO g r with|some cs=>ς (.d g.sub (.l xs)::cs)|none=>ξ
 | .k A n c::r=>match ldO g r with|some cs=>ς (.d η (.k A n c)::cs)|none=>ξ
theorem FA{g:Gr}:∀{xs:List D} {cs:List C},ldO g xs=ς cs->cs=xs.map (ldC g)
 |[],cs,h=>by simp[ldO] at h;subst h;rfl
 |x::xs,cs,h=>by
  cases h1:ldO g xs with
  |none=>cases x<;>simp[ldO,h1] at h
  |some r=>have:=FA h1;subst this;cases x<;>simp[ldO,h1] at h<;>subst h<;>rfl
def B4(g:Gr)(j n:Nat)(e:List D):Option (List C):=match yw j n e with|some r=>ldO g r|none=>ξ
theorem FB{e:List D}(h:B4 g j n e=ς cs):cs=((e.drop j).take n).map (ldC g)/\j+n<=e.length:=by
 unfold B4 at h
 cases h1:yw j n e with
 |none=>simp_all
 |some r=>simp[h1] at h;obtain⟨h2,h3⟩:=yx h1;subst h2;exact⟨FA h,h3⟩
def ld1(g:Gr)(j:Nat)(e:List D):Option C:=match B4 g j 1 e with|some [c]=>ς c|_=>ξ
theorem Rp{e:List D}{c:C}(h:ld1 g j e=ς c):∃xd,e[j]?=ς xd/\c=ldC g xd:=by
 unfold ld1 at h
 split at h
 .rename_i c' h1
  simp at h;subst h
  obtain⟨h2,h3⟩:=FB h1
  have hj:j<e.length:=by omega
  refine⟨e[j],Zl hj,?_⟩
  rw[Z1 hj,ZT] at h2
  injection h2
 cases h
theorem Dh{e:List D}[ht:fm P t n](hj:B4 g j n e=ς cs):
 AWN P ⟨d,.load t x,ty,ps,af,gd⟩ [(x,.v (.c (.q g e j)))] [] (.v (.agg cs)) []:=by
 obtain⟨h1,h2⟩:=FB hj
 subst h1
 exact FQ h2
theorem Oo{e:List D}{c:C}[ht:g8 P t](hc:ld1 g j e=ς c):AWN P ⟨d,.load t x,ty,ps,af,gd⟩ [(x,.v (.c (.q g e j)))] [] (.v (.c c)) []:=by
 obtain⟨xd,h1,rfl⟩:=Rp hc
 exact RE h1
theorem D5{o:Nat}{rt:TypeId}{c:C}[ht:g8 P t](he:els[i]?=ς el)(hc:ld1 g j el=ς c):
 AWN P ⟨d,.load t x,ty,ps,af,gd⟩ [(x,.v (.c (.e o sz i j)))] [(o,.row rt sz els g m)] (.v (.c c)) []:=by
 obtain⟨xd,h1,rfl⟩:=Rp hc
 exact RB he h1
theorem wH{o:Nat}{rt:TypeId}[ht:fm P t n](he:els[i]?=ς el)(hj:B4 g j n el=ς cs):
 AWN P ⟨d,.load t x,ty,ps,af,gd⟩ [(x,.v (.c (.e o sz i j)))] [(o,.row rt sz els g m)] (.v (.agg cs)) []:=by
 obtain⟨h1,h2⟩:=FB hj
 subst h1
 exact FN he h2
theorem De{r:List C}[h:TyF P t f off ft][ht:fm P ft n](hr:yw off n cs=ς r):AWN P ⟨d,.field t x f,ty,ps,af,gd⟩ [(x,.v (.agg cs))] [] (.v (.agg r)) []:=by
 obtain⟨h1,h2⟩:=yx hr
 subst h1
 exact FM
def Env.new(E:Env)(l b c:Nat):Env:={E with r:=λo=>if o=l then ς (b,c) else E.r o}
theorem US{cx:Cx}(ok:cF cx E w)(hl:E.r l=ξ)(hv:rsv l=η)(o:Obj)(c:Nat):
 cF cx (E.new l w.heap.size c) (w.alloc o)/\Ext E w (E.new l w.heap.size c) (w.alloc o):=by
 have hne:∀o' x,E.r o'=ς x->o'≠l:=λo' x h e=>by simp_all
 refine⟨⟨λb hb=>?_,ok.gf,ok.gn,λo' b c' h=>?_,λo1 o2 b c1 c2 h1 h2=>?_,ok.os,ok.tape,ok.output,?_,λb hb hW=>?_,λo' x hx h=>?_,ok.ff,λb h h'=>(ok.gc b h h').of_eq (Below.heap_alloc w o b (ok.fb b h)),ok.sf.grow rfl rfl (λ_ h=>.inl h) (λo' b c' h=>?_) (by simp) (λb hb=>Below.heap_alloc w o b hb)⟩,⟨λo' x h=>?_,λ_ h=>h,λ_ h=>h,λ_ h=>.inl h,λb hb=>Below.heap_alloc w o b hb,λ_ _ h=>h,λ_ _ h=>.inl h,rfl,rfl⟩⟩
 .have:=ok.fb b hb;simp;omega
 .simp only[Env.new] at h
  split at h
  .cases h;exact⟨by simp,.inl (.inl ok.size)⟩
  obtain⟨h3,h4⟩:=ok.rb o' b c' h;exact⟨by simp;omega,h4⟩
 .simp only[Env.new] at h1 h2
  split at h1<;>split at h2
  .omega
  .cases h1;have:=ok.rb o2 _ _ h2;omega
  .cases h2;have:=ok.rb o1 _ _ h1;omega
  exact ok.inj o1 o2 b c1 c2 h1 h2
 .have:=ok.size;simp;omega
 .have:=ok.size;rw[Below.heap_alloc w o b oaa];exact ok.block b hb hW
 .simp only[Env.new] at h
  split at h
  .rename_i e;subst e;rw[mn hv] at hx;cases hx
  exact ok.pin o' x hx h
 .simp only[Env.new] at h
  grind
 simp only[Env.new];grind
theorem Fi{cx:Cx}(ok:cF cx E w)(hl:E.r l=ξ)(o:Obj)(c:Nat):Ext E w (E.new l w.heap.size c) (w.alloc o):=
 ⟨λo' x h=>by
  have hne:o'≠l:=λe=>by simp_all
  simp only[Env.new];simp_all,λ_ h=>h,λ_ h=>h,λ_ h=>.inl h,λb hb=>Below.heap_alloc w o b hb,λ_ _ h=>h,λ_ _ h=>.inl h,rfl,rfl⟩
theorem wK(E:Env)(l b c:Nat):(E.new l b c).r l=ς (b,c):=by simp[Env.new]
theorem qm(w:World)(o:Obj):(w.alloc o).heap[w.heap.size]?=ς o:=heap_alloc_new w o
theorem xN{o:Oper}{needs:List (Operand×T)}{nb:Ob}(h:∀(cx:Cx) (E:Env) (a:Act) (w:World),cF cx E w->(∀x t,(x,t)∈needs->cvT E w t (a.eval x))->(∀l ob,(l,ob)∈nob->cg E w l ob)->E.r l=ξ->
 ∃v ob c,(execOp a.eval o).run P w= .ok (.value v) (w.alloc ob)/\cvT (E.new l w.heap.size c) (w.alloc ob) out v/\cg (E.new l w.heap.size c) (w.alloc ob) l nb):AWN P o needs nob out [(l,nb)]:=by
 intro cx E a w ok hn hb hl
 obtain⟨v,ob,c,hr,hv,ho⟩:=h cx E a w ok hn hb (hl l nb (by simp)).1
 obtain⟨ok',ext⟩:=US ok (hl l nb (by simp)).1 (hl l nb (by simp)).2 ob c
 unfold Oper.wp
 rw[hr]
 refine⟨v,_,rfl,ok',ext,hv,λl' ob' hm=>?_,λl' x hx=>?_⟩
 .simp_all
 simp only[Env.new] at hx
 grind
theorem uX{cx:Cx}(ok:cF cx E w)(l c:Nat):¬(E.new l w.heap.size c).F w.heap.size:=λh=>by have:=ok.fb _ h;omega
theorem Vg{zs:List C}[hz:TyZ P t zs]:AWN P ⟨d,.alloc t,ty,ps,af,gd⟩ [] [] (.v (.c (.p l 0))) [(l,.var t zs)]:=
 xN λcx E a w ok _ _ hl=>by
  obtain⟨i,z,h1,h2,h3⟩:=hz.h
  refine⟨.pointer (ς ⟨w.heap.size,0,ξ⟩),.cells z.cells t,0,by simp[execOp,Instr.alloc,zeroValue,typeInfo,h1,h2,newVar,newRow],?_,?_⟩
  .exact⟨_,_,wK _ _ _ _,rfl⟩
  refine⟨_,_,z.cells,wK _ _ _ _,qm _ _,?_,uX ok _ _⟩
  rw[<-h3];exact sR _ _ _
theorem Oa:AWN P ⟨d,.box t x,ty,ps,af,gd⟩ [(x,.v (.agg cs))] [] (.v (.c (.p l 0))) [(l,.var t cs)]:=
 xN λcx E a w ok hn _ hl=>by
  obtain⟨arr,hu,hcv⟩:=hn x _ (.head _)
  refine⟨.pointer (ς ⟨w.heap.size,0,ξ⟩),.cells arr t,0,by simp[execOp,Instr.box,hu,newVar,newRow,Value.cells],⟨_,_,wK _ _ _ _,rfl⟩,?_⟩
  exact⟨_,_,arr,wK _ _ _ _,qm _ _,pN (.of_ext ok (Fi ok hl _ 0)) hcv,uX ok _ _⟩
def C.sto:C->Bool
 | .any=>η
 |_=>ζ
theorem K4{c:C}(hs:c.sto=ζ)(h:cvC E w c u):u.oneCell'=ζ/\u.cells= #[u]:=by
 cases c with
 |d g x=>exact⟨iS (jQ h),nk (jQ h)⟩
 |w o n=>obtain⟨b,c,_,rfl⟩:=h;exact⟨rfl,rfl⟩
 |wn o n=>
  rcases h with⟨_,_,rfl⟩|⟨_,b,c,_,rfl⟩
  .exact⟨rfl,rfl⟩
  exact⟨rfl,rfl⟩
 |s o sz off len=>obtain⟨A,c,b,k,_,rfl,_⟩:=h;exact⟨rfl,rfl⟩
 |p o k=>obtain⟨b,c,_,rfl⟩:=h;exact⟨rfl,rfl⟩
 |e o sz i j=>obtain⟨b,c,_,rfl⟩:=h;exact⟨rfl,rfl⟩
 |q g x j=>obtain⟨b,k,rfl,_⟩:=h;exact⟨rfl,rfl⟩
 |fn f=>subst h;exact⟨rfl,rfl⟩
 |nil=>subst h;exact⟨rfl,rfl⟩
 |any=>cases hs
 |r l x=>exact⟨iS h,nk h⟩
 |z x=>exact KC h
 |zq x j=>obtain⟨b,k,rfl,_⟩:=h;exact⟨rfl,rfl⟩
theorem Vh{c:C}(hs:c.sto=ζ):AWN P ⟨d,.box t x,ty,ps,af,gd⟩ [(x,.v (.c c))] [] (.v (.c (.p l 0))) [(l,.var t [c])]:=
 xN λcx E a w ok hn _ hl=>by
  have hu:cvC E w c (a.eval x):=hn x _ (.head _)
  obtain⟨h1,h2⟩:=K4 hs hu
  refine⟨.pointer (ς ⟨w.heap.size,0,ξ⟩),.cells #[a.eval x] t,0,by simp[execOp,Instr.box,h2,newVar,newRow],⟨_,_,wK _ _ _ _,rfl⟩,?_⟩
  exact⟨_,_,#[a.eval x],wK _ _ _ _,qm _ _,⟨sY (.of_ext ok (Fi ok hl _ 0)) hu,θ⟩,uX ok _ _⟩
def cD:C->Option (D×Bool)
 | .d (.b g) (.l xs)=>ς (.l xs,g)
 | .d _ (.i k n)=>ς (.i k n,ζ)
 | .d _ (.b b)=>ς (.b b,ζ)
 | .d _ (.str s)=>ς (.str s,ζ)
 | .d _ (.k A n c)=>ς (.k A n c,ζ)
 | .nil=>ς (.l [],ζ)
 |_=>ξ
def csD:List C->Option (List D×Bool)
 |[]=>ς ([],ζ)
 |c::cs=>match cD c,csD cs with
  |some (x,g),ς (xs,g')=>ς (x::xs,g&&g')
  |_,_=>ξ
def vD:V->Option (List D×Bool)
 | .c c=>match cD c with
  |some (x,g)=>ς ([x],g)
  |none=>ξ
 | .agg cs=>csD cs
theorem Wv{cx:Cx}(ok:cF cx E w){c:C}{x:D}{g:Bool}(h:cD c=ς (x,g))(hc:cvC E w c u):rdD w (E.H g) x u/\u.oneCell'=ζ/\u.cells= #[u]:=by
 cases c with
 |d g' x'=>
  refine⟨?_,iS (jQ hc),nk (jQ hc)⟩
  cases g'<;>cases x'<;>simp[cD] at h<;>obtain⟨rfl,rfl⟩:=h<;>first|exact hc|(replace hc:=p4 hc;simp only[rdD] at hc ⊢;exact hc)
 |nil=>
  simp[cD] at h
  obtain⟨rfl,rfl⟩:=h
  have hu:u= .slice ξ 0 0:=hc
  subst hu
  exact⟨by rw[rdD];simp_all,rfl,rfl⟩
 |_=>simp[cD] at h
theorem mX{cx:Cx}(ok:cF cx E w){g g':Bool}{x:D}(h:rdD w (E.H (g)) x u)(hg:g'=ζ->g=ζ):rdD w (E.H g') x u:=by
 cases g' with
 |true=>simp_all
 |false=>
  cases g with
  |false=>exact h
  |true=>exact bP (λ_ _=>rfl) (λb hb=>ok.gf b hb) x u h
theorem Qb{cx:Cx}{E:Env}{w:World}(ok:cF cx E w):∀{cs:List C} {xs:List D} {g:Bool} {us:Lae},csD cs=ς (xs,g)->CV E w cs us->
 xs.length=us.length/\(∀u∈us,u.oneCell'=ζ)/\∀(j:Nat) (xd:D),xs[j]?=ς xd->∃u,us[j]?=ς u/\rdD w (E.H g) xd u
 |[],xs,g,us,h,hc=>by
  simp[csD] at h;obtain⟨rfl,rfl⟩:=h
  cases us with
  |nil=>simp_all
  |cons _ _=>exact hc.elim
 |c::cs,xs,g,us,h,hc=>by
  cases us with
  |nil=>exact hc.elim
  |cons u us=>
   cases h1:cD c with
   |none=>simp[csD,h1] at h
   |some p=>
    obtain⟨x,g1⟩:=p
    cases h2:csD cs with
    |none=>simp[csD,h1,h2] at h
    |some p=>
     obtain⟨xs',g2⟩:=p
     simp[csD,h1,h2] at h
     obtain⟨rfl,rfl⟩:=h
     obtain⟨k1,k2,k3⟩:=Wv ok h1 hc.1
     obtain⟨m1,m2,m3⟩:=Qb ok h2 hc.2
     refine⟨by simp[m1],by simp_all,λj xd hj=>?_⟩
     cases j with
     |zero=>simp at hj;subst hj;exact⟨u,rfl,mX ok k1 (by simp_all)⟩
     |succ j=>
      obtain⟨v,n1,n2⟩:=m3 j xd (by simp_all)
      exact⟨v,by simp_all,mX ok n2 (by simp)⟩
theorem TF{cx:Cx}(ok:cF cx E w){v:V}{xs:List D}{g:Bool}(h:vD v=ς (xs,g))(hv:cvV E w v u):
 u.cells.size=xs.length/\(∀c∈u.cells.toList,c.oneCell'=ζ)/\∀(j:Nat) (xd:D),xs[j]?=ς xd->∃c,u.cells[j]?=ς c/\rdD w (E.H g) xd c:=by
 cases v with
 |c c=>
  cases h1:cD c with
  |none=>simp[vD,h1] at h
  |some p=>
   obtain⟨x,g1⟩:=p
   simp[vD,h1] at h
   obtain⟨rfl,rfl⟩:=h
   obtain⟨k1,k2,k3⟩:=Wv ok h1 hv
   grind
 |agg cs=>
  obtain⟨arr,rfl,hc⟩:=hv
  obtain⟨m1,m2,m3⟩:=Qb ok h hc
  refine⟨by simpa [Value.cells] using m1.symm,by simpa [Value.cells] using m2,λj xd hj=>?_⟩
  obtain⟨c,n1,n2⟩:=m3 j xd hj
  exact⟨c,by simpa [Value.cells] using n1,n2⟩
end
class TyB(P:Program)(t:TypeId)(pl:outParam Lac):Prop where
 h:∃fs,P.underlying t=ς (.struct fs)/\∀w,(fs.mapM (λf=>Prod.mk f.offset<$>sizeOf f.type):Sem (Array (Nat×Nat))).run P w= .ok pl.toArray w
def oX:Lae->Option (List D)
 |[]=>ς []
 | .int k n::r=>match oX r with|some xs=>ς (.i k n::xs)|none=>ξ
 | .bool b::r=>match oX r with|some xs=>ς (.b b::xs)|none=>ξ
 | .string s::r=>match oX r with|some xs=>ς (.str s::xs)|none=>ξ
 | .slice ξ 0 0::r=>match oX r with|some xs=>ς (.l []::xs)|none=>ξ
 |_=>ξ
class TyE(P:Program)(e:TypeId)(zd:outParam (List D)):Prop where
 h:∃i z,P.info? e=ς i/\i.zero=ς z/\oX z.cells.toList=ς zd
theorem w8{w:World}{F:Nat->Prop}:∀{us:Lae} {xs:List D},oX us=ς xs->us.length=xs.length/\∀(j:Nat) (xd:D),xs[j]?=ς xd->∃u,us[j]?=ς u/\rdD w F xd u
 |[],xs,h=>by simp[oX] at h;simp_all
 |u::us,xs,h=>by
  have key:∃x xs',xs=x::xs'/\oX us=ς xs'/\rdD w F x u:=by
   unfold oX at h
   split at h
   .simp at*
   .rename_i e;injection e with e1 e2;subst e1;subst e2;split at h
    .rename_i r h1;simp at h;exact⟨_,r,h.symm,h1,by simp[rdD]⟩
    cases h
   .rename_i e;injection e with e1 e2;subst e1;subst e2;split at h
    .rename_i r h1;simp at h;exact⟨_,r,h.symm,h1,by simp[rdD]⟩
    cases h
   .rename_i e;injection e with e1 e2;subst e1;subst e2;split at h
    .rename_i r h1;simp at h;exact⟨_,r,h.symm,h1,by simp[rdD]⟩
    cases h
   .rename_i e;injection e with e1 e2;subst e1;subst e2;split at h
    .rename_i r h1;simp at h;exact⟨_,r,h.symm,h1,by rw[rdD];simp_all⟩
    cases h
   cases h
  obtain⟨x,xs',rfl,h1,h2⟩:=key
  obtain⟨k1,k2⟩:=w8 (w:=w) (F:=F) h1
  grind
def vcs:V->Option (List C)
 | .c c=>match c.sto with|true=>ς [c]|false=>ξ
 | .agg cs=>ς cs
theorem GD{v:V}(h:vcs v=ς cs)(hv:cvV E w v u):CV E w cs u.cells.toList:=by
 cases v with
 |c c=>
  simp only[vcs] at h
  cases hs:c.sto with
  |false=>simp_all
  |true=>simp[hs] at h;subst h;obtain⟨_,h2⟩:=K4 hs hv;rw[h2];exact⟨hv,θ⟩
 |agg cs'=>simp[vcs] at h;subst h;obtain⟨arr,rfl,hc⟩:=hv;exact hc
def Bo(pl:Lac):List C->List (Nat×V)->Option (List C)
 |cs,[]=>ς cs
 |cs,(i,v)::r=>match pl[i]?,vcs v with
  |some (off,n),ς ns=>match d0 ns.length n,oA off ns cs with
   |true,ς cs'=>Bo pl cs' r
   |_,_=>ξ
  |_,_=>ξ
def PV(E:Env)(w:World):List (Nat×V)->List (Nat×Value)->Prop
 |[],[]=>True
 |(i,v)::r,(j,u)::s=>i=j/\cvV E w v u/\PV E w r s
 |_,_=>False
theorem zj{ns r:List C}{us vs ws:Lae}(h:oA off ns cs=ς r)(hn:CV E w ns us)(hc:CV E w cs vs)(hl:ws.length=vs.length)(hw:∀k,ws[k]?=if off<=k/\k<off+us.length then us[k-off]? else vs[k]?):CV E w r ws:=by
 have hln:=im hn
 have hlc:=im hc
 refine Wm ?_ λk c hk=>?_
 .obtain⟨h1,h2⟩:=nY h;grind
 rw[CW h k] at hk
 rw[hw k,hln]
 split at hk
 .rename_i hi;rw[if_pos hi];exact Dr hn hk
 rename_i hi;rw[if_neg hi];exact Dr hc hk
theorem LT{E:Env}{w:World}{pl:Lac}:∀{ps:List (Nat×V)} {us:List (Nat×Value)} {cs r:List C} {arr:Array Value},PV E w ps us->CV E w cs arr.toList->Bo pl cs ps=ς r->
 ∃arr',Instr.fill (pl.toArray[·]?) arr us=ς arr'/\CV E w r arr'.toList
 |[],[],cs,r,arr,_,hc,h=>by simp[Bo] at h;subst h;exact⟨arr,rfl,hc⟩
 |(i,v)::ps,(j,u)::us,cs,r,arr,hp,hc,h=>by
  obtain⟨rfl,hv,hp⟩:=hp
  simp only[Bo] at h
  split at h
  .rename_i off n ns h1 h2
   split at h
   .rename_i cs' h3 h4
    have h3':=Zo h3
    have hcn:=GD h2 hv
    have hl:=im hcn
    have hlc:=im hc
    obtain⟨g1,g2⟩:=Go.Great.foldl_set off u.cells.toList 0 arr
    have hsz:u.cells.size=n:=by simp at hl;omega
    have hle:=(nY h4).2
    have hsp:CV E w cs' ((u.cells.toList.zipIdx 0).foldl (λcs (x:Value×Nat)=>cs.setIfInBounds (off+x.2) x.1) arr).toList:=by
     refine zj h4 hcn hc (by simp[g1]) λk=>?_
     rw[Array.getElem?_toList,g2 k]
     simp only[ZX]
     by_cases hk:off<=k/\k<off+u.cells.toList.length
     .grind
     grind
    obtain⟨arr',k1,k2⟩:=LT (pl:=pl) hp hsp h
    refine⟨arr',?_,k2⟩
    rw[<-k1]
    conv=>lhs;unfold Instr.fill
    have hpl:pl.toArray[i]?=ς (off,n):=by simpa using h1
    simp only[hpl]
    rw[if_neg (by simp_all)]
    congr 1
    rw[<-Array.foldl_toList,Array.toList_zipIdx]
   cases h
  cases h
 |[],_::_,_,_,_,hp,_,_=>hp.elim
 |_::_,[],_,_,_,hp,_,_=>hp.elim
section
variable{P:Program}{N:Nat}{d:Option Tmp}{ty:TypeId}{ps:String}{af:Array Edge}{gd:Option (Nat×Bool)}{x y z:Operand}
theorem PG{E:Env}{a:Act}{w:World}:∀{parts:List (Nat×Operand)} {vs:List V},vs.length=parts.length->(∀x t,(x,t)∈(parts.map (·.2)).zip (vs.map T.v)->cvT E w t (a.eval x))->
 PV E w ((parts.map (·.1)).zip vs) (parts.map λp=>(p.1,a.eval p.2))
 |[],[],_,_=>trivial
 |(i,x)::ps,v::vs,hl,h=>⟨rfl,h x (.v v) (by simp),PG (by simp_all) λx t hm=>h x t (by simp_all)⟩
 |[],_::_,hl,_=>by simp at hl
 |_::_,[],hl,_=>by simp at hl
theorem Ms{zs:List C}{pl:Lac}{parts:List (Nat×Operand)}[hz:TyZ P t zs][hb:TyB P t pl](hv:vs.length=parts.length)(h:Bo pl zs ((parts.map (·.1)).zip vs)=ς cs):AWN P ⟨d,.build t parts.toArray,ty,ps,af,gd⟩ ((parts.map (·.2)).zip (vs.map T.v)) [] (.v (.agg cs)) []:=
 cf λE a w hn _=>by
  obtain⟨i,z,h1,h2,h3⟩:=hz.h
  obtain⟨fs,h4,h5⟩:=hb.h
  obtain⟨arr',k1,k2⟩:=LT (arr:=z.cells) (PG hv hn) (by rw[<-h3];exact sR _ _ _) h
  refine⟨.agg arr',?_,arr',rfl,k2⟩
  have k1':Instr.fill (λx=>pl[x]?) z.cells (List.map (λp=>(p.fst,a.eval p.snd)) parts)=ς arr':=by simpa using k1
  simp[execOp,Instr.build,zeroValue,typeInfo,h1,h2,underlying,h4,h5,k1']
def vsD:List V->Option (Lad×Bool)
 |[]=>ς ([],ζ)
 |v::vs=>match vD v,vsD vs with
  |some (e,g),ς (es,g')=>ς (e::es,g&&g')
  |_,_=>ξ
theorem TG{cx:Cx}{E:Env}{w:World}(ok:cF cx E w):∀{vs:List V} {els:Lad} {g:Bool},vsD vs=ς (els,g)->els.length=vs.length/\
 ∀(i:Nat) (e:List D),els[i]?=ς e->∃v g',vs[i]?=ς v/\vD v=ς (e,g')/\(g=ζ->g'=ζ)
 |[],els,g,h=>by simp[vsD] at h;simp_all
 |v::vs,els,g,h=>by
  cases h1:vD v with
  |none=>simp[vsD,h1] at h
  |some p=>
   obtain⟨e,g1⟩:=p
   cases h2:vsD vs with
   |none=>simp[vsD,h1,h2] at h
   |some p=>
    obtain⟨es,g2⟩:=p
    simp[vsD,h1,h2] at h
    obtain⟨rfl,rfl⟩:=h
    obtain⟨k1,k2⟩:=TG ok h2
    grind
def J6(sz:Nat):Lad->Bool
 |[]=>ζ
 |e::es=>d0 e.length sz&&J6 sz es
theorem Mi{sz:Nat}:∀{els:Lad},J6 sz els=ζ->∀e∈els,e.length=sz
 |e::es,h,e',hm=>by
  simp only[J6,hV] at h
  rcases Zp.1 hm with rfl|hm
  .simp_all
  exact Mi h.2 e' hm
theorem tW{by_:Nat}{len:Nat}{parts:List (Nat×Operand)}{g:Bool}[ht:da P t e sz by_](hlen:len=parts.length)(hv:vs.length=parts.length)(hi:parts.map (·.1)=Zm len)(he:vsD vs=ς (els,g))(hs:J6 sz els=ζ)(h24:len*sz<=16777216):
 AWN P ⟨d,.buildSlice t len parts.toArray,ty,ps,af,gd⟩ ((parts.map (·.2)).zip (vs.map T.v)) [] (.v (.c (.w l len))) [(l,.row e sz els g ζ)]:=
 xN λcx E a w ok hn _ hl=>by
  subst hlen
  have hsz:=Mi hs
  obtain⟨ii,zz,i1,i2,i3,i4,i5⟩:=ht.i
  obtain⟨m1,m2⟩:=TG ok he
  have hval:∀(i:Nat) (v:V),vs[i]?=ς v->∃p,parts[i]?=ς p/\cvV E w v (a.eval p.2):=by
   intro i v hi
   have hlt:i<vs.length:=(v0.1 hi).1
   have hp:i<parts.length:=by omega
   refine⟨parts[i],Zl hp,hn parts[i].2 (.v v) ?_⟩
   refine Zk (i:=i) ?_
   rw[List.getElem?_zip_eq_some]
   simp[hi,hp]
  have hcell:∀p∈parts,(a.eval p.2).cells.size=sz:=by
   intro p hp
   obtain⟨i,hi⟩:=Zx hp
   have hlt:i<parts.length:=(v0.1 hi).1
   obtain⟨v,hv'⟩:∃v,vs[i]?=ς v:=⟨_,Zl oaa⟩
   obtain⟨e',he'⟩:∃e',els[i]?=ς e':=⟨_,Zl oaa⟩
   obtain⟨v2,g',n1,n2,n3⟩:=m2 i e' he'
   rw[hv'] at n1;cases n1
   obtain⟨p',q1,q2⟩:=hval i v hv'
   rw[hi] at q1;cases q1
   rw[(TF ok n2 q2).1];exact hsz e' (Zk he')
  have hparts:(parts.map λp=>(p.1,a.eval p.2))=(((parts.map λp=>a.eval p.2).zipIdx 0).map λx=>(x.2,x.1)):=by
   apply List.ext_getElem?
   intro i
   simp only[ZH,List.getElem?_zipIdx]
   cases hp:parts[i]? with
   |none=>simp
   |some p=>
    have:(parts.map (·.1))[i]?=ς p.1:=by simp[hp]
    grind
  obtain⟨r,f1,f2,f3⟩:=Go.Great.fill_dense (s:=sz) ht.p (parts.map λp=>a.eval p.2) 0 ((Array.range (parts.length*sz)).map ((if parts.length*sz=0 then #[] else zz.cells)[· %(if parts.length*sz=0 then #[] else zz.cells).size]!))
   (by grind) (by simp)
  refine⟨.slice (ς ⟨w.heap.size,0,ξ⟩) parts.length parts.length,.cells r e,parts.length,?_,⟨_,_,wK _ _ _ _,rfl⟩,?_⟩
  .have hroom:¬parts.length*ii.size>2^24:=by rw[i2];omega
   by_cases h0:parts.length*sz=0
   .simp only[execOp,Instr.buildSlice]
    simp[underlying,ht.u,d7 i1,i2,h0,newRow]
    simp_all
   simp only[execOp,Instr.buildSlice]
   have hroom':¬16777216<parts.length*sz:=by omega
   simp only[h0,if_false] at f1
   rw[<-hparts] at f1
   simp[underlying,ht.u,d7 i1,i2,h0,hroom',newRow,zeroValue,typeInfo,i1,i4,f1]
  refine⟨_,_,r,wK _ _ _ _,qm _ _,by simp[f2],by omega,?_,hsz,?_,λ_=>uX ok _ _,(λh=>by cases h),θ⟩
  .have:=ht.p
   have:parts.length<=parts.length*sz:=Nat.le_mul_of_pos_right _ this
   unfold maxLen;omega
  refine tZ hsz λi e' hi'=>lA λj xd hj=>?_
  obtain⟨v,g',n1,n2,n3⟩:=m2 i e' hi'
  obtain⟨p,q1,q2⟩:=hval i v n1
  obtain⟨r1,r2,r3⟩:=TF ok n2 q2
  obtain⟨c,s1,s2⟩:=r3 j xd hj
  have hjs:j<sz:=by rw[<-hsz e' (Zk hi')];exact(v0.1 hj).1
  have hil:i<parts.length:=(v0.1 q1).1
  refine⟨c,?_,?_⟩
  .rw[dw (qm w _),f3]
   have hlt:0+i*sz+j<(0+(parts.map λp=>a.eval p.2).length)*sz:=by
    simp only[ZU,Zs]
    calc i*sz+j<i*sz+sz:=by omega
     _=(i+1)*sz:=by grind
     _<=parts.length*sz:=ZI _ hil
   rw[if_pos ⟨by simp,hlt⟩]
   have hdiv:(0+i*sz+j)/sz=i:=by
    rw[Zs,Z5,Nat.add_mul_div_right _ _ ht.p,Nat.div_eq_of_lt hjs];omega
   have hmod:(0+i*sz+j)%sz=j:=by
    rw[Zs,Z5,Z7];exact Z8 hjs
   simp_all
  have h9:=mX ok s2 n3
  exact bP (λb hb=>Below.heap_alloc _ _ b (ok.hb hb)) (λb hb=>(Fi ok hl (.cells r e) parts.length).H hb) _ _ h9
theorem X4{by_:Nat}{zd:List D}{k k':IntKind}{c:Int}[ht:da P t e sz by_][he:TyE P e zd](hc:n<=c)(hb:(by_:Int)*c<=281474976710656)(h63:c<=9223372036854775807):
 AWN P ⟨d,.makeSlice t x y,ty,ps,af,gd⟩ [(x,.v (.c (.d g (.i k n)))),(y,.v (.c (.d g' (.i k' c))))] [] (.v (.c (.w l n))) [(l,.row e sz (ZP n zd) ζ ζ)]:=
 xN λcx E a w ok hn _ hl=>by
  obtain⟨ii,zz,i1,i2,i3,i4,i5⟩:=ht.i
  obtain⟨i',z',j1,j2,j3⟩:=he.h
  rw[i1] at j1;cases j1
  rw[i4] at j2;cases j2
  have h1:=fZ (hn x _ (.head _))
  have h2:=fZ (hn y _ (.tail _ (.head _)))
  have hzl:=(w8 (w:=w) (F:=λ_=>True) j3).1
  have hzd:zd.length=sz:=by rw[<-hzl];simpa using i5
  have hsz:∀x∈ZP n zd,x.length=sz:=λx hx=>by simp_all
  refine⟨.slice (ς ⟨w.heap.size,0,ξ⟩) n c.toNat,.cells (madeCells zz.cells (c.toNat*sz)) e,c.toNat,?_,⟨_,_,wK _ _ _ _,rfl⟩,?_⟩
  .have:=run_make (P:=P) w t e ii zz ht.u i1 i4 k k' n c oaa hc (by simp_all) h63
   simp[execOp,h1,h2,this,i2]
  refine⟨_,_,_,wK _ _ _ _,qm _ _,by simp[size_madeCells],by simp;omega,by unfold maxLen;omega,hsz,?_,λ_=>uX ok _ _,(λh=>by cases h),θ⟩
  refine tZ hsz λi e' hi'=>lA λj xd hj=>?_
  have hin:i<n:=by simpa using(v0.1 hi').1
  have he':e'=zd:=List.eq_of_mem_replicate (Zk hi')
  subst he'
  obtain⟨u,u1,u2⟩:=(w8 (w:=w.alloc (.cells (madeCells zz.cells (c.toNat*sz)) e)) (F:=(E.new l w.heap.size c.toNat).H ζ) j3).2 j xd hj
  have hjs:j<sz:=by rw[<-hzd];exact(v0.1 hj).1
  refine⟨u,?_,u2⟩
  rw[dw (qm w _)]
  have hlt:0+i*sz+j<c.toNat*sz:=by
   calc 0+i*sz+j<i*sz+sz:=by omega
    _=(i+1)*sz:=by grind
    _<=c.toNat*sz:=ZI _ oaa
  have hmod:(0+i*sz+j)%zz.cells.size=j:=by
   rw[i5,Zs,Z5,Z7];exact Z8 hjs
  have hzj:zz.cells[j]?=ς u:=by simpa using u1
  have hzs:j<zz.cells.size:=by rw[i5];exact hjs
  simp only[madeCells,Array.getElem?_map,Array.getElem?_range,if_pos hlt,Option.map_some,hmod]
  simp_all
end
class TyN(P:Program)(t:TypeId)(n:outParam Nat):Prop where
 n:∃i,P.info? t=ς i/\i.size=n
theorem c8(w:World)(b k:Nat)(cs:Array Value)(h:k≠b):(w.setRow b cs).heap[k]?=w.heap[k]?:=by
 simp only[World.setRow,Array.getElem?_modify]
 grind
theorem fC{arr:Array Value}(cs:Array Value)(h:w.heap[b]?=ς (.cells arr t (0,0))):(w.setRow b cs).heap[b]?=ς (.cells cs t (0,0)):=
 setRow_heap w b arr cs t (0,0) h
section
variable{P:Program}{N:Nat}{d:Option Tmp}{ty:TypeId}{ps:String}{af:Array Edge}{gd:Option (Nat×Bool)}{x y z:Operand}{st:St}
theorem iQ{cx:Cx}{o c:Nat}{cs:Array Value}(ok:cF cx E w)(hr:E.r o=ς (b,c))(hF:¬E.F b):gb E w E (w.setRow b cs):=
 ⟨λ_ _ h=>h,λ_ _ h=>h,λg k hk=>c8 w b k cs (λe=>by
  subst e
  cases g
  .exact hF hk
  .exact hF (ok.gf _ hk)),λl k hk=>⟨hk,c8 w b k cs (λe=>by subst e;exact(ok.sf.tb l k hk).2.2.1 o c hr)⟩,
  λk hk=>⟨hk,.of_eq (c8 w b k cs (λe=>by subst e;exact(ok.sf.zb k hk).2.2.1 o c hr))⟩,rfl⟩
theorem wm.setRow{cx:Cx}{o c:Nat}{cs:Array Value}(s:wm cx E w)(hr:E.r o=ς (b,c)):wm cx E (w.setRow b cs):=by
 have hsz:(w.setRow b cs).heap.size=w.heap.size:=by simp
 refine⟨λl k h=>?_,s.tt,λk h=>?_,λk h=>?_,s.ze⟩
 .obtain⟨h1,h2,h3,h4⟩:=s.tb l k h
  exact⟨⟨by rw[hsz];exact h1.1,h1.2⟩,h2,h3,h4.of_eq (c8 w b k cs (λe=>by simp_all))⟩
 .obtain⟨h1,h2,h3,h4⟩:=s.zc k h
  exact⟨by simp_all,h2,h3,h4.of_eq (c8 w b k cs (λe=>by simp_all))⟩
 obtain⟨h1,h2,h3,h4⟩:=s.zc k h
 exact(s.zs k h).trans (.of_eq (c8 w b k cs (λe=>by simp_all)))
theorem qv{cx:Cx}{o c:Nat}{ob':Ob}{cs:Array Value}(hR:Rel N cx E st a w)(hr:E.r o=ς (b,c))(hF:¬E.F b)(h':cg E (w.setRow b cs) o ob'):Rel N cx E ⟨st.sl,(o,ob')::st.ob,st.nx⟩ a (w.setRow b cs):=by
 have hk:=iQ (cs:=cs) (w:=w) hR.ok hr hF
 have hsz:(w.setRow b cs).heap.size=w.heap.size:=by simp
 refine⟨⟨λk hk=>by rw[hsz];exact hR.ok.fb k hk,hR.ok.gf,hR.ok.gn,λo b c h=>by rw[hsz];exact hR.ok.rb o b c h,hR.ok.inj,hR.ok.os,hR.ok.tape,hR.ok.output,by rw[hsz];exact hR.ok.size,λk hk hW=>?_,hR.ok.pin,hR.ok.ff,λk hg hk'=>(hR.ok.gc k hg hk').of_eq (c8 w b k cs (λe=>hF (by simp_all))),hR.ok.sf.setRow hr⟩,hR.dom,λl ob hl=>?_,λk=>iw hk (hR.sl k),hR.dfr,hR.size,hR.td⟩
 .rw[c8 _ _ _ _ (λe=>by
   subst e
   rcases hR.ok.rw hr with h|h
   .omega
   simp_all)]
  exact hR.ok.block k hk hW
 by_cases ho:o=l
 .subst ho;rw[bM] at hl;simp_all
 rw[a9 _ _ ho] at hl
 exact fy hk (λb' c' h=>c8 _ _ _ _ (λe=>ho (by subst e;exact hR.ok.inj _ _ _ _ _ hr h))) (λ_ _ _ h=>h) (hR.obs l ob hl)
theorem oB{arr:Array Value}[ht:TyN P t n](hu:u.cells.size=n)(h1:∀c∈u.cells.toList,c.oneCell'=ζ)(hh:w.heap[b]?=ς (.cells arr vt (0,0)))(hk:k+n<=arr.size):
 (Instr.storeAt t (.pointer (ς ⟨b,k,ξ⟩)) u).run P w= .ok () (w.setRow b (arr.toList.take k++u.cells.toList++arr.toList.drop (k+n)).toArray):=by
 obtain⟨i,hi,hn⟩:=ht.n
 have:=run_storeCells_at (P:=P) b k vt u.cells.toList 0 arr w hh (by simp_all) h1
 simp only[ZX,Array.length_toList,hu] at this
 simp[Instr.storeAt,Instr.sureAddr,storeVar,d7 hi,hn,hu,this]
theorem PD{v:V}{ns:List C}(h:vcs v=ς ns)(hs:ns.all C.sto=ζ)(hv:cvV E w v u):∀c∈u.cells.toList,c.oneCell'=true:=by
 have hc:=GD h hv
 have key:∀(ns:List C) (us:Lae),ns.all C.sto=ζ->CV E w ns us->∀c∈us,c.oneCell'=true:=by
  intro ns
  induction ns with
  |nil=>intro us _ hc;cases us with
   |nil=>simp
   |cons _ _=>exact hc.elim
  |cons n ns ih=>
   intro us hs hc
   cases us with
   |nil=>exact hc.elim
   |cons u us=>
    simp only[ZR,hV] at hs
    intro c hm
    rcases Zp.1 hm with rfl|hm
    .exact(K4 hs.1 hc.1).1
    exact ih us hs.2 hc.2 c hm
 grind
theorem je{us vs:Lae}(hn:us.length=n)(hk:k+n<=vs.length)(i:Nat):(vs.take k++us++vs.drop (k+n))[i]?=if k<=i/\i<k+us.length then us[i-k]? else vs[i]?:=by
 subst hn
 have hk':(vs.take k).length=k:=by simp;omega
 grind
theorem Ox{o:Nat}{cs' ns:List C}{v:V}[ht:TyN P t n](hx:opT st.sl x= .v (.c (.p o k)))(hy:opT st.sl y= .v v)(ho:go st.ob o=ς (.var vt cs))(hv:vcs v=ς ns)(hn:d0 ns.length n=ζ)(hst:ns.all C.sto=ζ)(hs:oA k ns cs=ς cs'):AWO P N ⟨ξ,.store t x y,ty,ps,af,gd⟩ st ⟨st.sl,(o,.var vt cs')::st.ob,st.nx⟩:=by
 intro cx E a w hR
 have h1:=hR.op x;rw[hx] at h1
 have h2:=hR.op y;rw[hy] at h2
 obtain⟨b,c,hr,hu⟩:=h1
 obtain⟨b',c',arr,hr',hh,hcv,hF⟩:=hR.obs o _ ho
 rw[hr] at hr';cases hr'
 have hvc:=GD hv h2
 have hl1:=im hvc
 have hl2:=im hcv
 have hnn:=Zo hn
 have hle:=(nY hs).2
 have hsz:(a.eval y).cells.size=n:=by simp at hl1;omega
 have hrun:=oB (P:=P) (t:=t) (n:=n) (k:=k) hsz (PD hv hst h2) hh (by simp_all)
 unfold Oper.wp
 simp only[execOp,hu,Sem.run_bind,hrun,Result.andThen_ok,Sem.run_pure,Oper.upon_skip,Act.put]
 refine⟨E,qv hR hr hF ⟨b,c,_,hr,fC _ hh,?_,hF⟩⟩
 have hk:=iQ (cs:=(arr.toList.take k++(a.eval y).cells.toList++arr.toList.drop (k+n)).toArray) (w:=w) hR.ok hr hF
 refine pN hk (zj hs hvc hcv ?_ λi=>?_)
 .grind
 rw[show(arr.toList.take k++(a.eval y).cells.toList++arr.toList.drop (k+n)).toArray.toList=arr.toList.take k++(a.eval y).cells.toList++arr.toList.drop (k+n) from rfl]
 exact je oaa oaa i
theorem eu{w:World}{F:Nat->Prop}:∀{xs:Lad} {b k:Nat},rdLL w F xs b k↔rdL w F xs.flatten b k
 |[],b,k=>by rfl
 |e::es,b,k=>by
  rw[rdLL,eu,ZW]
  constructor
  .rintro⟨h1,h2⟩
   refine lA λj d hj=>?_
   by_cases hje:j<e.length
   .rw[Zt hje] at hj;exact iA h1 hj
   rw[Zr oaa] at hj
   have:=iA h2 hj
   grind
  intro h
  refine⟨lA λj d hj=>?_,lA λj d hj=>?_⟩
  .have hje:j<e.length:=(v0.1 hj).1
   exact iA h (by grind)
  have:=iA (j:=e.length+j) h (by rw[Zr oaa];simpa using hj)
  grind
theorem eh{xs:Lad}(h:∀e∈xs,e.length=sz):xs.flatten.length=xs.length*sz:=by
 rw[List.length_flatten];exact Nc h
theorem uQ{sz:Nat}(hp:0<sz):∀{xs:Lad} (h:∀e∈xs,e.length=sz) (i j:Nat),j<sz->xs.flatten[i*sz+j]?=(xs[i]?).bind (·[j]?)
 |[],_,i,j,_=>by simp
 |e::es,h,0,j,hj=>by
  grind
 |e::es,h,i+1,j,hj=>by
  have he:e.length=sz:=h e (by simp)
  rw[ZW,Zr (by grind),he,show(i+1)*sz+j-sz=i*sz+j from by grind,
   uQ hp (λx hx=>h x (by simp[hx])) i j hj]
  simp
theorem Ow{o:Nat}{rt:TypeId}{el' ns:List D}{g g':Bool}{v:V}[ht:TyN P t n](hx:opT st.sl x= .v (.c (.e o sz i j)))(hy:opT st.sl y= .v v)(ho:go st.ob o=ς (.row rt sz els g ζ))(hv:vD v=ς (ns,g'))(hn:d0 ns.length n=ζ)(he:els[i]?=ς el)(hs:oA j ns el=ς el'):
 AWO P N ⟨ξ,.store t x y,ty,ps,af,gd⟩ st ⟨st.sl,(o,.row rt sz (els.set i el') (g&&g') ζ)::st.ob,st.nx⟩:=by
 intro cx E a w hR
 have h1:=hR.op x;rw[hx] at h1
 have h2:=hR.op y;rw[hy] at h2
 obtain⟨b,c,hr,hu⟩:=h1
 obtain⟨b',c',arr,hr',hh,ha,hlc,hmx,hes,hrd,hFm,_⟩:=hR.obs o _ ho
 rw[hr] at hr';cases hr'
 have hF:=hFm rfl
 obtain⟨v1,v2,v3⟩:=TF hR.ok hv h2
 have hnn:=Zo hn
 have hil:i<els.length:=(v0.1 he).1
 have hel:el.length=sz:=hes el (Zk he)
 obtain⟨hsp,hle⟩:=nY hs
 have hel':el'.length=sz:=by rw[hsp];simp;omega
 have hbound:i*sz+j+n<=arr.size:=by
  rw[ha]
  calc i*sz+j+n<=i*sz+sz:=by omega
   _=(i+1)*sz:=by grind
   _<=c*sz:=ZI _ oaa
 have hrun:=oB (P:=P) (t:=t) (n:=n) (k:=i*sz+j) oaa v2 hh hbound
 unfold Oper.wp
 simp only[execOp,hu,Sem.run_bind,hrun,Result.andThen_ok,Sem.run_pure,Oper.upon_skip,Act.put]
 have hk:=iQ (cs:=(arr.toList.take (i*sz+j)++(a.eval y).cells.toList++arr.toList.drop (i*sz+j+n)).toArray) (w:=w) hR.ok hr hF
 have hes':∀e∈els.set i el',e.length=sz:=λe hm=>by
  grind
 refine⟨E,qv hR hr hF ⟨b,c,_,hr,fC _ hh,?_,by simp_all,hmx,hes',?_,λ_=>hF,(λh=>by cases h),θ⟩⟩
 .grind
 refine tZ hes' λi' e' hi'=>lA λj' xd hj'=>?_
 rw[dw (fC _ hh)]
 have hj'l:j'<sz:=by rw[<-hes' e' (Zk hi')];exact(v0.1 hj').1
 rw[List.getElem?_toArray,je (by simp;omega) (by simp;omega)]
 have hlen:(a.eval y).cells.toList.length=n:=by simp;omega
 rw[hlen,Zs]
 rw[List.getElem?_set] at hi'
 by_cases hii:i=i'
 .subst hii
  rw[if_pos rfl,if_pos hil] at hi'
  cases hi'
  rw[CW hs] at hj'
  by_cases hin:j<=j'/\j'<j+ns.length
  .rw[if_pos hin] at hj'
   obtain⟨u,u1,u2⟩:=v3 _ _ hj'
   refine⟨u,?_,?_⟩
   .grind
   exact bP (hk.heap _) (hk.H _) _ _ (mX hR.ok u2 (by simp))
  rw[if_neg hin] at hj'
  obtain⟨u,u1,u2⟩:=iA (ph hrd hes he) hj'
  refine⟨u,?_,?_⟩
  .rw[if_neg oaa];rw[dw hh] at u1;simp_all
  exact bP (hk.heap _) (hk.H _) _ _ (mX hR.ok u2 (by simp_all))
 rw[if_neg hii] at hi'
 obtain⟨u,u1,u2⟩:=iA (ph hrd hes hi') hj'
 refine⟨u,?_,?_⟩
 .have hel'':j'<sz:=hj'l
  rw[if_neg ?_]
  .rw[dw hh] at u1;simp_all
  rintro⟨k1,k2⟩
  rcases Nat.lt_or_gt_of_ne hii with h|h
  .have:(i+1)*sz<=i'*sz:=ZI _ h
   grind
  have:(i'+1)*sz<=i*sz:=ZI _ h
  grind
 exact bP (hk.heap _) (hk.H _) _ _ (mX hR.ok u2 (by simp_all))
end
def C.has(o:Nat):C->Bool
 | .w l _| .s l _ _ _| .p l _| .e l _ _ _| .wn l _=>d0 l o
 |_=>η
def Ae(o:Nat):List C->Bool
 |[]=>η
 |c::cs=>c.has o||Ae o cs
def V.has(o:Nat):V->Bool
 | .c x=>x.has o
 | .agg cs=>Ae o cs
def DY(o:Nat):List V->Bool
 |[]=>η
 |c::cs=>c.has o||DY o cs
def T.has(o:Nat):T->Bool
 | .v x=>x.has o
 | .tup ts=>DY o ts
 | .any=>η
def gI(o:Nat):Lab->Option Lab
 |[]=>ς []
 |(k,t)::r=>match gI o r,t.has o with
  |some r',ζ=>ς ((k,.any)::r')
  |some r',η=>ς ((k,t)::r')
  |none,_=>ξ
def Af(o:Nat):List C->Option (List C)
 |[]=>ς []
 |c::r=>match Af o r,c.has o with
  |some r',ζ=>ς (.any::r')
  |some r',η=>ς (c::r')
  |none,_=>ξ
def gP(o:Nat):Laa->Option Laa
 |[]=>ς []
 |(k,.var t cs)::r=>match gP o r,Af o cs with
  |some r',ς cs'=>ς ((k,.var t cs')::r')
  |_,_=>ξ
 |(k,.row t sz els g m)::r=>match gP o r with
  |some r'=>ς ((k,.row t sz els g m)::r')
  |none=>ξ
 |(k,.rown t sz els g)::r=>match gP o r with
  |some r'=>ς ((k,.rown t sz els g)::r')
  |none=>ξ
 |(k,.abs l y)::r=>match gP o r with
  |some r'=>ς ((k,.abs l y)::r')
  |none=>ξ
theorem qj{o:Nat}:∀{sl sl':Lab},gI o sl=ς sl'->∀k,gt sl' k= .any\/(gt sl' k=gt sl k/\(gt sl k).has o=η)
 |[],sl',h,k=>by simp[gI] at h;subst h;exact .inl rfl
 |(j,t)::r,sl',h,k=>by
  simp only[gI] at h
  cases h1:gI o r with
  |none=>simp_all
  |some r'=>
   have ih:=qj h1 k
   cases h2:t.has o with
   |true=>
    simp[h1,h2] at h;subst h
    by_cases hj:j=k
    .subst hj;rw[cG];simp_all
    rw[b7 _ _ hj,b7 _ _ hj];exact ih
   |false=>
    simp[h1,h2] at h;subst h
    by_cases hj:j=k
    .subst hj;rw[cG,cG];simp_all
    rw[b7 _ _ hj,b7 _ _ hj];exact ih
def Env.upd(E:Env)(o b c:Nat):Env:={E with r:=λl=>if l=o then ς (b,c) else E.r l}
structure eg(o:Nat)(E:Env)(w:World)(E':Env)(w':World):Prop where
 r:∀l x,l≠o->E.r l=ς x->E'.r l=ς x
 H:∀(g:Bool) b,E.H g b->E'.H g b
 heap:∀(g:Bool) b,E.H g b->w'.heap[b]?=w.heap[b]?
 T:∀l b,E.T l b->E'.T l b/\w'.heap[b]?=w.heap[b]?
 Z:∀b,E.Z b->E'.Z b/\oH w w' b
 n:∀l,l≠o->(E'.n l↔E.n l)
theorem eg.HH{o:Nat}(x:eg o E w E' w'):∀(g:Gr) b,E.H g b->E'.H g b
 | .b g,b,h=>x.H g b h
 | .s n,b,h| .t n,b,h=>(x.T n b h).1
theorem eg.hp{o:Nat}(x:eg o E w E' w'):∀(g:Gr) b,E.H g b->w'.heap[b]?=w.heap[b]?
 | .b g,b,h=>x.heap g b h
 | .s n,b,h| .t n,b,h=>(x.T n b h).2
theorem kU{o:Nat}(x:eg o E w E' w')(hb:w'.heap[b]?=w.heap[b]?):∀{g:Gr},qR E w els b g->qR E' w' els b g
 | .b _,_=>trivial
 | .s n,h| .t n,h=>h.keep hb (λk hk=>(x.T n k hk).2) λk hk=>(x.T n k hk).1
theorem wm.turn{cx:Cx}(s:wm cx E w){o c:Nat}(h0:E.r o=ς (b,c))(hT:E'.T=E.T)(hZ:E'.Z=E.Z)(hF:∀b,E'.F b->E.F b\/w.heap.size<=b)(hr:∀o b c,E'.r o=ς (b,c)->(∃o' c',E.r o'=ς (b,c'))\/w.heap.size<=b)(hs:w.heap.size<=w'.heap.size)(hh:∀k,k<w.heap.size->k≠b->w'.heap[k]?=w.heap[k]?):wm cx E' w':=by
 refine⟨λl k h=>?_,λl l' k h h'=>?_,λk h=>?_,λk h=>?_,λk h=>s.ze k (hZ▸h)⟩
 .rw[hT] at h
  obtain⟨⟨h1,h2⟩,h3,h4,h5⟩:=s.tb l k h
  refine⟨⟨by omega,h2⟩,λhf=>?_,λo c ho=>?_,h5.of_eq (hh k h1 (λe=>by simp_all))⟩
  .grind
  grind
 .rw[hT] at h h';exact s.tt l l' k h h'
 .obtain⟨⟨h1,h2,h2'⟩,h3,h4,h5⟩:=s.zc k h
  refine⟨⟨h1,by omega,h2'⟩,λhf=>?_,λo c ho=>?_,h5.of_eq (hh k h2 (λe=>by simp_all))⟩
  .grind
  grind
 obtain⟨⟨h1,h2,h2'⟩,h3,h4,h5⟩:=s.zc k h
 exact(s.zs k h).trans (.of_eq (hh k h2 (λe=>by simp_all)))
theorem eR{o:Nat}(h:d0 l o=η):l≠o:=λe=>by simp_all
theorem XC{o:Nat}(x:eg o E w E' w'):∀{g:Gr} {d:D} {u:Value},gD E w g d u->gD E' w' g d u
 | .b g,d,u,h=>bP (x.hp (.b g)) (x.HH (.b g)) d u h
 | .s g,d,u,h=>bP (x.hp (.s g)) (x.HH (.s g)) d u h
 | .t l,y,u,h=>h.keep (λb hb=>(x.T l b hb).2) λb hb=>(x.T l b hb).1
theorem xU{o:Nat}(x:eg o E w E' w'):∀{c:C} {u:Value},c.has o=η->cvC E w c u->cvC E' w' c u
 | .d g d,u,_,h=>XC x h
 | .w l n,u,hl,⟨b,c,h,hu⟩=>⟨b,c,x.r _ _ (eR hl) h,hu⟩
 | .s l sz off len,u,hl,⟨A,c,b,k,h,hu⟩=>⟨A,c,b,k,x.r _ _ (eR hl) h,hu⟩
 | .p l k,u,hl,⟨b,c,h,hu⟩=>⟨b,c,x.r _ _ (eR hl) h,hu⟩
 | .e l sz i j,u,hl,⟨b,c,h,hu⟩=>⟨b,c,x.r _ _ (eR hl) h,hu⟩
 | .q g y j,u,_,⟨b,k,hu,hb,h⟩=>⟨b,k,hu,x.HH g b hb,rdL_mono (x.hp g) (x.HH g) y b k hb h⟩
 | .fn f,u,_,h=>h
 | .nil,u,_,h=>h
 | .any,u,_,_=>trivial
 | .r l d,u,_,h=>bP (λb hb=>(x.T l b hb).2) (λb hb=>(x.T l b hb).1) d u h
 | .z d,u,_,h=>qy (λb hb=>(x.Z b hb).2) (λb hb=>(x.Z b hb).1) d u h
 | .zq y j,u,_,⟨b,k,hu,hb,h⟩=>⟨b,k,hu,(x.Z b hb).1,rsL_mono (λb hb=>(x.Z b hb).2) (λb hb=>(x.Z b hb).1) y b k hb h⟩
 | .wn l n,u,hl,.inl ⟨h1,h2⟩=>.inl ⟨(x.n l (eR hl)).2 h1,h2⟩
 | .wn l n,u,hl,.inr ⟨h1,b,c,h,hu⟩=>.inr ⟨λk=>h1 ((x.n l (eR hl)).1 k),b,c,x.r _ _ (eR hl) h,hu⟩
theorem EM{o:Nat}{E E':Env}{w w':World}(x:eg o E w E' w'):∀{cs:List C} {us:Lae},Ae o cs=η->CV E w cs us->CV E' w' cs us
 |[],[],_,_=>trivial
 |c::cs,u::us,hl,h=>by
  simp only[Ae,ZB] at hl
  exact⟨xU x hl.1 h.1,EM x hl.2 h.2⟩
 |[],_::_,_,h=>h.elim
 |_::_,[],_,h=>h.elim
theorem LF{o:Nat}(x:eg o E w E' w'){v:V}(hl:v.has o=η)(h:cvV E w v u):cvV E' w' v u:=by
 cases v with
 |c c=>exact xU x hl h
 |agg cs=>obtain⟨arr,hu,h⟩:=h;exact⟨arr,hu,EM x hl h⟩
theorem PM{o:Nat}{E E':Env}{w w':World}(x:eg o E w E' w'):∀{cs:List V} {us:Lae},DY o cs=η->VV E w cs us->VV E' w' cs us
 |[],[],_,_=>trivial
 |c::cs,u::us,hl,h=>by
  simp only[DY,ZB] at hl
  exact⟨LF x hl.1 h.1,PM x hl.2 h.2⟩
 |[],_::_,_,h=>h.elim
 |_::_,[],_,h=>h.elim
theorem xV{o:Nat}(x:eg o E w E' w'){t:T}(hl:t.has o=η)(h:cvT E w t u):cvT E' w' t u:=by
 cases t with
 |v v=>exact LF x hl h
 |tup ts=>obtain⟨arr,hu,h⟩:=h;exact⟨arr,hu,PM x hl h⟩
 |any=>trivial
theorem pG{o:Nat}{E E':Env}{w w':World}(x:eg o E w E' w'):∀{cs cs':List C} {us:Lae},Af o cs=ς cs'->CV E w cs us->CV E' w' cs' us
 |[],cs',us,h,hc=>by simp[Af] at h;subst h;cases us with
  |nil=>trivial
  |cons _ _=>exact hc.elim
 |c::cs,cs',us,h,hc=>by
  cases us with
  |nil=>exact hc.elim
  |cons u us=>
   simp only[Af] at h
   cases h1:Af o cs with
   |none=>simp_all
   |some r=>
    cases h2:c.has o with
    |true=>simp[h1,h2] at h;subst h;exact⟨θ,pG x h1 hc.2⟩
    |false=>simp[h1,h2] at h;subst h;exact⟨xU x h2 hc.1,pG x h1 hc.2⟩
theorem n9{o:Nat}:∀{ob ob':Laa},gP o ob=ς ob'->∀{l:Nat} {x:Ob},go ob' l=ς x->
 (∃t cs cs',go ob l=ς (.var t cs)/\Af o cs=ς cs'/\x= .var t cs')\/(∃t sz els g m,go ob l=ς (.row t sz els g m)/\x= .row t sz els g m)\/(∃t sz els g,go ob l=ς (.rown t sz els g)/\x= .rown t sz els g)\/(∃k y,go ob l=ς (.abs k y)/\x= .abs k y)
 |[],ob',h,l,x,hl=>by simp[gP] at h;subst h;cases hl
 |(k,.var t cs)::r,ob',h,l,x,hl=>by
  simp only[gP] at h
  cases h1:gP o r with
  |none=>simp_all
  |some r'=>
   cases h2:Af o cs with
   |none=>simp_all
   |some cs'=>
    simp[h1,h2] at h;subst h
    by_cases hk:k=l
    .subst hk;rw[bM] at hl ⊢;grind
    rw[a9 _ _ hk] at hl ⊢;exact n9 h1 hl
 |(k,.row t sz els g m)::r,ob',h,l,x,hl=>by
  simp only[gP] at h
  cases h1:gP o r with
  |none=>simp_all
  |some r'=>
   simp[h1] at h;subst h
   by_cases hk:k=l
   .subst hk;rw[bM] at hl ⊢;grind
   rw[a9 _ _ hk] at hl ⊢;exact n9 h1 hl
 |(k,.rown t sz els g)::r,ob',h,l,x,hl=>by
  simp only[gP] at h
  cases h1:gP o r with
  |none=>simp_all
  |some r'=>
   simp[h1] at h;subst h
   by_cases hk:k=l
   .subst hk;rw[bM] at hl ⊢;grind
   rw[a9 _ _ hk] at hl ⊢;exact n9 h1 hl
 |(k,.abs j y)::r,ob',h,l,x,hl=>by
  simp only[gP] at h
  cases h1:gP o r with
  |none=>simp_all
  |some r'=>
   simp[h1] at h;subst h
   by_cases hk:k=l
   .subst hk;rw[bM] at hl ⊢;grind
   rw[a9 _ _ hk] at hl ⊢;exact n9 h1 hl
section
variable{P:Program}{N:Nat}{d:Tmp}{ty:TypeId}{ps:String}{af:Array Edge}{gd:Option (Nat×Bool)}{x y z:Operand}{st:St}
inductive Src (ob:Laa):C->Lad->Bool->Prop
 |d {g:Bool} {ys:Lad}:Src ob (.d g (.l ys)) ys g
 |nil:Src ob .nil [] ζ
 |w {o n:Nat} {t sz:Nat} {els:Lad} {g m:Bool} (h:go ob o=ς (.row t sz els g m)) (hn:els.length=n):Src ob (.w o n) els g
 |s {o off len:Nat} {t sz:Nat} {els:Lad} {g m:Bool} (h:go ob o=ς (.row t sz els g m)) (hn:off+len<=els.length):Src ob (.s o sz off len) ((els.drop off).take len) g
 |wn {o n:Nat} {t sz:Nat} {els:Lad} {g:Bool} (h:go ob o=ς (.rown t sz els g)) (hn:els.length=n):Src ob (.wn o n) els g
theorem A3(hob:∀l x,go nob l=ς x->cg E w l x){c:C}{g:Bool}(h:Src nob c ys g)(hu:cvC E w c u):
 ∃A k,u= .slice A ys.length k/\ys.length<=k/\(ys=[]\/∃b off,A=ς ⟨b,off,ξ⟩/\rdLL w (E.H g) ys b off):=by
 cases h with
 |d=>
  simp only[cvC,gD,rdD] at hu
  grind
 |nil=>have:u= .slice ξ 0 0:=hu;simp_all
 |w h hn=>
  obtain⟨b,c,hr,rfl⟩:=hu
  obtain⟨b',c',arr,hr',hh,ha,hlc,hmx,hes,hrd,_⟩:=hob _ _ h
  rw[hr] at hr';cases hr'
  exact⟨_,_,by rw[hn],hlc,.inr ⟨b,0,rfl,hrd⟩⟩
 |s h hn=>
  rename_i o off len t sz els m
  obtain⟨A,c,b,k,hr,rfl,hlc',_,hA⟩:=hu
  obtain⟨b',c',arr,hr',hh,ha,hlc,hmx,hes,hrd,_⟩:=hob _ _ h
  rw[hr] at hr';cases hr'
  have hl:((els.drop off).take len).length=len:=by simp;omega
  refine⟨A,c,by rw[hl],by omega,?_⟩
  rcases hA with h0|h0
  .exact .inl (ZS oaa)
  right;exact⟨b,off*sz,h0,by simpa using lH len (vV hrd hes off)⟩
 |wn h hn=>
  rcases hu with⟨h0,rfl,rfl⟩|⟨h0,b,c,hr,rfl⟩
  .simp_all
  rcases hob _ _ h with⟨h1,_⟩|⟨_,b',c',arr,hr',hh,ha,hlc,hmx,hes,hrd,_⟩
  .simp_all
  rw[hr] at hr';cases hr'
  exact⟨_,_,by rw[hn],hlc,.inr ⟨b,0,rfl,hrd⟩⟩
theorem K3{cx:Cx}(hR:Rel N cx E st a w){c:C}{g:Bool}(h:Src st.ob c ys g)(hu:cvC E w c u):
 ∃A k,u= .slice A ys.length k/\ys.length<=k/\(ys=[]\/∃b off,A=ς ⟨b,off,ξ⟩/\rdLL w (E.H g) ys b off):=
 A3 (λl x h=>hR.obs l x h) h hu
theorem qz{base:Nat}{ty e:TypeId}{i:TypeInfo}{size:Nat}(w:World)(ht:P.underlying t=ς (.slice e))(hi:P.info? e=ς i){v:Value}{xs:Lae}(hown:w.ownsRow base e size v n xs)(c:Nat):(Builtin.append_ #[t,t] ty #[v,.slice ξ 0 c]).run P w= .ok v w:=by
 rcases hown.2 with⟨rfl,rfl⟩|⟨g,cap,cur,rfl,_,_,hnc,_⟩
 .simp[Builtin.append_,run_underlying ht,sizeOf,typeInfo,hi,Builtin.lenOf,Builtin.firstCells]
 simp[Builtin.append_,run_underlying ht,sizeOf,typeInfo,hi,Builtin.lenOf,Builtin.firstCells,hnc,storeCells]
theorem tc{F:Nat->Prop}{e:List D}(h:rdL w F e b k):∃us:Lae,us.length=e.length/\(∀(j:Nat) (u:Value),us[j]?=ς u->w.cell? ((⟨b,k,ξ⟩:Addr).add j)=ς u)/\
 (∀u∈us,u.oneCell'=ζ)/\∀(j:Nat) (xd:D),e[j]?=ς xd->∃u,us[j]?=ς u/\rdD w F xd u:=by
 obtain⟨us,h1,h2,h3⟩:=yC h
 refine⟨us,h1,λj u hj=>by rw[sm];simp_all,λu hu=>?_,h3⟩
 obtain⟨j,hj⟩:=Zx hu
 have hjl:j<us.length:=(v0.1 hj).1
 obtain⟨v,k1,k2⟩:=h3 j e[j] (Zl oaa)
 rw[hj] at k1;cases k1
 exact iS k2
theorem Ac{cx:Cx}(hR:Rel N cx E st a w){by_ o:Nat}{g gy:Bool}{c:C}[ht:da P t e sz by_](hrv:rsp o=η)(hd:d<N){cc:Nat}{arr:Array Value}(hr:E.r o=ς (b,cc))(hu:a.eval x= .slice (ς ⟨b,0,ξ⟩) n cc)(hh:w.heap[b]?=ς (.cells arr e (0,0)))(ha:arr.size=cc*sz)(hlc:els.length<=cc)(hmx:cc<=maxLen)(hes:∀e∈els,e.length=sz)(hrd:rdLL w (E.H g) els b 0)(hF:¬E.F b)(hy:opT st.sl y= .v (.c c))(hs:Src st.ob c ys gy)(hk:gI o st.sl=ς sl')(hkb:gP o st.ob=ς ob')(hn:els.length=n)(hsz:∀e∈ys,e.length=sz)(hb:(n+ys.length)*by_<=140737488355328)(h63:n+ys.length<=9223372036854775807):
 Oper.wp P ⟨ς d,.call ⟨.builtin .append,#[x,y],#[t,t]⟩,ty,ps,af,gd⟩ a w (λa' w'=>∃E',Rel N cx E' ⟨(d,.v (.c (.w o (n+ys.length))))::sl',(o,.row e sz (els++ys) (g&&gy) ζ)::ob',st.nx⟩ a' w') (λ_ _ _=>False):=by
 have h2:=hR.op y;rw[hy] at h2
 obtain⟨A,k,hv,hyk,hA⟩:=K3 hR hs h2
 obtain⟨ii,zz,i1,i2,i3,i4,i5⟩:=ht.i
 have hbl:=(hR.ok.rb o b cc hr)
 have hown:w.ownsRow 0 e sz (.slice (ς ⟨b,0,ξ⟩) n cc) n (arr.toList.take (n*sz)):=
  ⟨by simp_all,.inr ⟨b,cc,arr,rfl,ZA _,hh,by omega,hmx,ha,rfl⟩⟩
 have hsrc:∃news:Lae,news.length=ys.length*sz/\(∀u∈news,u.oneCell'=ζ)/\(∀(j:Nat) (xd:D),ys.flatten[j]?=ς xd->∃u,news[j]?=ς u/\rdD w (E.H gy) xd u)/\
  ∃v' w',(Builtin.append_ #[t,t] ty #[.slice (ς ⟨b,0,ξ⟩) n cc,.slice A ys.length k]).run P w= .ok v' w'/\w'.ownsRow 0 e sz v' (n+ys.length) (arr.toList.take (n*sz)++news)/\w.grownBy w' (ς b)/\v'≠.slice ξ 0 0/\(v'.ownBlock=ς b\/v'.ownBlock=ς w.heap.size):=by
  have hgood:∀ad,A=ς ad->∀news:Lae,news.length=ys.length*sz->(∀(j:Nat) (u:Value),news[j]?=ς u->w.cell? (ad.add j)=ς u)->(∀u∈news,u.oneCell'=ζ)->
   ∃v' w',(Builtin.append_ #[t,t] ty #[.slice (ς ⟨b,0,ξ⟩) n cc,.slice A ys.length k]).run P w= .ok v' w'/\w'.ownsRow 0 e sz v' (n+ys.length) (arr.toList.take (n*sz)++news)/\w.grownBy w' (ς b)/\v'≠.slice ξ 0 0/\(v'.ownBlock=ς b\/v'.ownBlock=ς w.heap.size):=by
   intro ad hAd news n1 n2 n3
   obtain⟨v',w',r1,r2,r3,r4,r5⟩:=run_append_own_at (P:=P) w 0 t ty e ii zz sz by_ ht.u i1 i4 i2 i3 i5 ht.p _ n _ hown ad ys.length k news n1 n2 n3 (by unfold maxLen;omega) hb (ZA _)
   exact⟨v',w',by simp_all,r2,r3,(λh=>by simp_all),r5⟩
  rcases hA with h0|⟨b2,off,rfl,hrd2⟩
  .subst h0
   refine⟨[],by simp,by simp,by simp,?_⟩
   cases A with
   |none=>exact⟨_,w,qz w ht.u i1 hown k,by simp_all,⟨rfl,rfl,rfl,Zu _,λ_ _ _=>rfl⟩,by simp,.inl rfl⟩
   |some ad=>simp_all
  obtain⟨us,q1,q2,q3,q4⟩:=tc (eu.1 hrd2)
  exact⟨us,by rw[q1,eh hsz],q3,q4,hgood _ rfl us (by rw[q1,eh hsz]) q2 q3⟩
 obtain⟨news,n1,n2,n3,v',w',r1,r2,r3,r4,r5⟩:=hsrc
 obtain⟨_,r2⟩:=r2
 rcases r2 with⟨rfl,_⟩|⟨bn,cap,cur,rfl,_,hhn,hcap,hcapm,hcur,htk⟩
 .simp_all
 unfold Oper.wp
 simp only[execOp,resolve,invoke,builtin,Sem.run_bind,Sem.run_pure,Result.andThen_ok,List.map_toArray,List.map_cons,List.map_nil,hu,hv,r1,Oper.upon_value]
 have hbn:bn=b\/bn=w.heap.size:=by simpa [Value.ownBlock] using r5
 have hsame:∀k,k<w.heap.size->k≠b->w'.heap[k]?=w.heap[k]?:=λk hk hne=>r3.block k hk (λe=>hne (by injection e))
 have hnF:¬E.F bn:=by
  rcases hbn with rfl|rfl
  .exact hF
  exact λh=>by have:=hR.ok.fb _ h;omega
 have hbig:bn<w'.heap.size:=by
  rcases ZF bn w'.heap.size with h|h
  .exact h
  simp_all
 have hnew:∀l bl cl,l≠o->E.r l=ς (bl,cl)->bl≠bn:=by
  intro l bl cl hne hl e
  subst e
  rcases hbn with h|h
  .subst h;exact hne (hR.ok.inj l o _ _ _ hl hr)
  have:=(hR.ok.rb l bl cl hl).1;omega
 have hHb:∀(g:Bool) k,E.H g k->k≠b/\k<w.heap.size:=λg k hk=>⟨λe=>by subst e;cases g;exact hF hk;exact hF (hR.ok.gf _ hk),hR.ok.hb hk⟩
 have kb:eg o E w (E.upd o bn cap) w':=⟨λl x hne hl=>by simp only[Env.upd];simp_all,λ_ _ h=>h,λg k hk=>hsame k (hHb g k hk).2 (hHb g k hk).1,λl k hk=>⟨hk,hsame k (hR.ok.sf.tb l k hk).1.1 (λe=>by subst e;exact(hR.ok.sf.tb l k hk).2.2.1 o _ hr)⟩,λk hk=>⟨hk,.of_eq (hsame k (hR.ok.sf.zb k hk).1.2.1 (λe=>by subst e;exact(hR.ok.sf.zb k hk).2.2.1 o _ hr))⟩,λ_ _=>Iff.rfl⟩
 refine⟨E.upd o bn cap,⟨λk hk=>Zy (hR.ok.fb k hk) r3.size,hR.ok.gf,hR.ok.gn,λl bl cl hl=>?_,λl l' bl cl cl' hl hl'=>?_,by rw[r3.os];exact hR.ok.os,by rw[r3.tape];exact hR.ok.tape,by rw[r3.output];exact hR.ok.output,Zz hR.ok.size r3.size,λk hk hW=>?_,λl xx hv hl=>by
  simp only[Env.upd] at hl
  split at hl
  .simp_all
  exact hR.ok.pin l xx hv hl,hR.ok.ff,λk hk hk'=>(hR.ok.gc k hk hk').of_eq (hsame k (hHb η k hk).2 (hHb η k hk).1),hR.ok.sf.turn hr rfl rfl (λ_ h=>.inl h) (λl bl cl hl=>by
  simp only[Env.upd] at hl
  grind) r3.size hsame⟩,λl xx hl=>?_,λl ob hl=>?_,λk=>?_,hR.dfr,by simpa [Act.put] using hR.size,hR.td⟩
 .simp only[Env.upd] at hl
  split at hl
  .rename_i elo
   cases hl
   refine⟨hbig,?_⟩
   rcases hbn with h|h
   .simp_all
   left;rw[h];exact .inl hR.ok.size
  have:=hR.ok.rb l bl cl hl;grind
 .simp only[Env.upd] at hl hl'
  split at hl<;>split at hl'
  .omega
  .grind
  .grind
  exact hR.ok.inj l l' bl cl cl' hl hl'
 .have hkb':k≠b:=λe=>by
   subst e;exact(hR.ok.rw hr).elim (λh=>by omega) hW
  rw[hsame k (by have:=hR.ok.size;omega) hkb'];exact hR.ok.block k hk hW
 .simp only[Env.upd] at hl
  split at hl
  .rename_i e;subst e;exact hR.dom _ _ hr
  exact hR.dom l _ hl
 .by_cases hlo:o=l
  .subst hlo
   rw[bM] at hl;cases hl
   have hall:∀e'∈els++ys,e'.length=sz:=λe' he'=>by
    grind
   refine⟨bn,cap,cur,by simp[Env.upd],hhn,hcur,by simp;omega,hcapm,hall,?_,λ_=>hnF,(λh=>by cases h),θ⟩
   rw[eu]
   refine lA λj xd hj=>?_
   rw[Zs,dw hhn]
   rw[List.flatten_append] at hj
   have hfl:els.flatten.length=n*sz:=by rw[eh hes,hn]
   have hxs:(arr.toList.take (n*sz)).length=n*sz:=by simp[ha];rw[Nat.min_eq_left oaa]
   have hcurj:∀u,(arr.toList.take (n*sz)++news)[j]?=ς u->cur[j]?=ς u:=by
    intro u hu
    rw[<-htk,ZQ] at hu
    split at hu
    .simp_all
    cases hu
   by_cases hjn:j<n*sz
   .rw[Zt oaa] at hj
    obtain⟨u,u1,u2⟩:=iA (eu.1 hrd) hj
    rw[Zs,dw hh] at u1
    refine⟨u,hcurj u ?_,bP (kb.heap _) (kb.H _) _ _ (mX hR.ok u2 (by simp_all))⟩
    grind
   rw[Zr oaa,hfl] at hj
   obtain⟨u,u1,u2⟩:=n3 _ _ hj
   refine⟨u,hcurj u ?_,bP (kb.heap _) (kb.H _) _ _ (mX hR.ok u2 (by simp))⟩
   grind
  rw[a9 _ _ hlo] at hl
  rcases n9 hkb hl with⟨t',cs,cs',k1,k2,rfl⟩|⟨t',sz',els',g',m',k1,rfl⟩|⟨t',sz',els',g',k1,rfl⟩|⟨j',y',k1,rfl⟩
  .obtain⟨bl,cl,arrl,l1,l2,l3,l4⟩:=hR.obs l _ k1
   have hne:bl≠b:=λe=>hlo (by subst e;exact hR.ok.inj _ _ _ _ _ hr l1)
   exact⟨bl,cl,arrl,kb.r _ _ (Ne.symm hlo) l1,(hsame bl (hR.ok.rb _ _ _ l1).1 hne).trans l2,pG kb k2 l3,l4⟩
  .obtain⟨bl,cl,arrl,l1,l2,l3,l4,l5,l6,l7,l8,l9⟩:=hR.obs l _ k1
   have hne:bl≠b:=λe=>hlo (by subst e;exact hR.ok.inj _ _ _ _ _ hr l1)
   have hb2:=hsame bl (hR.ok.rb _ _ _ l1).1 hne
   exact⟨bl,cl,arrl,kb.r _ _ (Ne.symm hlo) l1,hb2.trans l2,l3,l4,l5,l6,bS (kb.hp _) (kb.HH _) hb2 _ _ l7,l8,l9.1,kU kb hb2 l9.2⟩
  .rcases hR.obs l _ k1 with h|⟨l0,bl,cl,arrl,l1,l2,l3,l4,l5,l6,l7,l8⟩
   .exact .inl h
   have hne:bl≠b:=λe=>hlo (by subst e;exact hR.ok.inj _ _ _ _ _ hr l1)
   have hb2:=hsame bl (hR.ok.rb _ _ _ l1).1 hne
   exact .inr ⟨l0,bl,cl,arrl,kb.r _ _ (Ne.symm hlo) l1,hb2.trans l2,l3,l4,l5,l6,bS (kb.hp _) (kb.HH _) hb2 _ _ l7,l8.1,kU kb hb2 l8.2⟩
  rcases hR.obs l _ k1 with h|⟨l0,bl,cl,l1,l2,l3⟩
  .exact .inl h
  have hne:bl≠b:=λe=>hlo (by subst e;exact hR.ok.inj _ _ _ _ _ hr l1)
  have hb2:=hsame bl (hR.ok.rb _ _ _ l1).1 hne
  exact .inr ⟨l0,bl,cl,kb.r _ _ (Ne.symm hlo) l1,y'.st _ _ _ _ _ _ l2 (λk hk=>(kb.T _ k hk).1) hb2 (λk hk=>(kb.T _ k hk).2),l3⟩
 rw[eK (by rw[hR.size];exact hd)]
 by_cases hdk:d=k
 .subst hdk;rw[cG,if_pos rfl];exact⟨bn,cap,by simp[Env.upd],rfl⟩
 rw[b7 _ _ hdk,if_neg hdk]
 rcases qj hk k with h|⟨h,h'⟩
 .rw[h];trivial
 rw[h];exact xV kb h' (hR.sl k)
theorem Kj{by_ o:Nat}{g gy:Bool}{c:C}[ht:da P t e sz by_](hrv:rsp o=η)(hd:d<N)(hx:opT st.sl x= .v (.c (.w o n)))(hy:opT st.sl y= .v (.c c))(ho:go st.ob o=ς (.row e sz els g ζ))(hs:Src st.ob c ys gy)(hk:gI o st.sl=ς sl')(hkb:gP o st.ob=ς ob')(hn:els.length=n)(hsz:∀e∈ys,e.length=sz)(hb:(n+ys.length)*by_<=140737488355328)(h63:n+ys.length<=9223372036854775807):
 AWO P N ⟨ς d,.call ⟨.builtin .append,#[x,y],#[t,t]⟩,ty,ps,af,gd⟩ st ⟨(d,.v (.c (.w o (n+ys.length))))::sl',(o,.row e sz (els++ys) (g&&gy) ζ)::ob',st.nx⟩:=by
 intro cx E a w hR
 have h1:=hR.op x;rw[hx] at h1
 obtain⟨b,cc,hr,hu⟩:=h1
 obtain⟨b',c',arr,hr',hh,ha,hlc,hmx,hes,hrd,hFm,_⟩:=hR.obs o _ ho
 rw[hr] at hr';cases hr'
 exact Ac hR hrv hd hr hu hh ha hlc hmx hes hrd (hFm rfl) hy hs hk hkb hn hsz hb h63
end
inductive AV where
 |c (x:D)
 |agg (xs:List D)
inductive RC where
 |d (x:D)
 |own (ty sz:Nat) (els:Lad) (n:Nat)
 |nil
inductive RV where
 |c (x:RC)
 |agg (xs:List RC)
variable{res:List Go.AM.RV}
abbrev aI(n:Int):AV:=.c (.i .i64 n)
abbrev aB(b:Bool):AV:=.c (.b b)
abbrev aL(xs:Lad):AV:=.c (.l xs)
abbrev rB(b:Bool):RV:=.c (.d (.b b))
def DV(w:World)(F:Nat->Prop):List D->Lae->Prop
 |[],[]=>True
 |x::xs,u::us=>rdD w F x u/\DV w F xs us
 |_,_=>False
def avR(w:World)(F:Nat->Prop):AV->Value->Prop
 | .c x,u=>rdD w F x u
 | .agg xs,u=>∃arr,u= .agg arr/\DV w F xs arr.toList
def AR(w:World)(F:Nat->Prop):List AV->Lae->Prop
 |[],[]=>True
 |x::xs,u::us=>avR w F x u/\AR w F xs us
 |_,_=>False
def rcR(w:World)(G:Nat->Prop)(base:Nat):RC->Value->Lac->Prop
 | .d x,u,bs=>bs=[]/\rdD w G x u
 | .own ty sz els n,u,bs=>∃b c arr,bs=[(b,c)]/\u= .slice (ς ⟨b,0,ξ⟩) n c/\w.heap[b]?=ς (.cells arr ty (0,0))/\arr.size=c*sz/\els.length<=c/\c<=maxLen/\
  (∀e∈els,e.length=sz)/\rdLL w G els b 0/\¬G b/\base<=b
 | .nil,u,bs=>bs=[]/\u= .slice ξ 0 0
def Ci(w:World)(G:Nat->Prop)(base:Nat):List RC->Lae->Lac->Prop
 |[],[],bs=>bs=[]
 |r::rs,u::us,bs=>∃b1 b2,bs=b1++b2/\rcR w G base r u b1/\Ci w G base rs us b2
 |_,_,_=>False
def rvR(w:World)(G:Nat->Prop)(base:Nat):RV->Value->Lac->Prop
 | .c r,u,bs=>rcR w G base r u bs
 | .agg rs,u,bs=>∃arr,u= .agg arr/\Ci w G base rs arr.toList bs
def zY(w:World)(G:Nat->Prop)(base:Nat):List RV->Lae->Lac->Prop
 |[],[],bs=>bs=[]
 |r::rs,u::us,bs=>∃b1 b2,bs=b1++b2/\rvR w G base r u b1/\zY w G base rs us b2
 |_,_,_=>False
def wv(w:World)(G:Nat->Prop)(base:Nat):List RV->Value->Lac->Prop
 |[r],v,bs=>rvR w G base r v bs
 |rs,v,bs=>∃arr,v= .tuple arr/\zY w G base rs arr.toList bs
structure zk(w w':World)(W:Nat->Prop):Prop where
 os:w'.os=w.os
 tape:w'.tape=w.tape
 output:w'.output=w.output
 size:w.heap.size<=w'.heap.size
 block:∀b,b<w.heap.size->¬W b->w'.heap[b]?=w.heap[b]?
structure Fn(P:Program)(f:FuncId)(args:List AV)(res:List RV):Prop where
 enters:∀(vs:Array Value) (w:World),(callFunc f vs).run P w= .ok (.enter f vs) w
 calls:∀(F:Nat->Prop) (w:World) (vals:Array Value),(∀b,F b->b<w.heap.size)->TabsIn w->AR w F args vals.toList->
  Calls P f vals w λe w'=>∃v G bs,e= .returned v/\zk w w' (λ_=>False)/\(∀b,G b->w.heap.size<=b/\b<w'.heap.size/\eJ w' b)/\wv w' G w.heap.size res v bs/\(bs.map (·.1)).Nodup
inductive PJ (P:Program) (st:St):ResultVar->V->Prop
 |tmp {k:Tmp} {v:V} (h:gt st.sl k= .v v):PJ P st (.tmp k) v
 |cell {p:Tmp} {t n o:Nat} {vt:TypeId} {cs:List C} [ht:fm P t n] (h:gt st.sl p= .v (.c (.p o 0))) (ho:go st.ob o=ς (.var vt cs)) (hn:d0 cs.length n=ζ):PJ P st (.cell p t) (.agg cs)
 |cell1 {p:Tmp} {t o:Nat} {vt:TypeId} {c:C} [ht:g8 P t] (h:gt st.sl p= .v (.c (.p o 0))) (ho:go st.ob o=ς (.var vt [c])):PJ P st (.cell p t) (.c c)
inductive it (P:Program) (st:St):List ResultVar->List V->Prop
 |nil:it P st [] []
 |cons {r:ResultVar} {rs:List ResultVar} {v:V} {vs:List V} (h:PJ P st r v) (h':it P st rs vs):it P st (r::rs) (v::vs)
def tO(ob:Laa):C->Option (RC×List Nat)
 | .d _ (.i k n)=>ς (.d (.i k n),[])
 | .d _ (.b x)=>ς (.d (.b x),[])
 | .d _ (.str s)=>ς (.d (.str s),[])
 | .d (.b ζ) (.l xs)=>ς (.d (.l xs),[])
 | .w o n=>match go ob o,rsv o with
  |some (.row ty sz els (.b ζ) ζ),η=>ς (.own ty sz els n,[o])
  |_,_=>ξ
 | .nil=>ς (.nil,[])
 |_=>ξ
def Ad(ob:Laa):List C->Option (List RC×List Nat)
 |[]=>ς ([],[])
 |c::cs=>match tO ob c,Ad ob cs with
  |some (r,l),ς (rs,ls)=>ς (r::rs,l++ls)
  |_,_=>ξ
def JZ(ob:Laa):V->Option (RV×List Nat)
 | .c c=>match tO ob c with
  |some (r,l)=>ς (.c r,l)
  |none=>ξ
 | .agg cs=>match Ad ob cs with
  |some (r,l)=>ς (.agg r,l)
  |none=>ξ
def uu(ob:Laa):List V->Option (List RV×List Nat)
 |[]=>ς ([],[])
 |c::cs=>match JZ ob c,uu ob cs with
  |some (r,l),ς (rs,ls)=>ς (r::rs,l++ls)
  |_,_=>ξ
def gm:List Nat->Bool
 |[]=>ζ
 |x::xs=>!(xs.any (d0 x))&&gm xs
theorem eP:∀{l:List Nat},gm l=ζ->l.Nodup
 |[],_=>List.nodup_nil
 |x::xs,h=>by
  simp only[gm,hV,ZD] at h
  refine Z2.2 ⟨λhm=>?_,eP h.2⟩
  have:xs.any (d0 x)=true:=ZG.2 ⟨x,hm,by simp⟩
  rw[this] at h;exact absurd h.1 (by simp)
def Fin(P:Program)(rs:List ResultVar)(res:List RV)(s:St):Prop:=∃vs ls,it P s rs vs/\uu s.ob vs=ς (res,ls)/\gm ls=ζ
theorem LR{cx:Cx}(hR:Rel N cx E st a w)(hn:∀b,cx.In b->cx.w0.heap.size<=b){c:C}{r:RC}{ls:List Nat}(h:tO st.ob c=ς (r,ls))(hc:cvC E w c u):
 ∃bs,rcR w E.G cx.w0.heap.size r u bs/\bs.length=ls.length/\∀(i:Nat) (l:Nat),ls[i]?=ς l->∃p,bs[i]?=ς p/\E.r l=ς p:=by
 cases c with
 |d g x=>
  cases x with
  |i k n=>simp[tO] at h;obtain⟨rfl,rfl⟩:=h;exact⟨[],⟨rfl,by simpa [rdD] using p4 hc⟩,rfl,by simp⟩
  |b k=>simp[tO] at h;obtain⟨rfl,rfl⟩:=h;exact⟨[],⟨rfl,by simpa [rdD] using p4 hc⟩,rfl,by simp⟩
  |str k=>simp[tO] at h;obtain⟨rfl,rfl⟩:=h;exact⟨[],⟨rfl,by simpa [rdD] using p4 hc⟩,rfl,by simp⟩
  |l xs=>
   cases g with
   |b g=>cases g with
    |false=>grind[tO]
    |true=>simp[tO] at h;obtain⟨rfl,rfl⟩:=h;exact⟨[],⟨rfl,hc⟩,rfl,by simp⟩
   |s n=>grind[tO]
   |t n=>grind[tO]
  |k A n c=>grind[tO]
 |w o n=>
  simp only[tO] at h
  split at h
  .rename_i ty sz els ho hrv
   simp at h;obtain⟨rfl,rfl⟩:=h
   obtain⟨b,c,hr,rfl⟩:=hc
   obtain⟨b',c',arr,hr',hh,ha,hlc,hmx,hes,hrd,hFm,_⟩:=hR.obs o _ ho
   rw[hr] at hr';cases hr'
   refine⟨[(b,c)],⟨b,c,arr,rfl,rfl,hh,ha,hlc,hmx,hes,hrd,λhg=>hFm rfl (hR.ok.gf b hg),hn b (((hR.ok.rb o b c hr).2).resolve_right (λh=>by simp_all))⟩,rfl,λi l hi=>?_⟩
   grind
  cases h
 |nil=>simp[tO] at h;obtain⟨rfl,rfl⟩:=h;exact⟨[],⟨rfl,hc⟩,rfl,by simp⟩
 |_=>grind[tO]
theorem Me{b1 b2:Lac}{l1 l2:List Nat}(h1:b1.length=l1.length)(k1:∀(i:Nat) (l:Nat),l1[i]?=ς l->∃p,b1[i]?=ς p/\E.r l=ς p)(k2:∀(i:Nat) (l:Nat),l2[i]?=ς l->∃p,b2[i]?=ς p/\E.r l=ς p):∀(i:Nat) (l:Nat),(l1++l2)[i]?=ς l->∃p,(b1++b2)[i]?=ς p/\E.r l=ς p:=by
 grind
theorem Ho{N:Nat}{cx:Cx}{E:Env}{st:St}{a:Act}{w:World}(hR:Rel N cx E st a w)(hn:∀b,cx.In b->cx.w0.heap.size<=b):∀{cs:List C} {rs:List RC} {ls:List Nat} {us:Lae},Ad st.ob cs=ς (rs,ls)->CV E w cs us->
 ∃bs,Ci w E.G cx.w0.heap.size rs us bs/\bs.length=ls.length/\∀(i:Nat) (l:Nat),ls[i]?=ς l->∃p,bs[i]?=ς p/\E.r l=ς p
 |[],rs,ls,us,h,hc=>by
  simp[Ad] at h;obtain⟨rfl,rfl⟩:=h
  cases us with
  |nil=>exact⟨[],rfl,rfl,by simp⟩
  |cons _ _=>exact hc.elim
 |c::cs,rs,ls,us,h,hc=>by
  cases us with
  |nil=>exact hc.elim
  |cons u us=>
   simp only[Ad] at h
   split at h
   .rename_i r l rs' ls' h1 h2
    simp at h;obtain⟨rfl,rfl⟩:=h
    obtain⟨b1,k1,k2,k3⟩:=LR hR hn h1 hc.1
    obtain⟨b2,m1,m2,m3⟩:=Ho hR hn h2 hc.2
    exact⟨b1++b2,⟨b1,b2,rfl,k1,m1⟩,by simp[k2,m2],Me k2 k3 m3⟩
   cases h
theorem UV{cx:Cx}(hR:Rel N cx E st a w)(hn:∀b,cx.In b->cx.w0.heap.size<=b){v:V}{r:RV}{ls:List Nat}(h:JZ st.ob v=ς (r,ls))(hv:cvV E w v u):
 ∃bs,rvR w E.G cx.w0.heap.size r u bs/\bs.length=ls.length/\∀(i:Nat) (l:Nat),ls[i]?=ς l->∃p,bs[i]?=ς p/\E.r l=ς p:=by
 cases v with
 |c c=>
  simp only[JZ] at h
  split at h
  .rename_i r' l' h1;simp at h;obtain⟨rfl,rfl⟩:=h;exact LR hR hn h1 hv
  cases h
 |agg cs=>
  simp only[JZ] at h
  split at h
  .rename_i r' l' h1;simp at h;obtain⟨rfl,rfl⟩:=h
   obtain⟨arr,hu,hc⟩:=hv
   obtain⟨bs,k1,k2,k3⟩:=Ho hR hn h1 hc
   exact⟨bs,⟨arr,hu,k1⟩,k2,k3⟩
  cases h
theorem BG{N:Nat}{cx:Cx}{E:Env}{st:St}{a:Act}{w:World}(hR:Rel N cx E st a w)(hn:∀b,cx.In b->cx.w0.heap.size<=b):∀{vs:List V} {rs:List RV} {ls:List Nat} {us:Lae},uu st.ob vs=ς (rs,ls)->VV E w vs us->
 ∃bs,zY w E.G cx.w0.heap.size rs us bs/\bs.length=ls.length/\∀(i:Nat) (l:Nat),ls[i]?=ς l->∃p,bs[i]?=ς p/\E.r l=ς p
 |[],rs,ls,us,h,hc=>by
  simp[uu] at h;obtain⟨rfl,rfl⟩:=h
  cases us with
  |nil=>exact⟨[],rfl,rfl,by simp⟩
  |cons _ _=>exact hc.elim
 |c::cs,rs,ls,us,h,hc=>by
  cases us with
  |nil=>exact hc.elim
  |cons u us=>
   simp only[uu] at h
   split at h
   .rename_i r l rs' ls' h1 h2
    simp at h;obtain⟨rfl,rfl⟩:=h
    obtain⟨b1,k1,k2,k3⟩:=UV hR hn h1 hc.1
    obtain⟨b2,m1,m2,m3⟩:=BG hR hn h2 hc.2
    exact⟨b1++b2,⟨b1,b2,rfl,k1,m1⟩,by simp[k2,m2],Me k2 k3 m3⟩
   cases h
def jC(tmps:Array Value):ResultVar->Sem Value
 | .tmp t=>pure (tmps.getD t undef)
 | .cell p t=>do loadVar t (<-asAddr (tmps.getD p undef))
theorem Ut{cx:Cx}(hR:Rel N cx E st a w){r:ResultVar}{v:V}(h:PJ P st r v):
 ∃u,(jC a.tmps r).run P w= .ok u w/\cvV E w v u:=by
 cases h with
 |tmp h=>rename_i k;have:=hR.sl k;rw[h] at this;exact⟨_,by simp[jC],this⟩
 |cell h ho hn=>
  rename_i p t n o vt cs ht
  have h1:=hR.sl p;rw[h] at h1
  obtain⟨b,c,hr,hu⟩:=h1
  obtain⟨b',c',arr,hr',hh,hcv,_⟩:=hR.obs o _ ho
  rw[hr] at hr';cases hr'
  have hl:=im hcv
  have hnn:=Zo hn
  have:=qk (P:=P) (t:=t) (n:=n) (b:=b) (k:=0) (us:=arr.toList) (w:=w) oaa (λj u hj=>by grind[dw])
  refine⟨.agg arr.toList.toArray,?_,arr,by simp,hcv⟩
  simp_all[Instr.loadAt,Instr.sureAddr,jC,asAddr]
 |cell1 h ho=>
  rename_i p t o vt c ht
  have h1:=hR.sl p;rw[h] at h1
  obtain⟨b,c',hr,hu⟩:=h1
  obtain⟨b',c'',arr,hr',hh,hcv,_⟩:=hR.obs o _ ho
  rw[hr] at hr';cases hr'
  obtain⟨u,hu',hcu⟩:=Dr (k:=0) hcv rfl
  have:=lx (P:=P) (t:=t) (b:=b) (k:=0) (u:=u) (w:=w) (by grind[dw])
  refine⟨u,?_,hcu⟩
  simp_all[Instr.loadAt,Instr.sureAddr,jC,asAddr]
theorem sT{P:Program}{N:Nat}{cx:Cx}{E:Env}{st:St}{a:Act}{w:World}(hR:Rel N cx E st a w):∀{rs:List ResultVar} {vs:List V},it P st rs vs->
 ∃us,(rs.mapM (jC a.tmps)).run P w= .ok us w/\VV E w vs us
 |_,_,.nil=>⟨[],by simp,θ⟩
 |_,_,.cons (r:=r) h h'=>by
  obtain⟨u,k1,k2⟩:=Ut hR h
  obtain⟨us,m1,m2⟩:=sT hR h'
  refine⟨u::us,?_,k2,m2⟩
  simp_all
theorem Xy{cx:Cx}(hR:Rel N cx E st a w)(hn:∀b,cx.In b->cx.w0.heap.size<=b){fn:Func}(h:Fin P fn.results.toList res st):
 ∃v bs,(results fn a.tmps).run P w= .ok v w/\wv w E.G cx.w0.heap.size res v bs/\(bs.map (·.1)).Nodup:=by
 obtain⟨vs,ls,h1,h2,h3⟩:=h
 obtain⟨us,k1,k2⟩:=sT hR h1
 obtain⟨bs,m1,m2,m3⟩:=BG hR hn h2 k2
 have hnd:(bs.map (·.1)).Nodup:=by
  have hnl:=eP h3
  refine ZJ.2 λi j hi hj hij he=>?_
  simp only[ZU] at hi hj
  obtain⟨p,p1,p2⟩:=m3 i ls[i] (Zl oaa)
  obtain⟨q,q1,q2⟩:=m3 j ls[j] (Zl oaa)
  rw[Zl hi] at p1
  rw[Zl hj] at q1
  cases p1;cases q1
  simp only[List.getElem_map] at he
  rcases hbi:bs[i] with⟨b1,c1⟩
  rcases hbj:bs[j] with⟨b2,c2⟩
  rw[hbi,hbj] at he
  rw[hbi] at p2;rw[hbj] at q2
  have hb:b1=b2:=he
  subst hb
  exact ZJ.1 hnl i j oaa oaa hij (hR.ok.inj _ _ _ _ _ p2 q2)
 have hm:(fn.results.mapM (jC a.tmps)).run P w= .ok us.toArray w:=by
  rw[<-ZY (xs:=fn.results),List.mapM_toArray]
  simp only[Sem.run_map,k1]
  rfl
 have hres:results fn a.tmps=(fn.results.mapM (jC a.tmps))>>= λvs=>pure (if h:vs.size=1 then vs[0] else .tuple vs):=rfl
 have hlen:us.length=vs.length:=by
  have key:∀(vs:List V) (us:Lae),VV E w vs us->us.length=vs.length:=by
   intro vs
   induction vs with
   |nil=>intro us h;cases us with
    |nil=>rfl
    |cons _ _=>exact h.elim
   |cons v vs ih=>intro us h;cases us with
    |nil=>exact h.elim
    |cons u us=>simp[ih us h.2]
  exact key vs us k2
 have hlen2:us.length=res.length:=by
  have key:∀(rs:List RV) (us:Lae) (bs:Lac),zY w E.G cx.w0.heap.size rs us bs->us.length=rs.length:=by
   intro rs
   induction rs with
   |nil=>intro us bs h;cases us with
    |nil=>rfl
    |cons _ _=>exact h.elim
   |cons v vs ih=>intro us bs h;cases us with
    |nil=>exact h.elim
    |cons u us=>obtain⟨b1,b2,_,_,h⟩:=h;grind
  exact key res us bs m1
 match res,us,m1,hlen2 with
 |[],[],m1,_=>exact⟨.tuple #[],bs,by simp_all,⟨#[],rfl,m1⟩,hnd⟩
 |[r],[u],m1,_=>
  obtain⟨b1,b2,rfl,h4,h5⟩:=m1
  have:b2=[]:=h5
  subst this
  exact⟨u,b1++[],by simp_all,by simp_all[wv],hnd⟩
 |r1::r2::rs,u1::u2::us,m1,_=>
  exact⟨.tuple (u1::u2::us).toArray,bs,by simp_all,⟨_,rfl,m1⟩,hnd⟩
def argT:AV->T
 | .c x=>.v (.c (ldC η x))
 | .agg xs=>.v (.agg (xs.map (ldC η)))
def pT:Nat->List AV->Lab
 |_,[]=>[]
 |k,a::as=>(k,argT a)::pT (k+1) as
def tD(N:Nat)(P:Program)(rs:List ResultVar)(res:List RV):Exit->St->Prop
 | .normal,s| .ret,s=>∃s',cB N s s'/\Fin P rs res s'
 |_,_=>False
theorem Sc{rs:List ResultVar}(h:Fin P rs res s):tD N P rs res .ret s:=⟨s,λ_ E _ _ h=>⟨E,h⟩,h⟩
theorem PE{E:Env}{w:World}{F:Nat->Prop}(hF:E.F=F):∀{xs:List D} {us:Lae},DV w F xs us->CV E w (xs.map (ldC η)) us
 |[],[],_=>trivial
 |x::xs,u::us,h=>⟨B3 (g:=η) (by subst hF;exact h.1),PE hF h.2⟩
 |[],_::_,h=>h.elim
 |_::_,[],h=>h.elim
theorem xL{E:Env}{w:World}{F:Nat->Prop}(hF:E.F=F):∀{as:List AV} {us:Lae} (k0:Nat),AR w F as us->us.length=as.length/\∀k,(k0<=k/\k<k0+as.length->∃u,us[k-k0]?=ς u/\cvT E w (gt (pT k0 as) k) u)/\(¬(k0<=k/\k<k0+as.length)->gt (pT k0 as) k= .any)
 |[],[],k0,_=>⟨rfl,λk=>⟨λh=>by grind,λ_=>rfl⟩⟩
 |a::as,u::us,k0,h=>by
  obtain⟨h1,h2⟩:=xL hF (k0+1) h.2
  refine⟨by simp[h1],λk=>?_⟩
  by_cases hk:k0=k
  .subst hk
   refine⟨λ_=>⟨u,by simp,?_⟩,λhn=>absurd ⟨Zu _,by simp⟩ hn⟩
   rw[pT,cG]
   cases a with
   |c x=>exact B3 (g:=η) (by subst hF;exact h.1)
   |agg xs=>obtain⟨arr,hu,hd⟩:=h.1;exact⟨arr,hu,PE hF hd⟩
  rw[pT,b7 _ _ hk]
  refine⟨λhr=>?_,λhr=>(h2 k).2 (λh=>hr ⟨by omega,by simp;omega⟩)⟩
  obtain⟨v,h3,h4⟩:=(h2 k).1 ⟨by omega,by grind⟩
  grind
 |[],_::_,_,h=>h.elim
 |_::_,[],_,h=>h.elim
theorem fn_of{f:FuncId}{fn:Func}{c:Code}{args:List AV}{rs:List ResultVar}(hf:P.funcs[f]?=ς fn)(hb:fn.body=ς c)(hnm:(fn.name== "runtime.NumGoroutine")=η)(hN:fn.ntmps=N)(hrs:fn.results.toList=rs)(ha:Zw args.length N=ζ)(h:AWC P N c ⟨pT 0 args,[],0⟩ (tD N P rs res)):Fn P f args res:=by
 refine⟨λvs w=>by simp_all[callFunc],λF w vals hF hT hA=>?_⟩
 subst hrs
 refine calls_of_wp hf hb ?_
 let E:Env:={r:=λ_=>ξ,F:=F,G:=λ_=>False}
 obtain⟨h1,h2⟩:=xL (E:=E) (F:=F) rfl 0 hA
 have hle:args.length<=N:=ZK ha
 have hsz:vals.size=args.length:=by simpa using h1
 have hR:Rel N ⟨w,λ_=>False,λ_=>ξ,λ_=>True,λ_=>False,⟨hT,λ_ _ h=>h⟩,λ_=>False⟩ E ⟨pT 0 args,[],0⟩ {tmps:=vals++Zv (fn.ntmps-vals.size) undef,defers:=[]} w:=by
  refine⟨⟨hF,λ_ h=>h.elim,λ_ h=>h.elim,(λ_ _ _ h=>by cases h),(λ_ _ _ _ _ h=>by cases h),rfl,rfl,rfl,Zu _,λ_ _ _=>rfl,(λ_ _ _ h=>by cases h),λ_ _=>.inl trivial,λb h h'=>absurd (hF b h) (Nat.not_lt.2 (h'.resolve_right λh=>h.2.1)),⟨λ_ _ h=>h.elim,λ_ _ _ h=>h.elim,λ_ h=>h.elim,λ_ h=>h.elim,λ_ h=>h.elim⟩⟩,(λ_ _ h=>by cases h),(λ_ _ h=>by cases h),λk=>?_,rfl,by simp;omega,λ_ _ h=>h.elim⟩
  by_cases hk:k<args.length
  .obtain⟨u,h3,h4⟩:=(h2 k).1 ⟨ZA _,by omega⟩
   have:(vals++Zv (fn.ntmps-vals.size) undef).getD k undef=u:=by
    have h5:vals[k]?=ς u:=by simpa using h3
    have h6:(vals++Zv (fn.ntmps-vals.size) undef)[k]?=ς u:=by rw[Array.getElem?_append_left oaa];exact h5
    simp[h6]
   simp_all
  simp_all[cvT,gt,pT,trivial]
 refine wp_mono (h _ E _ w hR) ?_
 rintro e a' w' ⟨E',s',hR',hq⟩
 have fin:∀s',Rel N ⟨w,λ_=>False,λ_=>ξ,λ_=>True,λ_=>False,⟨hT,λ_ _ h=>h⟩,λ_=>False⟩ E' s' a' w'->(∃s'',cB N s' s''/\Fin P fn.results.toList res s'')->
  a'.defers=[]/\∃v,(results fn a'.tmps).run P w'= .ok v w'/\∃v' G bs,Ending.returned v= .returned v'/\zk w w' (λ_=>False)/\(∀b,G b->w.heap.size<=b/\b<w'.heap.size/\eJ w' b)/\wv w' G w.heap.size res v' bs/\(bs.map (·.1)).Nodup:=by
  rintro s' hR' ⟨s'',hw,hfin⟩
  obtain⟨E'',hR''⟩:=hw _ _ _ _ hR'
  obtain⟨v,bs,k1,k2,k3⟩:=Xy hR'' (λb h=>h.resolve_right λh=>h.1) hfin
  have ok:=hR''.ok
  exact⟨hR''.dfr,v,k1,v,E''.G,bs,rfl,⟨ok.os,ok.tape,ok.output,ok.size,ok.block⟩,λb hb=>⟨(ok.gn b hb).resolve_right id,ok.fb b (ok.gf b hb),ok.gc b (ok.gf b hb) (.inl ((ok.gn b hb).resolve_right id))⟩,k2,k3⟩
 cases e with
 |normal=>exact fin s' hR' hq
 |ret=>exact fin s' hR' hq
 |_=>exact hq.elim
def labC:C->List Nat
 | .w o _=>[o]
 | .s o _ _ _=>[o]
 | .wn o _=>[o]
 |_=>[]
def WE:List C->List Nat
 |[]=>[]
 |c::cs=>labC c++WE cs
def Ag:List T->List Nat
 |[]=>[]
 | .v (.c c)::ts=>labC c++Ag ts
 | .v (.agg cs)::ts=>WE cs++Ag ts
 |_::ts=>Ag ts
def oi(ob:Laa):List Nat->Option Laa
 |[]=>ς []
 |l::ls=>match go ob l,oi ob ls with
  |some x,ς r=>ς ((l,x)::r)
  |_,_=>ξ
theorem qs{ob:Laa}:∀{ls:List Nat} {nob:Laa},oi ob ls=ς nob->Lo ob nob
 |[],nob,h=>by simp[oi] at h;subst h;trivial
 |l::ls,nob,h=>by
  simp only[oi] at h
  split at h
  .rename_i x r h1 h2;simp at h;subst h;exact⟨h1,qs h2⟩
  cases h
theorem uR{ob:Laa}{x:Ob}(h:go ob l=ς x):(l,x)∈ob:=by
 induction ob with
 |nil=>cases h
 |cons p r ih=>
  grind[bM,a9]
def uA(nob:Laa):C->Option (D×Lac)
 | .d (.b _) x=>ς (x,[])
 | .nil=>ς (.l [],[])
 | .w o n=>match go nob o with
  |some (.row _ _ els (.b _) _)=>ς (.l els,[(els.length,n)])
  |_=>ξ
 | .wn o n=>match go nob o with
  |some (.rown _ _ els (.b _))=>ς (.l els,[(els.length,n)])
  |_=>ξ
 | .s o sz off len=>match go nob o with
  |some (.row _ sz' els (.b _) _)=>match d0 sz sz' with
   |true=>ς (.l ((els.drop off).take len),[(off+len-els.length,0)])
   |false=>ξ
  |_=>ξ
 |_=>ξ
def G8(nob:Laa):List C->Option (List D×Lac)
 |[]=>ς ([],[])
 |c::cs=>match uA nob c,G8 nob cs with
  |some (x,e),ς (xs,es)=>ς (x::xs,e++es)
  |_,_=>ξ
def Y1(nob:Laa):T->Option (AV×Lac)
 | .v (.c c)=>match uA nob c with
  |some (x,e)=>ς (.c x,e)
  |none=>ξ
 | .v (.agg cs)=>match G8 nob cs with
  |some (x,e)=>ς (.agg x,e)
  |none=>ξ
 |_=>ξ
def EE(nob:Laa):List T->Option (List AV×Lac)
 |[]=>ς ([],[])
 |c::cs=>match Y1 nob c,EE nob cs with
  |some (x,e),ς (xs,es)=>ς (x::xs,e++es)
  |_,_=>ξ
def wC(nob:Laa):C->Option (D×Lac)
 | .r _ x| .d (.s _) x| .d (.t _) x=>ς (x,[])
 | .w o n=>match go nob o with
  |some (.row _ _ els (.s _) _)=>ς (.l els,[(els.length,n)])
  |_=>uA nob (.w o n)
 | .s o sz off len=>match go nob o with
  |some (.row _ sz' els (.s _) _)=>match d0 sz sz' with
   |true=>ς (.l ((els.drop off).take len),[(off+len-els.length,0)])
   |false=>ξ
  |_=>uA nob (.s o sz off len)
 |c=>uA nob c
def Bt(nob:Laa):List C->Option (List D×Lac)
 |[]=>ς ([],[])
 |c::cs=>match wC nob c,Bt nob cs with
  |some (x,e),ς (xs,es)=>ς (x::xs,e++es)
  |_,_=>ξ
def To(nob:Laa):T->Option (AV×Lac)
 | .v (.c c)=>match wC nob c with
  |some (x,e)=>ς (.c x,e)
  |none=>ξ
 | .v (.agg cs)=>match Bt nob cs with
  |some (x,e)=>ς (.agg x,e)
  |none=>ξ
 |_=>ξ
def qN(nob:Laa):List T->Option (List AV×Lac)
 |[]=>ς ([],[])
 |c::cs=>match To nob c,qN nob cs with
  |some (x,e),ς (xs,es)=>ς (x::xs,e++es)
  |_,_=>ξ
def Eqs:Lac->Prop
 |[]=>True
 |(a,b)::r=>a=b/\Eqs r
theorem dq:∀{l m:Lac},Eqs (l++m)->Eqs l/\Eqs m
 |[],m,h=>⟨θ,h⟩
 |(a,b)::l,m,h=>let ⟨h1,h2⟩:=dq (l:=l) h.2;⟨⟨h.1,h1⟩,h2⟩
def kL(E:Env)(nob:Laa):Nat->Prop:=λb=>E.F b\/∃l x c,go nob l=ς x/\E.r l=ς (b,c)
def xR(E:Env)(nob:Laa):Nat->Prop:=λb=>kL E nob b\/∃l,E.T l b
section
variable{cx:Cx}{E:Env}{w:World}{nob:Laa}(ok:cF cx E w)(hob:∀l x,go nob l=ς x->cg E w l x)
include ok hob
theorem AJ{c:C}{e:Lac}(h:uA nob c=ς (x,e))(he:Eqs e)(hc:cvC E w c u):rdD w (kL E nob) x u:=by
 have hHF:∀(g:Bool) b,E.H g b->kL E nob b:=λg b hb=>.inl (by cases g;exact hb;exact ok.gf b hb)
 cases c with
 |d g y=>cases g with
  |b g=>simp[uA] at h;obtain⟨rfl,rfl⟩:=h;exact bP (λ_ _=>rfl) (hHF g) _ _ hc
  |s n=>grind[uA]
  |t n=>grind[uA]
 |nil=>simp[uA] at h;obtain⟨rfl,rfl⟩:=h;have:u= .slice ξ 0 0:=hc;subst this;rw[rdD];exact⟨ξ,0,rfl,Zu _,.inl rfl⟩
 |w o n=>
  simp only[uA] at h
  split at h
  .rename_i t sz els g m ho
   simp at h;obtain⟨rfl,rfl⟩:=h
   obtain⟨b,cc,hr,rfl⟩:=hc
   obtain⟨b',c',arr,hr',hh,ha,hlc,hmx,hes,hrd,_⟩:=hob o _ ho
   rw[hr] at hr';cases hr'
   have hn:els.length=n:=he.1
   subst hn
   rw[rdD]
   exact⟨_,_,rfl,hlc,.inr ⟨b,0,rfl,.inr ⟨o,_,cc,ho,hr⟩,bS (λ_ _=>rfl) (hHF g) rfl _ _ hrd⟩⟩
  cases h
 |wn o n=>
  simp only[uA] at h
  split at h
  .rename_i t sz els g ho
   simp at h;obtain⟨rfl,rfl⟩:=h
   have hn:els.length=n:=he.1
   rcases hc with⟨h0,rfl,rfl⟩|⟨h0,b,cc,hr,rfl⟩
   .have:els=[]:=ZS hn
    subst this
    rw[rdD];exact⟨ξ,0,rfl,Zu _,.inl rfl⟩
   rcases hob o _ ho with⟨h1,_⟩|⟨_,b',c',arr,hr',hh,ha,hlc,hmx,hes,hrd,_⟩
   .simp_all
   rw[hr] at hr';cases hr'
   subst hn
   rw[rdD]
   exact⟨_,_,rfl,hlc,.inr ⟨b,0,rfl,.inr ⟨o,_,cc,ho,hr⟩,bS (λ_ _=>rfl) (hHF g) rfl _ _ hrd⟩⟩
  cases h
 |s o sz off len=>
  simp only[uA] at h
  split at h
  .rename_i t sz' els g m ho
   split at h
   .rename_i hb
    have hsz:=Zo hb
    subst hsz
    simp at h;obtain⟨rfl,rfl⟩:=h
    obtain⟨A,cc,b,k,hr,rfl,hlc',_,hA⟩:=hc
    obtain⟨b',c',arr,hr',hh,ha,hlc,hmx,hes,hrd,_⟩:=hob o _ ho
    rw[hr] at hr';cases hr'
    have hle:off+len-els.length=0:=he.1
    have hl:((els.drop off).take len).length=len:=by simp;omega
    rw[rdD]
    refine⟨A,cc,by rw[hl],by omega,?_⟩
    rcases hA with h0|h0
    .exact .inl (ZS oaa)
    right;exact⟨b,off*sz,h0,.inr ⟨o,_,k,ho,hr⟩,bS (λ_ _=>rfl) (hHF g) rfl _ _ (by simpa using lH len (vV hrd hes off))⟩
   cases h
  cases h
 |_=>grind[uA]
theorem G9:∀{cs:List C} {xs:List D} {e:Lac} {us:Lae},G8 nob cs=ς (xs,e)->Eqs e->CV E w cs us->DV w (kL E nob) xs us
 |[],xs,e,us,h,he,hc=>by
  simp[G8] at h;obtain⟨rfl,rfl⟩:=h
  cases us with
  |nil=>trivial
  |cons _ _=>exact hc.elim
 |c::cs,xs,e,us,h,he,hc=>by
  cases us with
  |nil=>exact hc.elim
  |cons u us=>
   simp only[G8] at h
   split at h
   .rename_i x e1 xs' e2 h1 h2
    simp at h;obtain⟨rfl,rfl⟩:=h
    obtain⟨k1,k2⟩:=dq he
    exact⟨AJ ok hob h1 k1 hc.1,G9 h2 k2 hc.2⟩
   cases h
theorem Wd{t:T}{x:AV}{e:Lac}(h:Y1 nob t=ς (x,e))(he:Eqs e)(hc:cvT E w t u):avR w (kL E nob) x u:=by
 unfold Y1 at h
 split at h
 .split at h
  .rename_i h1;simp at h;obtain⟨rfl,rfl⟩:=h;exact AJ ok hob h1 he hc
  cases h
 .split at h
  .rename_i h1;simp at h;obtain⟨rfl,rfl⟩:=h;obtain⟨arr,hu,hc⟩:=hc;exact⟨arr,hu,G9 ok hob h1 he hc⟩
  cases h
 cases h
theorem Jk{a:Act}:∀{ts:List T} {xs:List AV} {e:Lac} {args:List Operand},EE nob ts=ς (xs,e)->Eqs e->ts.length=args.length->(∀x t,(x,t)∈args.zip ts->cvT E w t (a.eval x))->AR w (kL E nob) xs (args.map a.eval)
 |[],xs,e,[],h,he,hl,hn=>by simp[EE] at h;obtain⟨rfl,rfl⟩:=h;trivial
 |t::ts,xs,e,x::args,h,he,hl,hn=>by
  simp only[EE] at h
  split at h
  .rename_i y e1 ys e2 h1 h2
   simp at h;obtain⟨rfl,rfl⟩:=h
   obtain⟨k1,k2⟩:=dq he
   exact⟨Wd ok hob h1 k1 (hn x t (by simp)),Jk h2 k2 (by simp_all) λx t hm=>hn x t (by simp_all)⟩
  cases h
 |[],_,_,_::_,_,_,hl,_=>by simp at hl
 |_::_,_,_,[],_,_,hl,_=>by simp at hl
theorem G4{c:C}{e:Lac}(h:wC nob c=ς (x,e))(he:Eqs e)(hc:cvC E w c u):rdD w (xR E nob) x u:=by
 have gen:∀{c:C},uA nob c=ς (x,e)->cvC E w c u->rdD w (xR E nob) x u:=λh hc=>bP (λ_ _=>rfl) (λb hb=>.inl hb) _ _ (AJ ok hob h he hc)
 cases c with
 |r l y=>simp[wC] at h;obtain⟨rfl,rfl⟩:=h;exact bP (λ_ _=>rfl) (λb hb=>.inr ⟨l,hb⟩) _ _ hc
 |d g y=>cases g with
  |b g=>exact gen (by simpa only[wC] using h) hc
  |s l=>simp[wC] at h;obtain⟨rfl,rfl⟩:=h;exact bP (λ_ _=>rfl) (λb hb=>.inr ⟨l,hb⟩) _ _ (jQ (g:=.s l) hc)
  |t l=>simp[wC] at h;obtain⟨rfl,rfl⟩:=h;exact bP (λ_ _=>rfl) (λb hb=>.inr ⟨l,hb⟩) _ _ (jQ (g:=.t l) hc)
 |w o n=>
  simp only[wC] at h
  split at h
  .rename_i t sz els l m ho
   simp at h;obtain⟨rfl,rfl⟩:=h
   obtain⟨b,cc,hr,rfl⟩:=hc
   obtain⟨b',c',arr,hr',hh,ha,hlc,hmx,hes,hrd,_⟩:=hob o _ ho
   rw[hr] at hr';cases hr'
   have hn:els.length=n:=he.1
   subst hn
   rw[rdD]
   exact⟨_,_,rfl,hlc,.inr ⟨b,0,rfl,.inl (.inr ⟨o,_,cc,ho,hr⟩),bS (λ_ _=>rfl) (λb hb=>.inr ⟨l,hb⟩) rfl _ _ hrd⟩⟩
  exact gen h hc
 |s o sz off len=>
  simp only[wC] at h
  split at h
  .rename_i t sz' els l m ho
   split at h
   .rename_i hb
    have hsz:=Zo hb
    subst hsz
    simp at h;obtain⟨rfl,rfl⟩:=h
    obtain⟨A,cc,b,k,hr,rfl,hlc',_,hA⟩:=hc
    obtain⟨b',c',arr,hr',hh,ha,hlc,hmx,hes,hrd,_⟩:=hob o _ ho
    rw[hr] at hr';cases hr'
    have hle:off+len-els.length=0:=he.1
    have hl:((els.drop off).take len).length=len:=by simp;omega
    rw[rdD]
    refine⟨A,cc,by rw[hl],by omega,?_⟩
    rcases hA with h0|h0
    .exact .inl (ZS oaa)
    right;exact⟨b,off*sz,h0,.inl (.inr ⟨o,_,k,ho,hr⟩),bS (F:=E.T l) (λ_ _=>rfl) (λb hb=>.inr ⟨l,hb⟩) rfl _ _ (by simpa [Env.H] using lH len (vV hrd hes off))⟩
   cases h
  exact gen h hc
 |_=>grind[wC]
theorem DD:∀{cs:List C} {xs:List D} {e:Lac} {us:Lae},Bt nob cs=ς (xs,e)->Eqs e->CV E w cs us->DV w (xR E nob) xs us
 |[],xs,e,us,h,he,hc=>by
  simp[Bt] at h;obtain⟨rfl,rfl⟩:=h
  cases us with
  |nil=>trivial
  |cons _ _=>exact hc.elim
 |c::cs,xs,e,us,h,he,hc=>by
  cases us with
  |nil=>exact hc.elim
  |cons u us=>
   simp only[Bt] at h
   split at h
   .rename_i x e1 xs' e2 h1 h2
    simp at h;obtain⟨rfl,rfl⟩:=h
    obtain⟨k1,k2⟩:=dq he
    exact⟨G4 ok hob h1 k1 hc.1,DD h2 k2 hc.2⟩
   cases h
theorem Tp{t:T}{x:AV}{e:Lac}(h:To nob t=ς (x,e))(he:Eqs e)(hc:cvT E w t u):avR w (xR E nob) x u:=by
 unfold To at h
 split at h
 .split at h
  .rename_i h1;simp at h;obtain⟨rfl,rfl⟩:=h;exact G4 ok hob h1 he hc
  cases h
 .split at h
  .rename_i h1;simp at h;obtain⟨rfl,rfl⟩:=h;obtain⟨arr,hu,hc⟩:=hc;exact⟨arr,hu,DD ok hob h1 he hc⟩
  cases h
 cases h
theorem Aa{a:Act}:∀{ts:List T} {xs:List AV} {e:Lac} {args:List Operand},qN nob ts=ς (xs,e)->Eqs e->ts.length=args.length->(∀x t,(x,t)∈args.zip ts->cvT E w t (a.eval x))->AR w (xR E nob) xs (args.map a.eval)
 |[],xs,e,[],h,he,hl,hn=>by simp[qN] at h;obtain⟨rfl,rfl⟩:=h;trivial
 |t::ts,xs,e,x::args,h,he,hl,hn=>by
  simp only[qN] at h
  split at h
  .rename_i y e1 ys e2 h1 h2
   simp at h;obtain⟨rfl,rfl⟩:=h
   obtain⟨k1,k2⟩:=dq he
   exact⟨Tp ok hob h1 k1 (hn x t (by simp)),Aa h2 k2 (by simp_all) λx t hm=>hn x t (by simp_all)⟩
  cases h
 |[],_,_,_::_,_,_,hl,_=>by simp at hl
 |_::_,_,_,[],_,_,hl,_=>by simp at hl
end
def N1(nx:Nat):RC->Option (C×Laa×Nat)
 | .d (.i k n)=>ς (.d η (.i k n),[],nx)
 | .d (.b x)=>ς (.d η (.b x),[],nx)
 | .d (.str s)=>ς (.d η (.str s),[],nx)
 | .d (.l xs)=>ς (.d ζ (.l xs),[],nx)
 | .d (.k _ _ _)=>ξ
 | .own ty sz els n=>ς (.w nx n,[(nx,.row ty sz els ζ ζ)],nx+1)
 | .nil=>ς (.nil,[],nx)
def HI(nx:Nat):List RC->Option (List C×Laa×Nat)
 |[]=>ς ([],[],nx)
 |r::rs=>match N1 nx r with
  |some (c,b,n)=>match HI n rs with
   |some (cs,bs,m)=>ς (c::cs,b++bs,m)
   |none=>ξ
  |none=>ξ
def Rg(nx:Nat):RV->Option (V×Laa×Nat)
 | .c r=>match N1 nx r with
  |some (c,b,n)=>ς (.c c,b,n)
  |none=>ξ
 | .agg rs=>match HI nx rs with
  |some (c,b,n)=>ς (.agg c,b,n)
  |none=>ξ
def HP(nx:Nat):List RV->Option (List V×Laa×Nat)
 |[]=>ς ([],[],nx)
 |r::rs=>match Rg nx r with
  |some (c,b,n)=>match HP n rs with
   |some (cs,bs,m)=>ς (c::cs,b++bs,m)
   |none=>ξ
  |none=>ξ
def xi(nx:Nat):List RV->Option (T×Laa×Nat)
 |[r]=>match Rg nx r with
  |some (v,b,n)=>ς (.v v,b,n)
  |none=>ξ
 |rs=>match HP nx rs with
  |some (v,b,n)=>ς (.tup v,b,n)
  |none=>ξ
def Imp(E:Env)(w:World)(nx n:Nat)(bs:Lac)(nw:Laa):Prop:=
 n=nx+bs.length/\(∀l x,(l,x)∈nw->cg E w l x/\nx<=l/\l<n)/\∀l,nx<=l->l<n->∃x,(l,x)∈nw
theorem Imp.join{m:Nat}{b1 b2:Lac}{nw1 nw2:Laa}(h1:Imp E w nx n b1 nw1)(h2:Imp E w n m b2 nw2):Imp E w nx m (b1++b2) (nw1++nw2):=by
 obtain⟨rfl,h1b,h1c⟩:=h1
 obtain⟨rfl,h2b,h2c⟩:=h2
 refine⟨by simp;omega,λl x hm=>?_,λl hl1 hl2=>?_⟩
 .grind
 grind
section
variable{E:Env}{w:World}{G:Nat->Prop}{base:Nat}(hG:∀b,G b->E.G b)(hnF:∀b:Nat,base<=b->¬G b->¬E.F b)
include hG hnF
theorem Mb{r:RC}{bs:Lac}{c:C}{nw:Laa}(h:N1 nx r=ς (c,nw,n))(hr:rcR w G base r u bs)(hb:∀(i:Nat) (p:Nat×Nat),bs[i]?=ς p->E.r (nx+i)=ς p):
 cvC E w c u/\Imp E w nx n bs nw:=by
 cases r with
 |d x=>
  obtain⟨rfl,hr⟩:=hr
  cases x<;>simp[N1] at h<;>obtain⟨rfl,rfl,rfl⟩:=h<;>refine⟨?_,⟨rfl,by simp,λl h1 h2=>by omega⟩⟩
  .simp_all[cvC,gD,rdD]
  .simp_all[cvC,gD,rdD]
  .simp_all[cvC,gD,rdD]
  exact bP (λ_ _=>rfl) hG _ _ hr
 |own ty sz els n'=>
  obtain⟨b,cc,arr,rfl,rfl,hh,ha,hlc,hmx,hes,hrd,hgb,hbb⟩:=hr
  simp[N1] at h;obtain⟨rfl,rfl,rfl⟩:=h
  have:=hb 0 (b,cc) rfl
  rw[ZX] at this
  refine⟨⟨b,cc,this,rfl⟩,⟨rfl,λl x hm=>?_,λl h1 h2=>⟨.row ty sz els ζ ζ,by grind⟩⟩⟩
  simp at hm;obtain⟨rfl,rfl⟩:=hm
  exact⟨⟨b,cc,arr,this,hh,ha,hlc,hmx,hes,bS (λ_ _=>rfl) hG rfl _ _ hrd,λ_=>hnF b hbb hgb,(λh=>by cases h),θ⟩,by omega,by omega⟩
 |nil=>
  obtain⟨rfl,hr⟩:=hr
  simp[N1] at h;obtain⟨rfl,rfl,rfl⟩:=h
  exact⟨hr,⟨rfl,by simp,λl h1 h2=>by omega⟩⟩
omit hG hnF in
theorem G1{b1 b2:Lac}(hb:∀(i:Nat) (p:Nat×Nat),(b1++b2)[i]?=ς p->E.r (nx+i)=ς p):
 (∀(i:Nat) (p:Nat×Nat),b1[i]?=ς p->E.r (nx+i)=ς p)/\∀(i:Nat) (p:Nat×Nat),b2[i]?=ς p->E.r (nx+b1.length+i)=ς p:=by
 refine⟨λi p hi=>hb i p ?_,λi p hi=>?_⟩
 .grind
 have:=hb (b1.length+i) p (by grind)
 grind
theorem HK:∀{rs:List RC} {us:Lae} {bs:Lac} {nx n:Nat} {cs:List C} {nw:Laa},HI nx rs=ς (cs,nw,n)->Ci w G base rs us bs->(∀(i:Nat) (p:Nat×Nat),bs[i]?=ς p->E.r (nx+i)=ς p)->
 CV E w cs us/\Imp E w nx n bs nw
 |[],us,bs,nx,n,cs,nw,h,hr,hb=>by
  simp[HI] at h;obtain⟨rfl,rfl,rfl⟩:=h
  cases us with
  |nil=>have:bs=[]:=hr;subst this;exact⟨θ,⟨rfl,by simp,λl h1 h2=>by omega⟩⟩
  |cons _ _=>exact hr.elim
 |r::rs,us,bs,nx,n,cs,nw,h,hr,hb=>by
  cases us with
  |nil=>exact hr.elim
  |cons u us=>
   obtain⟨b1,b2,rfl,hr1,hr2⟩:=hr
   simp only[HI] at h
   split at h
   .rename_i c nw1 n1 h1
    split at h
    .rename_i cs2 nw2 n2 h2
     simp at h;obtain⟨rfl,rfl,rfl⟩:=h
     obtain⟨hb1,hb2⟩:=G1 hb
     obtain⟨k1,k2⟩:=Mb hG hnF h1 hr1 hb1
     have hn1:=k2.1
     subst hn1
     obtain⟨m1,m2⟩:=HK h2 hr2 hb2
     exact⟨⟨k1,m1⟩,k2.join m2⟩
    cases h
   cases h
theorem Mc{r:RV}{bs:Lac}{v:V}{nw:Laa}(h:Rg nx r=ς (v,nw,n))(hr:rvR w G base r u bs)(hb:∀(i:Nat) (p:Nat×Nat),bs[i]?=ς p->E.r (nx+i)=ς p):
 cvV E w v u/\Imp E w nx n bs nw:=by
 cases r with
 |c r=>
  simp only[Rg] at h
  split at h
  .rename_i h1;simp at h;obtain⟨rfl,rfl,rfl⟩:=h;exact Mb hG hnF h1 hr hb
  cases h
 |agg rs=>
  simp only[Rg] at h
  split at h
  .rename_i h1;simp at h;obtain⟨rfl,rfl,rfl⟩:=h
   obtain⟨arr,hu,hr⟩:=hr
   obtain⟨k1,k2⟩:=HK hG hnF h1 hr hb
   exact⟨⟨arr,hu,k1⟩,k2⟩
  cases h
theorem BW:∀{rs:List RV} {us:Lae} {bs:Lac} {nx n:Nat} {cs:List V} {nw:Laa},HP nx rs=ς (cs,nw,n)->zY w G base rs us bs->(∀(i:Nat) (p:Nat×Nat),bs[i]?=ς p->E.r (nx+i)=ς p)->
 VV E w cs us/\Imp E w nx n bs nw
 |[],us,bs,nx,n,cs,nw,h,hr,hb=>by
  simp[HP] at h;obtain⟨rfl,rfl,rfl⟩:=h
  cases us with
  |nil=>have:bs=[]:=hr;subst this;exact⟨θ,⟨rfl,by simp,λl h1 h2=>by omega⟩⟩
  |cons _ _=>exact hr.elim
 |r::rs,us,bs,nx,n,cs,nw,h,hr,hb=>by
  cases us with
  |nil=>exact hr.elim
  |cons u us=>
   obtain⟨b1,b2,rfl,hr1,hr2⟩:=hr
   simp only[HP] at h
   split at h
   .rename_i c nw1 n1 h1
    split at h
    .rename_i cs2 nw2 n2 h2
     simp at h;obtain⟨rfl,rfl,rfl⟩:=h
     obtain⟨hb1,hb2⟩:=G1 hb
     obtain⟨k1,k2⟩:=Mc hG hnF h1 hr1 hb1
     have hn1:=k2.1
     subst hn1
     obtain⟨m1,m2⟩:=BW h2 hr2 hb2
     exact⟨⟨k1,m1⟩,k2.join m2⟩
    cases h
   cases h
theorem vQ{rs:List RV}{bs:Lac}{t:T}{nw:Laa}(h:xi nx rs=ς (t,nw,n))(hr:wv w G base rs u bs)(hb:∀(i:Nat) (p:Nat×Nat),bs[i]?=ς p->E.r (nx+i)=ς p):
 cvT E w t u/\Imp E w nx n bs nw:=by
 match rs,h,hr with
 |[r],h,hr=>
  simp only[xi] at h
  split at h
  .rename_i h1;simp at h;obtain⟨rfl,rfl,rfl⟩:=h;exact Mc hG hnF h1 hr hb
  cases h
 |[],h,hr=>
  simp only[xi] at h
  split at h
  .rename_i h1;simp at h;obtain⟨rfl,rfl,rfl⟩:=h
   obtain⟨arr,hu,hr⟩:=hr
   obtain⟨k1,k2⟩:=BW hG hnF h1 hr hb
   exact⟨⟨arr,hu,k1⟩,k2⟩
  cases h
 |r1::r2::rs,h,hr=>
  simp only[xi] at h
  split at h
  .rename_i h1;simp at h;obtain⟨rfl,rfl,rfl⟩:=h
   obtain⟨arr,hu,hr⟩:=hr
   obtain⟨k1,k2⟩:=BW hG hnF h1 hr hb
   exact⟨⟨arr,hu,k1⟩,k2⟩
  cases h
end
theorem Sg{G:Nat->Prop}{base:Nat}{r:RC}{bs:Lac}(h:rcR w G base r u bs):∀p∈bs,base<=p.1/\p.1<w.heap.size:=by
 cases r with
 |d x=>obtain⟨rfl,_⟩:=h;simp
 |own ty sz els n=>
  obtain⟨b,c,arr,rfl,_,hh,_,_,_,_,_,_,hb⟩:=h
  grind
 |nil=>obtain⟨rfl,_⟩:=h;simp
theorem MK{w:World}{G:Nat->Prop}{base:Nat}:∀{rs:List RC} {us:Lae} {bs:Lac},Ci w G base rs us bs->∀p∈bs,base<=p.1/\p.1<w.heap.size
 |[],[],bs,h=>by have:bs=[]:=h;simp_all
 |r::rs,u::us,bs,h=>λp hp=>by
  obtain⟨b1,b2,rfl,h1,h2⟩:=h
  rcases Zn.1 hp with h|h
  .exact Sg h1 p h
  exact MK h2 p h
 |[],_::_,_,h=>h.elim
 |_::_,[],_,h=>h.elim
theorem Sy{G:Nat->Prop}{base:Nat}{r:RV}{bs:Lac}(h:rvR w G base r u bs):∀p∈bs,base<=p.1/\p.1<w.heap.size:=by
 cases r with
 |c r=>exact Sg h
 |agg rs=>obtain⟨_,_,h⟩:=h;exact MK h
theorem F7{w:World}{G:Nat->Prop}{base:Nat}:∀{rs:List RV} {us:Lae} {bs:Lac},zY w G base rs us bs->∀p∈bs,base<=p.1/\p.1<w.heap.size
 |[],[],bs,h=>by have:bs=[]:=h;simp_all
 |r::rs,u::us,bs,h=>λp hp=>by
  obtain⟨b1,b2,rfl,h1,h2⟩:=h
  rcases Zn.1 hp with h|h
  .exact Sy h1 p h
  exact F7 h2 p h
 |[],_::_,_,h=>h.elim
 |_::_,[],_,h=>h.elim
theorem yE{G:Nat->Prop}{base:Nat}{rs:List RV}{bs:Lac}(h:wv w G base rs u bs):∀p∈bs,base<=p.1/\p.1<w.heap.size:=by
 match rs,h with
 |[r],h=>exact Sy h
 |[],h=>obtain⟨_,_,h⟩:=h;exact F7 h
 |_::_::_,h=>obtain⟨_,_,h⟩:=h;exact F7 h
section
variable{P:Program}{N:Nat}{d:Tmp}{ty:TypeId}{ps:String}{af:Array Edge}{gd:Option (Nat×Bool)}{st:St}
def Env.after(E:Env)(nx:Nat)(bs:Lac)(G:Nat->Prop):Env:=
 ⟨λo=>if nx<=o/\o<nx+bs.length then bs[o-nx]? else E.r o,λb=>E.F b\/G b,λb=>E.G b\/G b,E.T,E.Z,E.n⟩
theorem zu{cx:Cx}{bs:Lac}{G:Nat->Prop}(ok:cF cx E w)(hp:zk w w' (λ_=>False))(hG:∀b,G b->w.heap.size<=b/\b<w'.heap.size/\eJ w' b)(hbs:∀p∈bs,w.heap.size<=p.1/\p.1<w'.heap.size)(hnd:(bs.map (·.1)).Nodup)(hfr:∀l,nx<=l->l<nx+bs.length->E.r l=ξ/\rsv l=η):
 cF cx (E.after nx bs G) w'/\Ext E w (E.after nx bs G) w':=by
 have hsz:=hp.size
 have hws:=ok.size
 have hnew:∀o b c,(E.after nx bs G).r o=ς (b,c)->(nx<=o/\o<nx+bs.length/\bs[o-nx]?=ς (b,c))\/(E.r o=ς (b,c)):=by
  intro o b c h
  simp only[Env.after] at h
  split at h
  .simp_all
  exact .inr h
 refine⟨⟨λb hb=>?_,λb hb=>?_,λb hb=>?_,λo b c h=>?_,λo o' b c c' h h'=>?_,by rw[hp.os];exact ok.os,by rw[hp.tape];exact ok.tape,by rw[hp.output];exact ok.output,by omega,λb hb hW=>?_,λo x hx h=>?_,λb hb=>hb.elim (ok.ff b) (λh=>.inr (by grind)),
  λb hb hb'=>hb.elim (λh=>(ok.gc b h hb').of_eq (hp.block b (ok.fb b h) (λh=>h))) (λh=>(hG b h).2.2),
  ok.sf.grow rfl rfl (λb hb=>hb.elim .inl (λh=>.inr (hG b h).1)) (λo b c h=>by
   grind) hsz (λb hb=>hp.block b hb (λh=>h))⟩,
  ⟨λo x h=>?_,λb h=>.inl h,λb h=>.inl h,λb h=>?_,λb hb=>hp.block b hb (λh=>h),λ_ _ h=>h,λ_ _ h=>.inl h,rfl,rfl⟩⟩
 .rcases hb with h|h
  .have:=ok.fb b h;omega
  simp_all
 .rcases hb with h|h
  .exact .inl (ok.gf b h)
  exact .inr h
 .rcases hb with h|h
  .exact ok.gn b h
  grind
 .rcases hnew o b c h with⟨_,_,h⟩|h
  .have:=hbs _ (Zk h);exact⟨this.2,.inl (.inl (Zz hws this.1))⟩
  have:=ok.rb o b c h;exact⟨by omega,this.2⟩
 .rcases hnew o b c h with⟨h1,h2,h3⟩|h3<;>rcases hnew o' b c' h' with⟨k1,k2,k3⟩|k3
  .have hi:o-nx<bs.length:=by omega
   have hj:o'-nx<bs.length:=by omega
   rcases Nat.lt_trichotomy (o-nx) (o'-nx) with hlt|heq|hlt
   .exfalso
    have:=ZJ.1 hnd (o-nx) (o'-nx) (by simp_all) (by simp_all) hlt
    simp_all
   .omega
   exfalso
   have:=ZJ.1 hnd (o'-nx) (o-nx) (by simp_all) (by simp_all) hlt
   simp_all
  .have h5:=hbs _ (Zk h3);have h6:=ok.rb o' b c' k3;omega
  .have h5:=hbs _ (Zk k3);have h6:=ok.rb o b c h3;omega
  exact ok.inj o o' b c c' h3 k3
 .rw[hp.block b oaa (λh=>h)];exact ok.block b hb hW
 .rcases hnew o x.1 x.2 h with⟨h1,h2,_⟩|h
  .rw[mn (hfr o h1 h2).2] at hx;cases hx
  exact ok.pin o x hx h
 .simp only[Env.after]
  grind
 rcases h with h|h
 .exact .inl h
 simp_all
theorem X2{f:FuncId}{args:List Operand}{tys:Array TypeId}{ts:List T}{avs:List AV}{eqs:Lac}{nw:Laa}(hl:ts.length=args.length)(ha:qN nob ts=ς (avs,eqs))(hF:Fn P f avs res)(he:Eqs eqs)(hi:xi nx res=ς (out,nw,n)):
 AWN P ⟨ς d,.call ⟨.value (.func f),args.toArray,tys⟩,ty,ps,af,gd⟩ (args.zip ts) nob out nw:=by
 intro cx E a w ok hn hb hfr
 have hob:∀l x,go nob l=ς x->cg E w l x:=λl x h=>hb l x (uR h)
 have hA:=Aa ok hob ha he hl hn
 have hFb:∀b,xR E nob b->b<w.heap.size:=by
  rintro b ((h|⟨l,x,c,h1,h2⟩)|⟨l,h⟩)
  .exact ok.fb b h
  .exact(ok.rb l b c h2).1
  exact(ok.sf.tb l b h).1.1
 have hc:=hF.calls (xR E nob) w (args.map a.eval).toArray hFb ok.tabs oaa
 have hent:=hF.enters (args.map a.eval).toArray w
 unfold Oper.wp
 have hrun:(execOp a.eval ⟨ς d,.call ⟨.value (.func f),args.toArray,tys⟩,ty,ps,af,gd⟩).run P w= .ok (.enter f (args.map a.eval).toArray) w:=by
  simp only[execOp,resolve,Act.eval,Deferred.ofValue,Sem.run_bind,Sem.run_pure,Result.andThen_ok,invoke]
  simpa using hent
 rw[hrun,Oper.upon_enter]
 refine hc.mono ?_
 rintro e w' ⟨v,G,bs,rfl,hp,hG,hres,hnd⟩
 have hbs:=yE hres
 have hlen:∀l,nx<=l->l<nx+bs.length->E.r l=ξ/\rsv l=false:=by
  have himp:=vQ (E:=⟨λo=>bs[o-nx]?,G,G,λ_ _=>False,λ_=>False,λ_=>False⟩) (λ_ h=>h) (λb _ h=>h) hi hres (λi p hi=>by simp_all)
  intro l h1 h2
  obtain⟨x,hx⟩:=himp.2.2.2 l h1 (by rw[himp.2.1];exact h2)
  exact hfr l x hx
 obtain⟨ok',ext⟩:=zu ok hp hG hbs hnd hlen
 have himp:=vQ (E:=E.after nx bs G) (G:=G) (base:=w.heap.size) (λb h=>.inr h) (λb hb hng hF=>by
  rcases hF with h|h
  .have:=ok.fb b h;omega
  simp_all) hi hres (λi p hi=>by
   have:i<bs.length:=(v0.1 hi).1
   simp only[Env.after];simp_all)
 refine⟨v,E.after nx bs G,rfl,ok',ext,himp.1,λl ob hm=>(himp.2.2.1 l ob hm).1,λl x hx=>?_⟩
 simp only[Env.after] at hx
 split at hx
 .rename_i hh;obtain⟨x,hx⟩:=himp.2.2.2 l hh.1 (by rw[himp.2.1];exact hh.2);grind
 simp_all
structure Inf where
 d:Tmp
 needs:List (Operand×T)
 nob:Laa
 out:T
 nw:Laa
def NS(P:Program)(N:Nat)(o:Oper)(st st':St)(x:Inf):Prop:=
 AWN P o x.needs x.nob x.out x.nw/\o.dst=ς x.d/\x.d<N/\Lk st.sl x.needs/\Lo st.ob x.nob/\Nw st.nx x.nw st'.nx/\st'=⟨(x.d,x.out)::st.sl,x.nw++st.ob,st'.nx⟩
theorem c9{o:Oper}{needs:List (Operand×T)}{nw:Laa}(h:AWN P o needs nob out nw)(hd:o.dst=ς d)(hN:nlt d N=ζ)(hn:Lk st.sl needs)(hb:Lo st.ob nob)(hw:Nw st.nx nw n):
 NS P N o st ⟨(d,out)::st.sl,nw++st.ob,n⟩ ⟨d,needs,nob,out,nw⟩:=⟨h,hd,bO hN,hn,hb,hw,rfl⟩
theorem RQ{o:Oper}{st':St}{x:Inf}(h:NS P N o st st' x):AWO P N o st st':=by
 obtain⟨h1,h2,h3,h4,h5,h6,h7⟩:=h
 rw[h7]
 exact JE h1 h2 h3 h4 h5 h6
theorem uJ{ops:Array Oper}{l:List Oper}{o:Oper}{st':St}{x:Inf}{K:St->Prop}(hg:o.guard=ξ)(h:NS P N o st st' x)(h':AWR P N ops l st' K):AWR P N ops (o::l) st K:=iu hg (RQ h) h'
theorem Bl{ops:Array Oper}{l:List Oper}{o:Oper}{st':St}{x:Inf}{K:St->Prop}{b:Bool}(hg:o.guard=ς (j,b))(hj:(ops[j]?).bind (·.dst)=ς dj)(hdj:nlt dj N=ζ)(hb:gt st.sl dj=tB b)(h:NS P N o st st' x)(h':AWR P N ops l st' K):AWR P N ops (o::l) st K:=jq hg hj (bO hdj) hb (RQ h) h'
def DS(P:Program)(N:Nat)(ops:Array Oper)(o:Oper)(st st':St)(x:Inf):Prop:=
 (o.guard=ξ/\NS P N o st st' x)\/
 (∃j dj b y,o.guard=ς (j,b)/\(ops[j]?).bind (·.dst)=ς dj/\dj<N/\gt st.sl dj=tB b/\NS P N o st st' y/\x={y with needs:=(.tmp dj,tB b)::y.needs})\/
 (∃j dj b d,o.guard=ς (j,b)/\(ops[j]?).bind (·.dst)=ς dj/\dj<N/\noG b (gt st.sl dj)=ζ/\o.dst=ς d/\d<N/\x=⟨d,[(.tmp dj,gt st.sl dj)],[],.tup [],[]⟩/\st'=⟨(d,.tup [])::st.sl,st.ob,st.nx⟩)
def sj(s t:St):Prop:=(∀k,gt s.sl k=gt t.sl k)/\s.ob=t.ob/\s.nx=t.nx
def DR(P:Program)(N:Nat)(ops:Array Oper):List Oper->List Inf->St->(List Inf->St->Prop)->Prop
 |[],is,st,K=>K is st
 |o::r,is,st,K=>∃x st1 st',DS P N ops o st st1 x/\sj st1 st'/\DR P N ops r (is++[x]) st' K
section
variable{ops:Array Oper}{l:List Oper}{o:Oper}{st':St}{x:Inf}{K:List Inf->St->Prop}{is:List Inf}
theorem Xt(h:K is st):DR P N ops [] is st K:=h
theorem sj.refl(s:St):sj s s:=⟨λ_=>rfl,rfl,rfl⟩
theorem dr_n(hg:o.guard=ξ)(h:NS P N o st st' x)(h':DR P N ops l (is++[x]) st' K):DR P N ops (o::l) is st K:=⟨x,st',st',.inl ⟨hg,h⟩,.refl _,h'⟩
theorem Qu{b:Bool}(hg:o.guard=ς (j,b))(hj:(ops[j]?).bind (·.dst)=ς dj)(hdj:nlt dj N=ζ)(hb:gt st.sl dj=tB b)(h:NS P N o st st' x)(h':DR P N ops l (is++[{x with needs:=(.tmp dj,tB b)::x.needs}]) st' K):DR P N ops (o::l) is st K:=⟨_,st',st',.inr (.inl ⟨j,dj,b,x,hg,hj,bO hdj,hb,h,rfl⟩),.refl _,h'⟩
theorem UO{d:Tmp}{b:Bool}(hg:o.guard=ς (j,b))(hj:(ops[j]?).bind (·.dst)=ς dj){t:T}(hdj:nlt dj N=ζ)(ht:gt st.sl dj=t)(hb:noG b t=ζ)(hd:o.dst=ς d)(hN:nlt d N=ζ)(h':DR P N ops l (is++[⟨d,[(.tmp dj,t)],[],.tup [],[]⟩]) ⟨(d,.tup [])::st.sl,st.ob,st.nx⟩ K):DR P N ops (o::l) is st K:=
 ⟨_,_,_,.inr (.inr ⟨j,dj,b,d,hg,hj,bO hdj,by simp_all,hd,bO hN,by rw[ht],rfl⟩),.refl _,h'⟩
theorem rF{d:Tmp}{b c:Bool}(hb:gt st.sl d=tB b)(h:b=c):sj st ⟨(d,tB c)::st.sl,st.ob,st.nx⟩:=by
 refine⟨λk=>?_,rfl,rfl⟩
 by_cases hk:d=k
 .subst hk;rw[cG,hb,h]
 rw[b7 _ _ hk]
end
end
theorem qq{s t:Lab}(h:∀k,gt s k=gt t k)(x:Operand):opT s x=opT t x:=by
 cases x with
 |tmp k=>exact h k
 |const v=>cases v<;>rfl
 |_=>rfl
theorem EV{s t:Lab}(h:∀k,gt s k=gt t k):∀{l:List (Operand×T)},Lk s l->Lk t l
 |[],_=>trivial
 |(x,v)::r,hl=>⟨by rw[<-qq h];exact hl.1,EV h hl.2⟩
section
variable{P:Program}{N:Nat}{ops:Array Oper}{l:List Oper}{o:Oper}{st st' st2:St}{K:List Inf->St->Prop}{is:List Inf}
theorem IS{t:St}(h:sj s t)(d:Tmp)(v:T)(nw:Laa)(n:Nat):sj ⟨(d,v)::s.sl,nw++s.ob,n⟩ ⟨(d,v)::t.sl,nw++t.ob,n⟩:=by
 refine⟨λk=>?_,by rw[h.2.1],rfl⟩
 by_cases hk:d=k
 .subst hk;rw[cG,cG]
 rw[b7 _ _ hk,b7 _ _ hk];exact h.1 k
theorem sj.trans{a b c:St}(h:sj a b)(k:sj b c):sj a c:=⟨λi=>(h.1 i).trans (k.1 i),h.2.1.trans k.2.1,h.2.2.trans k.2.2⟩
theorem Mv{x:Inf}(h:sj st st2)(hn:NS P N o st2 st' x):∃s',NS P N o st s' x/\sj s' st':=by
 obtain⟨h1,h2,h3,h4,h5,h6,h7⟩:=hn
 refine⟨⟨(x.d,x.out)::st.sl,x.nw++st.ob,st'.nx⟩,⟨h1,h2,h3,EV (λk=>(h.1 k).symm) h4,by rw[h.2.1];exact h5,by rw[h.2.2];exact h6,rfl⟩,?_⟩
 rw[h7]
 exact IS h _ _ _ _
theorem LL(h:sj st st2)(hd:DR P N ops (o::l) is st2 K):DR P N ops (o::l) is st K:=by
 obtain⟨x,st1,st',hds,hs,hr⟩:=hd
 rcases hds with⟨hg,hn⟩|⟨j,dj,b,y,hg,hj,hdj,hb,hn,rfl⟩|⟨j,dj,b,d,hg,hj,hdj,hb,hd,hN,rfl,rfl⟩
 .obtain⟨s',k1,k2⟩:=Mv h hn
  exact⟨x,s',st',.inl ⟨hg,k1⟩,k2.trans hs,hr⟩
 .obtain⟨s',k1,k2⟩:=Mv h hn
  exact⟨_,s',st',.inr (.inl ⟨j,dj,b,y,hg,hj,hdj,by rw[h.1];exact hb,k1,rfl⟩),k2.trans hs,hr⟩
 refine⟨_,⟨(d,.tup [])::st.sl,st.ob,st.nx⟩,st',.inr (.inr ⟨j,dj,b,d,hg,hj,hdj,by rw[h.1];exact hb,hd,hN,by rw[h.1],rfl⟩),sj.trans ?_ hs,hr⟩
 have:=IS h d (.tup []) [] st.nx
 refine⟨this.1,this.2.1,h.2.2⟩
theorem Qv{d:Tmp}{b:Bool}(hb:gt st.sl d=tB b)(h1:b=ζ->DR P N ops (o::l) is ⟨(d,tB ζ)::st.sl,st.ob,st.nx⟩ K)(h0:b=η->DR P N ops (o::l) is ⟨(d,tB η)::st.sl,st.ob,st.nx⟩ K):DR P N ops (o::l) is st K:=by
 cases hc:b with
 |true=>exact LL (rF hb hc) (h1 hc)
 |false=>exact LL (rF hb hc) (h0 hc)
end
def ik:List (Operand×T)->List Nat
 |[]=>[]
 |(.tmp k,_)::r=>k::ik r
 |_::r=>ik r
def anc(ops:Array Oper):Nat->Nat->Nat->Bool
 |0,_,_=>η
 |n+1,i,j=>match ops[i]? with
  |none=>η
  |some o=>o.after.toList.any λe=>Region.binds .any e&&(d0 e.on j||anc ops n e.on j)
def sQ(is:List Inf)(k:Nat):Option Nat:=is.findIdx? λx=>d0 x.d k
def Rr(is:List Inf)(l:Nat):Option Nat:=is.findIdx? λx=>x.nw.any λp=>d0 p.1 l
def p6:List Inf->Bool
 |[]=>ζ
 |x::xs=>!(xs.any λy=>d0 x.d y.d)&&p6 xs
def xc(ops:Array Oper)(is:List Inf)(nx:Nat):Bool:=
 d0 is.length ops.size&&p6 is&&
 (Zm is.length).all λi=>match is[i]?,ops[i]? with
  |some x,ς o=>
   (o.after.toList.all λe=>!Region.binds .any e||nlt e.on i)&&
   ((ik x.needs).all λk=>match sQ is k with
    |none=>ζ
    |some j=>if nlt j i then anc ops is.length i j else d0 i j||anc ops is.length j i)&&
   (x.nob.all λp=>nlt p.1 nx||match Rr is p.1 with
    |none=>η
    |some j=>anc ops is.length i j)
  |_,_=>η
def after(base:St):List Inf->Lab×Laa
 |is=>(is.foldl (λs x=>(x.d,x.out)::s) base.sl,is.foldl (λs x=>x.nw++s) base.ob)
def tx(base:St)(is:List Inf):Lab:=is.foldl (λs x=>(x.d,x.out)::s) base.sl
def Dj(base:St)(is:List Inf):Laa:=is.foldl (λs x=>x.nw++s) base.ob
theorem wi(base:St)(is:List Inf)(x:Inf):tx base (is++[x])=(x.d,x.out)::tx base is:=by simp[tx]
theorem D7(base:St)(is:List Inf)(x:Inf):Dj base (is++[x])=x.nw++Dj base is:=by simp[Dj]
def Xc(P:Program)(N:Nat)(ops:Array Oper)(base:St)(pre:List Inf)(o:Oper)(x:Inf):Prop:=
 (∀y t,(y,t)∈x.needs->opT (tx base pre) y=t)/\(∀l ob,(l,ob)∈x.nob->go (Dj base pre) l=ς ob)/\o.dst=ς x.d/\x.d<N/\
 ((o.guard=ξ/\AWN P o x.needs x.nob x.out x.nw)\/
  (∃j dj b ys,o.guard=ς (j,b)/\(ops[j]?).bind (·.dst)=ς dj/\dj<N/\x.needs=(.tmp dj,tB b)::ys/\AWN P o ys x.nob x.out x.nw)\/
  (∃j dj b t,o.guard=ς (j,b)/\(ops[j]?).bind (·.dst)=ς dj/\dj<N/\x.needs=[(.tmp dj,t)]/\noG b t=ζ/\x.out= .tup []/\x.nw=[]))
def eA(nx:Nat):List Inf->Nat->Prop
 |[],n=>n=nx
 |x::xs,n=>∃m,Nw nx x.nw m/\eA m xs n
theorem eA.snoc{x:Inf}:∀{is:List Inf} {nx n m:Nat},eA nx is n->Nw n x.nw m->eA nx (is++[x]) m
 |[],nx,n,m,h,h'=>by have:n=nx:=h;subst this;exact⟨m,h',rfl⟩
 |y::ys,nx,n,m,⟨k,h1,h2⟩,h'=>⟨k,h1,eA.snoc h2 h'⟩
theorem LN{P:Program}{N:Nat}{ops:Array Oper}{base:St}{K:List Inf->St->Prop}:∀{l:List Oper} {is:List Inf} {st:St},DR P N ops l is st K->(∀k,gt st.sl k=gt (tx base is) k)->st.ob=Dj base is->eA base.nx is st.nx->
 ∃xs st',xs.length=l.length/\(∀(i:Nat) (o:Oper) (x:Inf),l[i]?=ς o->xs[i]?=ς x->Xc P N ops base (is++xs.take i) o x)/\eA base.nx (is++xs) st'.nx/\(∀k,gt st'.sl k=gt (tx base (is++xs)) k)/\st'.ob=Dj base (is++xs)/\K (is++xs) st'
 |[],is,st,h,h1,h2,h3=>⟨[],st,rfl,by simp,by simp_all,by simp_all,by simp_all,by simpa [DR] using h⟩
 |o::l,is,st,⟨x,st1,st2,hds,hsame,hr⟩,h1,h2,h3=>by
  have hput:∀(out:T) (nw:Laa) (n:Nat),x.out=out->x.nw=nw->st1=⟨(x.d,out)::st.sl,nw++st.ob,n⟩->Nw st.nx nw n->((∀k,gt st2.sl k=gt (tx base (is++[x])) k)/\st2.ob=Dj base (is++[x]))/\eA base.nx (is++[x]) st2.nx:=by
   rintro out nw n rfl rfl rfl hnw
   refine⟨⟨λk=>?_,?_⟩,?_⟩
   .rw[<-hsame.1 k,wi]
    by_cases hk:x.d=k
    .rw[hk,cG,cG]
    rw[b7 _ _ hk,b7 _ _ hk];exact h1 k
   .rw[<-hsame.2.1,D7,h2]
   rw[<-hsame.2.2];exact h3.snoc hnw
  have key:Xc P N ops base is o x/\((∀k,gt st2.sl k=gt (tx base (is++[x])) k)/\st2.ob=Dj base (is++[x]))/\eA base.nx (is++[x]) st2.nx:=by
   rcases hds with⟨hg,k1,k2,k3,k4,k5,k6,k7⟩|⟨j,dj,b,y,hg,hj,hdj,hb,⟨k1,k2,k3,k4,k5,k6,k7⟩,rfl⟩|⟨j,dj,b,d,hg,hj,hdj,hb,hd,hN,rfl,rfl⟩
   .exact⟨⟨λy t hm=>by rw[<-qq h1];exact Lk.mem k4 y t hm,λl' ob hm=>by rw[<-h2];exact Lo.mem k5 l' ob hm,k2,k3,.inl ⟨hg,k1⟩⟩,hput _ _ _ rfl rfl k7 k6⟩
   .refine⟨⟨λy' t hm=>?_,λl' ob hm=>by rw[<-h2];exact Lo.mem k5 l' ob hm,k2,k3,.inr (.inl ⟨j,dj,b,y.needs,hg,hj,hdj,rfl,k1⟩)⟩,hput _ _ _ rfl rfl k7 k6⟩
    rw[<-qq h1]
    rcases Zp.1 hm with e|hm
    .cases e;exact hb
    exact Lk.mem k4 y' t hm
   refine⟨⟨λy' t hm=>?_,by simp,hd,hN,.inr (.inr ⟨j,dj,b,_,hg,hj,hdj,rfl,hb,rfl,rfl⟩)⟩,hput (.tup []) [] st.nx rfl rfl rfl rfl⟩
   rw[<-qq h1]
   simp at hm;obtain⟨rfl,rfl⟩:=hm;rfl
  obtain⟨hT,⟨m1,m2⟩,m3⟩:=key
  obtain⟨xs,st',n1,n2,n3,n4,n5,n6⟩:=LN hr m1 m2 m3
  refine⟨x::xs,st',by simp[n1],λi o' x' hi hx=>?_,by simp_all,by simp_all,by simp_all,by simp_all⟩
  cases i with
  |zero=>simp_all
  |succ i=>simp_all
theorem Gu{p:List α->Prop}(h0:p [])(h1:∀l x,p l->p (l++[x]))(l:List α):p l:=by
 have key:∀l:List α,p l.reverse:=by
  intro l
  induction l with
  |nil=>exact h0
  |cons x l ih=>simp_all
 have:=key l.reverse
 simp_all
theorem pR{ops:Array Oper}{listed:Array Bool}(hc:∀i o,ops[i]?=ς o->listed.getD i η=ζ->∀e∈o.after,Region.binds .any e=ζ->listed.getD e.on η=ζ):
 ∀(n i j:Nat),anc ops n i j=ζ->(∃o,ops[i]?=ς o/\∀e∈o.after,Region.binds .any e=ζ->listed.getD e.on η=ζ)->listed.getD j η=ζ
 |0,i,j,h,_=>by simp[anc] at h
 |n+1,i,j,h,⟨o,ho,hd⟩=>by
  simp only[anc,ho,ZG,hV,ZC] at h
  obtain⟨e,he,hb,h⟩:=h
  have hl:=hd e (by simp_all) hb
  rcases h with h|h
  .rw[<-Zo h];exact hl
  cases ho':ops[e.on]? with
  |none=>cases n<;>simp[anc,ho'] at h
  |some o'=>exact pR hc n e.on j h ⟨o',ho',hc e.on o' ho' hl⟩
theorem p7:∀{is:List Inf},p6 is=ζ->∀(i j:Nat) (x y:Inf),is[i]?=ς x->is[j]?=ς y->x.d=y.d->i=j
 |[],_,i,j,x,y,h,_,_=>by simp at h
 |z::is,h,i,j,x,y,hi,hj,he=>by
  simp only[p6,hV,ZD] at h
  have hno:∀(k:Nat) (v:Inf),is[k]?=ς v->z.d≠v.d:=λk v hk e=>by
   have:(is.any λy=>d0 z.d y.d)=true:=ZG.2 ⟨v,Zk hk,by simp[e]⟩
   grind
  cases i with
  |zero=>
   grind
  |succ i=>
   cases j with
   |zero=>grind
   |succ j=>have:=p7 h.2 i j x y (by simp_all) (by simp_all) he;omega
theorem wh{base:St}:∀(is:List Inf) (k:Nat),(∀x∈is,x.d≠k)->gt (tx base is) k=gt base.sl k:=by
 intro is
 refine Gu (p:=λis=>∀(k:Nat),(∀x∈is,x.d≠k)->gt (tx base is) k=gt base.sl k) ?_ ?_ is
 .intro k _;rfl
 intro is x ih k h
 rw[wi,b7 _ _ (h x (by simp))]
 simp_all
theorem uk{base:St}:∀(is:List Inf) (i:Nat) (x:Inf),is[i]?=ς x->(∀(j:Nat) (y:Inf),is[j]?=ς y->y.d=x.d->j=i)->gt (tx base is) x.d=x.out:=by
 intro is
 refine Gu (p:=λis=>∀(i:Nat) (x:Inf),is[i]?=ς x->(∀(j:Nat) (y:Inf),is[j]?=ς y->y.d=x.d->j=i)->gt (tx base is) x.d=x.out) ?_ ?_ is
 .simp_all
 intro is z ih i x h hu
 rw[wi]
 by_cases hi:i<is.length
 .rw[Zt hi] at h
  have hz:z.d≠x.d:=λe=>by
   simp_all
  rw[b7 _ _ hz]
  exact ih i x h λj y hj he=>hu j y (by grind) he
 rw[Zr oaa] at h
 have:i-is.length=0:=by
  rcases Nat.eq_zero_or_pos (i-is.length) with h0|h0
  .exact h0
  grind
 rw[this] at h;simp at h;subst h
 exact cG _ _ _
theorem L1{base:St}:∀(is:List Inf) (l:Nat) (ob:Ob),go (Dj base is) l=ς ob->(∃(j:Nat) (x:Inf),is[j]?=ς x/\(l,ob)∈x.nw)\/go base.ob l=ς ob:=by
 intro is
 refine Gu (p:=λis=>∀(l:Nat) (ob:Ob),go (Dj base is) l=ς ob->(∃(j:Nat) (x:Inf),is[j]?=ς x/\(l,ob)∈x.nw)\/go base.ob l=ς ob) ?_ ?_ is
 .intro l ob h;exact .inr h
 intro is z ih l ob h
 rw[D7] at h
 rcases zE h with h|h
 .exact .inl ⟨is.length,z,by simp,h⟩
 rcases ih l ob h with⟨j,x,h1,h2⟩|h
 .exact .inl ⟨j,x,by grind,h2⟩
 simp_all
theorem jT:∀{is:List Inf} {nx n:Nat},eA nx is n->nx<=n/\∀(j:Nat) (x:Inf) (l:Nat) (ob:Ob),is[j]?=ς x->(l,ob)∈x.nw->nx<=l/\l<n
 |[],nx,n,h=>⟨by have:n=nx:=h;omega,by simp⟩
 |y::ys,nx,n,⟨m,h1,h2⟩=>by
  obtain⟨a1,a2⟩:=Nw.mem h1
  obtain⟨b1,b2⟩:=jT h2
  grind
theorem Mx:∀{nw:Laa} {nx n:Nat},Nw nx nw n->∀l x y,(l,x)∈nw->(l,y)∈nw->x=y
 |[],_,_,_,l,x,y,h,_=>by simp at h
 |(k,z)::r,nx,n,h,l,x,y,h1,h2=>by
  rw[Nw] at h
  have hr:=(Nw.mem h.2).2
  rcases Zp.1 h1 with e1|h1<;>rcases Zp.1 h2 with e2|h2
  .simp_all
  .grind
  .grind
  exact Mx h.2 l x y h1 h2
theorem B2:∀{is:List Inf} {nx n:Nat},eA nx is n->∀(j:Nat) (x:Inf) (l:Nat) (ob:Ob),is[j]?=ς x->(l,ob)∈x.nw->rsv l=η
 |[],_,_,_,_,_,_,_,h,_=>by simp at h
 |y::ys,nx,n,⟨m,h1,h2⟩,0,x,l,ob,hx,hm=>by
  simp at hx;subst hx
  exact((Nw.mem h1).2 l ob hm).2.2
 |y::ys,nx,n,⟨m,h1,h2⟩,j+1,x,l,ob,hx,hm=>B2 h2 j x l ob (by simp_all) hm
theorem vR:∀{is:List Inf} {nx n:Nat},eA nx is n->∀(j j':Nat) (x x':Inf) (l:Nat) (ob ob':Ob),is[j]?=ς x->is[j']?=ς x'->(l,ob)∈x.nw->(l,ob')∈x'.nw->j=j'/\ob=ob'
 |[],nx,n,h,j,j',x,x',l,ob,ob',h1,_,_,_=>by simp at h1
 |y::ys,nx,n,⟨m,h1,h2⟩,j,j',x,x',l,ob,ob',hj,hj',hm,hm'=>by
  have a2:=(Nw.mem h1).2
  have b2:=(jT h2).2
  cases j with
  |zero=>
   cases j' with
   |zero=>simp at hj hj';subst hj;subst hj';exact⟨rfl,Mx h1 l ob ob' hm hm'⟩
   |succ j'=>grind
  |succ j=>
   cases j' with
   |zero=>grind
   |succ j'=>have:=vR h2 j j' x x' l ob ob' (by simp_all) (by simp_all) hm hm';simp_all
structure Inv(P:Program)(N:Nat)(cx:Cx)(base:St)(is:List Inf)(listed:Array Bool)(a:Act)(w:World)(E:Env):Prop where
 ok:cF cx E w
 dom:∀l x,E.r l=ς x->l<base.nx\/∃j y ob,listed.getD j η=ζ/\is[j]?=ς y/\(l,ob)∈y.nw
 obs:∀l ob,go base.ob l=ς ob->cg E w l ob
 new:∀j y l ob,listed.getD j η=ζ->is[j]?=ς y->(l,ob)∈y.nw->cg E w l ob
 out:∀j y,listed.getD j η=ζ->is[j]?=ς y->cvT E w y.out (a.tmps.getD y.d undef)
 old:∀k,(∀j y,listed.getD j η=ζ->is[j]?=ς y->y.d≠k)->cvT E w (gt base.sl k) (a.tmps.getD k undef)
 dfr:a.defers=[]
 size:a.tmps.size=N
 td:∀l b,E.T l b->l<base.nx\/∃j y ob,listed.getD j η=ζ/\is[j]?=ς y/\(l,ob)∈y.nw
theorem cm{listed:Array Bool}(hi:i<listed.size):(listed.setIfInBounds i ζ).getD j η=if i=j then ζ else listed.getD j false:=by
 by_cases h:i=j
 .simp_all
 simp_all
section
variable{P:Program}{N:Nat}{cx:Cx}{ops:Array Oper}{base:St}{is:List Inf}{Q:Exit->Act->World->Prop}
theorem Rk{listed:Array Bool}(hI:Inv P N cx base is listed a w E){nmax:Nat}(hlab:eA base.nx is nmax)(hdst:p6 is=ζ){x:Inf}(hx:is[i]?=ς x)(hil:i<listed.size)(hun:listed.getD i η=η)(hdN:x.d<N){v:Value}(ok':cF cx E' w')(ext:Ext E w E' w')(hv:cvT E' w' x.out v)(hnw:∀l ob,(l,ob)∈x.nw->cg E' w' l ob)(hdom:∀l y,E'.r l=ς y->E.r l=ς y\/∃ob,(l,ob)∈x.nw):Inv P N cx base is (listed.setIfInBounds i ζ) (a.put (ς x.d) v) w' E':=by
 have hk:=gb.of_ext hI.ok ext
 have hd':∀j y,is[j]?=ς y->j≠i->y.d≠x.d:=λj y hj hne he=>hne (p7 hdst j i y x hj hx he)
 refine⟨ok',λl y hl=>?_,λl ob hl=>vW hI.ok ext (hI.obs l ob hl),λj y l ob hj hy hm=>?_,λj y hj hy=>?_,λk hkk=>?_,hI.dfr,by simpa [Act.put] using hI.size,λl b h=>?_⟩
 .rcases hdom l y hl with h|⟨ob,h⟩
  .rcases hI.dom l y h with h|⟨j,z,ob,h1,h2,h3⟩
   .exact .inl h
   refine .inr ⟨j,z,ob,?_,h2,h3⟩
   rw[cm hil];simp_all
  exact .inr ⟨i,x,ob,by simp_all,hx,h⟩
 .by_cases hji:i=j
  .simp_all
  rw[cm hil,if_neg hji] at hj;exact vW hI.ok ext (hI.new j y l ob hj hy hm)
 .by_cases hji:i=j
  .subst hji;rw[hx] at hy;cases hy
   rw[eK (by rw[hI.size];exact hdN),if_pos rfl];exact hv
  rw[cm hil,if_neg hji] at hj
  rw[eK (by rw[hI.size];exact hdN),if_neg (Ne.symm (hd' j y hy (Ne.symm hji)))]
  exact iw hk (hI.out j y hj hy)
 .have hxk:x.d≠k:=hkk i x (by simp_all) hx
  rw[eK (by rw[hI.size];exact hdN),if_neg hxk]
  refine iw hk (hI.old k λj y hj hy=>hkk j y ?_ hy)
  rw[cm hil];simp_all
 have old:(l<base.nx\/∃j y ob,listed.getD j η=ζ/\is[j]?=ς y/\(l,ob)∈y.nw)->l<base.nx\/∃j y ob,(listed.setIfInBounds i ζ).getD j η=ζ/\is[j]?=ς y/\(l,ob)∈y.nw:=by
  rintro(h|⟨j,z,ob,h1,h2,h3⟩)
  .exact .inl h
  refine .inr ⟨j,z,ob,?_,h2,h3⟩
  rw[cm hil];simp_all
 rcases ext.T' l b h with h|⟨h0,y,h⟩
 .exact old (hI.td l b h)
 rcases hdom l y h with h|⟨ob,h⟩
 .rw[h0] at h;cases h
 exact .inr ⟨i,x,ob,by simp_all,hx,h⟩
theorem Ll(hN:is.length=ops.size){nmax:Nat}(hlab:eA base.nx is nmax)(hdst:p6 is=ζ)(hbk:∀l ob,go base.ob l=ς ob->l<base.nx)(hedge:∀i o,ops[i]?=ς o->∀e∈o.after,Region.binds .any e=ζ->e.on<i)(hslot:∀i x,is[i]?=ς x->∀k∈ik x.needs,∀j,sQ is k=ς j->if nlt j i then anc ops is.length i j=ζ else(i=j\/anc ops is.length j i=ζ))(hobj:∀i x,is[i]?=ς x->∀p∈x.nob,p.1<base.nx\/∃j,Rr is p.1=ς j/\anc ops is.length i j=ζ)(htold:∀(i:Nat) (o:Oper) (x:Inf),ops[i]?=ς o->is[i]?=ς x->Xc P N ops base (is.take i) o x)(hfin:∀listed a w E,(∀j,j<ops.size->listed.getD j η=ζ)->Inv P N cx base is listed a w E->Q .normal a w):
 ∀(fuel:Nat) (listed:Array Bool) (a:Act) (w:World) (E:Env),listed.size=ops.size->((Zm ops.size).filter λi=>!listed.getD i η).length=fuel->
  (∀i o,ops[i]?=ς o->listed.getD i η=ζ->∀e∈o.after,Region.binds .any e=ζ->listed.getD e.on η=ζ)->Inv P N cx base is listed a w E->wpAny P .any ops Q fuel listed a w:=by
 have hall:∀(listed:Array Bool),((Zm ops.size).filter λi=>!listed.getD i η).length=0->∀j,j<ops.size->listed.getD j η=true:=by
  intro listed h j hj
  have:=ZS h
  have h2:=List.filter_eq_nil_iff.1 this j (by simp_all)
  simpa using h2
 intro fuel
 induction fuel with
 |zero=>
  intro listed a w E hsz hc hcl hI
  have hal:=hall listed hc
  refine⟨?_,hfin listed a w E hal hI⟩
  rw[List.eq_nil_iff_forall_not_mem]
  intro i hi
  obtain⟨h1,o,h2,h3⟩:=mem_ready.1 hi
  grind
 |succ fuel ih=>
  intro listed a w E hsz hc hcl hI
  refine⟨λh0=>?_,λi hi=>?_⟩
  .
    exfalso
    have hex:∃i,i<ops.size/\listed.getD i η=false:=by
     have:((Zm ops.size).filter λi=>!listed.getD i η)≠[]:=λe=>by grind
     obtain⟨i,hi⟩:=List.exists_mem_of_ne_nil _ this
     simp only[List.mem_filter,List.mem_range,ZD] at hi
     exact⟨i,hi.1,hi.2⟩
    have hmin:∀n i,i<=n->i<ops.size->listed.getD i η=η->∃i,i∈Region.ready .any ops listed:=by
     intro n
     induction n using Z6 with
     |_ n ihn=>
      intro i hin his hif
      by_cases hd:∀e∈ops[i].after,Region.binds .any e=ζ->listed.getD e.on η=ζ
      .refine⟨i,mem_ready.2 ⟨?_,ops[i],ZO his,hd⟩⟩
       grind
      simp only[Classical.not_forall] at hd
      obtain⟨e,he,hb,hne⟩:=hd
      have hlt:=hedge i ops[i] (ZO his) e he hb
      exact ihn e.on oaa e.on (Zu _) oaa (by grind)
    obtain⟨i,h1,h2⟩:=hex
    obtain⟨j,hj⟩:=hmin i i (Zu _) h1 h2
    grind
  obtain⟨h1,o,ho,hd⟩:=mem_ready.1 hi
  have hio:i<ops.size:=by
   rcases ZF i ops.size with h|h
   .exact h
   grind
  have hun:listed.getD i η=false:=by
   rw[Array.getD_eq_getD_getElem?,ZO oaa] at h1 ⊢
   simpa using h1
  obtain⟨x,hx⟩:∃x,is[i]?=ς x:=⟨_,Zl oaa⟩
  obtain⟨t1,t2,t3,t4,t5⟩:=htold i o x ho hx
  have hanc:∀j,anc ops is.length i j=ζ->listed.getD j η=true:=λj hj=>pR hcl _ i j hj ⟨o,ho,hd⟩
  have hneeds:∀y t,(y,t)∈x.needs->cvT E w t (a.eval y):=by
   intro y t hm
   have ht:=t1 y t hm
   cases y with
   |tmp k=>
    have hks:k∈ik x.needs:=by
     have key:∀(l:List (Operand×T)),(Operand.tmp k,t)∈l->k∈ik l:=by
      intro l
      induction l with
      |nil=>grind
      |cons p r ihl=>
       intro h
       rcases Zp.1 h with e|h
       .rw[<-e];simp[ik]
       have h9:=ihl h;obtain⟨z,u⟩:=p;cases z<;>simp[ik,h9]
     exact key _ hm
    show cvT E w t (a.tmps.getD k undef)
    have ht':gt (tx base (is.take i)) k=t:=ht
    cases hw:sQ is k with
    |none=>
     have hno:∀z∈is,z.d≠k:=by
      intro z hz e
      have:=Z3.1 hw z hz
      rw[e] at this;simp at this
     rw[wh _ _ (λz hz=>hno z (ZL hz))] at ht'
     rw[<-ht']
     exact hI.old k λj y _ hy=>hno y (Zk hy)
    |some j=>
     have hs:=hslot i x hx k hks j hw
     obtain⟨hjl,hjp,_⟩:=Z0.1 hw
     have hjd:is[j].d=k:=Zo hjp
     have hju:∀j' y,is[j']?=ς y->y.d=k->j'=j:=λj' y hy he=>p7 hdst j' j y is[j] hy (Zl hjl) (by rw[he,hjd])
     by_cases hji:j<i
     .rw[if_pos (by simp[nlt];omega)] at hs
      have hdone:=hanc j hs
      have:=hI.out j is[j] hdone (Zl hjl)
      rw[hjd] at this
      have h9:=uk (base:=base) (is.take i) j is[j] (by grind) (λj' y hy he=>hju j' y (by grind) (by rw[he,hjd]))
      grind
     rw[if_neg (by simp[nlt];omega)] at hs
     rw[wh _ _ (λz hz e=>by
      obtain⟨j',hj'⟩:=Zx hz
      grind)] at ht'
     rw[<-ht']
     refine hI.old k λj' y hj' hy he=>?_
     have hjj:=hju j' y hy he
     subst hjj
     rcases hs with rfl|hs
     .grind
     have:listed.getD i η=true:=pR hcl _ j' i hs (by
      grind)
     grind
   |const v=>have:=(show Rel N cx E ⟨[],[],base.nx⟩ a w->cvT E w (opT [] (.const v)) (a.eval (.const v)) from λh=>h.op _);rw[<-ht];cases v<;>simp only[opT,Act.eval,cvT,cvV]<;>first|exact vC E w _|exact⟨_,rfl,sR E w _⟩|(simp only[cvC,gD,rdD])
   |func f=>rw[<-ht];rfl
   |global g=>rw[<-ht];trivial
  have hnob:∀l ob,(l,ob)∈x.nob->cg E w l ob:=by
   intro l ob hm
   have hgo:=t2 l ob hm
   rcases L1 _ _ _ hgo with⟨j,y,hj,hy⟩|h
   .rw[ZQ] at hj
    split at hj
    .rename_i hji
     have hlr:=(jT hlab).2 j y l ob hj hy
     rcases hobj i x hx (l,ob) hm with h|⟨j',hj',hanc'⟩
     .omega
     obtain⟨hjl,hjp,_⟩:=Z0.1 hj'
     obtain⟨p,hp1,hp2⟩:=ZG.1 hjp
     obtain⟨pl,pob⟩:=p
     have hpl:pl=l:=Zo hp2
     subst hpl
     have:=vR hlab j j' y is[j'] pl ob pob hj (Zl hjl) hy hp1
     exact hI.new j y pl ob (by grind) hj hy
    cases hj
   exact hI.obs l ob h
  have hfresh:∀l ob,(l,ob)∈x.nw->E.r l=none:=by
   intro l ob hm
   cases hr:E.r l with
   |none=>rfl
   |some p=>
    have hlr:=(jT hlab).2 i x l ob hx hm
    rcases hI.dom l p hr with h|⟨j,y,ob',h1,h2,h3⟩
    .omega
    have:=(vR hlab i j x y l ob ob' hx h2 hm h3).1
    grind
  have hnext:∀v E' w',cF cx E' w'->Ext E w E' w'->cvT E' w' x.out v->(∀l ob,(l,ob)∈x.nw->cg E' w' l ob)->(∀l y,E'.r l=ς y->E.r l=ς y\/∃ob,(l,ob)∈x.nw)->
   wpAny P .any ops Q fuel (listed.setIfInBounds i ζ) (a.put (ς x.d) v) w':=by
   intro v E' w' k1 k2 k3 k4 k5
   refine ih _ _ _ E' (by grind) ?_ ?_ (Rk hI hlab hdst hx oaa hun t4 k1 k2 k3 k4 k5)
   .
     have hcount:∀(l:List Nat),l.Nodup->i∈l->(l.filter λk=>!listed.getD k η).length=(l.filter λk=>!(listed.setIfInBounds i ζ).getD k η).length+1:=by
      intro l
      induction l with
      |nil=>grind
      |cons k l ihl=>
       intro hnd hm
       obtain⟨hk1,hk2⟩:=Z2.1 hnd
       by_cases hki:i=k
       .subst hki
        have hsame:(l.filter λk=>!listed.getD k η)=(l.filter λk=>!(listed.setIfInBounds i ζ).getD k η):=by
         apply List.filter_congr
         intro z hz
         rw[cm oaa,if_neg (λe=>hk1 (by grind))]
        rw[List.filter_cons_of_pos (by grind),List.filter_cons_of_neg (by rw[cm oaa,if_pos rfl];simp),hsame,ZE]
       have hml:i∈l:=by rcases Zp.1 hm with e|e;exact absurd e hki;exact e
       have:=ihl hk2 hml
       have hgk:(listed.setIfInBounds i ζ).getD k η=listed.getD k false:=by rw[cm oaa,if_neg hki]
       cases hgd:listed.getD k η with
       |true=>grind
       |false=>grind
     have:=hcount (Zm ops.size) List.nodup_range (by grind)
     omega
   intro j oj hj hdj e he hb
   rw[cm oaa]
   split
   .rfl
   rw[cm oaa] at hdj
   split at hdj
   .grind
   grind
  have hrun:∀needs,(∀y t,(y,t)∈needs->cvT E w t (a.eval y))->AWN P o needs x.nob x.out x.nw->o.wp P a w (wpAny P .any ops Q fuel (listed.setIfInBounds i ζ)) Q:=by
   intro needs hne hawn
   refine qQ (λ_ _ _ h=>h.elim) (Oper.wp_mono ?_ (hawn cx E a w hI.ok hne hnob (λl ob hm=>⟨hfresh l ob hm,B2 hlab i x l ob hx hm⟩)))
   rintro a' w' ⟨v,E',rfl,k1,k2,k3,k4,k5⟩
   rw[t3]
   exact hnext v E' w' k1 k2 k3 k4 k5
  have hguard:∀j dj (b:Bool),(ops[j]?).bind (·.dst)=ς dj->dj<N->cvT E w (tB b) (a.eval (.tmp dj))->yielded ops a.tmps j=ς b:=by
   intro j dj b hj hdj hcv
   have hb:a.tmps.getD dj undef= .bool b:=by simpa [rdD,Act.eval] using sv hcv
   have hs:dj<a.tmps.size:=by rw[hI.size];exact hdj
   have h2:a.tmps[dj]?=ς (.bool b):=by
    rw[ZO hs];simpa [Z4,hs] using hb
   unfold yielded
   cases ho':ops[j]? with
   |none=>grind
   |some o'=>grind
  unfold wpOp
  simp only[ho]
  rcases t5 with⟨hg,hawn⟩|⟨j,dj,b,ys,hg,hj,hdj,hnd,hawn⟩|⟨j,dj,b,t,hg,hj,hdj,hnd,hno,hout,hnw⟩
  .rw[if_pos (by simp[Region.wanted,hg])]
   grind
  .have hy:=hguard j dj b hj hdj (hneeds (.tmp dj) (tB b) (by grind))
   rw[if_pos (by simp[Region.wanted,hg,hy])]
   grind
  have hy:=Da (N:=N) (ops:=ops) (hneeds (.tmp dj) t (by grind)) (by rw[hI.size];exact hdj) hj hno
  rw[if_neg (by simp[Region.wanted,hg,hy]),t3]
  exact hnext undef E w hI.ok (Ext.refl E w) (by rw[hout];exact⟨#[],rfl,θ⟩) (by grind) (λ_ _ h=>.inl h)
end
theorem gS(n i:Nat):(Zv n η).getD i η=false:=by
 by_cases h:i<n<;>simp[h]
theorem yD{cx:Cx}(hR:Rel N cx E st a w):Rel N cx E st a {w with drawn:=w.drawn+1}:=by
 have hk:gb E w E {w with drawn:=w.drawn+1}:=⟨λ_ _ h=>h,λ_ _ h=>h,λ_ _ _=>rfl,λ_ _ h=>⟨h,rfl⟩,λ_ h=>⟨h,.of_eq rfl⟩,rfl⟩
 exact⟨⟨hR.ok.fb,hR.ok.gf,hR.ok.gn,hR.ok.rb,hR.ok.inj,hR.ok.os,hR.ok.tape,hR.ok.output,hR.ok.size,hR.ok.block,hR.ok.pin,hR.ok.ff,λb h h'=>(hR.ok.gc b h h').of_eq rfl,hR.ok.sf.grow rfl rfl (λ_ h=>.inl h) (λo b c h=>.inl ⟨o,c,h⟩) (Zu _) (λ_ _=>rfl)⟩,hR.dom,λl ob h=>fy hk (λ_ _ _=>rfl) (λ_ _ _ h=>h) (hR.obs l ob h),λk=>iw hk (hR.sl k),hR.dfr,hR.size,hR.td⟩
def RU(n:Nat):Laa->Bool
 |[]=>ζ
 |(l,_)::r=>nlt l n&&RU n r
theorem Mz{n:Nat}:∀{ob:Laa} {l:Nat} {x:Ob},RU n ob=ζ->go ob l=ς x->l<n
 |(k,v)::r,l,x,h,hg=>by
  simp only[RU,hV] at h
  by_cases hk:k=l
  .subst hk;exact bO h.1
  rw[a9 _ _ hk] at hg;exact Mz h.2 hg
theorem P4{l:List Oper}{AQ:Exit->St->Prop}(hm:P.follows .mixedOrders=true:=by exact Try.follows)(hol:RU st.nx st.ob=true:=by exact rfl)(h:DR P N l.toArray l [] st (λis s=>xc l.toArray is st.nx=ζ/\AQ .normal s)):AWC P N (.region id l.toArray ζ) st AQ:=by
 intro cx E a w hR
 obtain⟨is,st',n1,n2,n3,n4,n5,n6,n7⟩:=LN (base:=st) h (λ_=>rfl) rfl rfl
 simp only[List.nil_append] at n2 n3 n4 n5 n6
 simp only[xc,hV] at n6
 obtain⟨⟨c1,c2⟩,c3⟩:=n6
 have hlen:is.length=l.toArray.size:=by simpa using n1
 have hall:∀(i:Nat) (x:Inf) (o:Oper),is[i]?=ς x->l.toArray[i]?=ς o->(∀e∈o.after,Region.binds .any e=ζ->e.on<i)/\
  (∀k∈ik x.needs,∀j,sQ is k=ς j->if nlt j i then anc l.toArray is.length i j=ζ else(i=j\/anc l.toArray is.length j i=ζ))/\
  (∀p∈x.nob,p.1<st.nx\/∃j,Rr is p.1=ς j/\anc l.toArray is.length i j=ζ):=by
  intro i x o hx ho
  have hil:i<is.length:=(v0.1 hx).1
  have:=Zq.1 c3 i (by simp_all)
  simp only[hx,ho,hV,Zq] at this
  obtain⟨⟨k1,k2⟩,k3⟩:=this
  refine⟨λe he hb=>?_,λk hk j hj=>?_,λp hp=>?_⟩
  .have:=k1 e (by simp_all);simp only[hb,Bool.not_true,ZV] at this;exact bO this
  .have:=k2 k hk
   simp_all
  have:=k3 p hp
  simp only[ZC] at this
  rcases this with h|h
  .exact .inl (bO h)
  grind
 have hop:∀i x,is[i]?=ς x->∃o,l.toArray[i]?=ς o:=λi x hx=>⟨_,ZO (by grind)⟩
 have hix:∀(i:Nat) (o:Oper),l.toArray[i]?=ς o->∃x,is[i]?=ς x:=λi o ho=>⟨_,Zl (by
  grind)⟩
 refine wp_region_any hm ?_
 have hR':=yD hR
 refine Ll (P:=P) (N:=N) (cx:=cx) (base:=st) (is:=is) hlen n3 c2 ?_ ?_ ?_ ?_ ?_ ?_ _ _ _ _ E (by simp) ?_ ?_ ?_
 .intro i ob h;exact Mz hol h
 .grind
 .grind
 .grind
 .grind
 .intro listed a' w' E' hdone hI
  refine⟨E',st',⟨hI.ok,λl' x' hl=>?_,λl' ob hl=>?_,λk=>?_,hI.dfr,hI.size,λl' b' h'=>?_⟩,n7⟩
  .have hr:=jT n3
   rcases hI.dom l' x' hl with h|⟨j,y,ob,_,h2,h3⟩
   .omega
   grind
  .rw[n5] at hl
   rcases L1 _ _ _ hl with⟨j,x',hj,hx'⟩|h
   .exact hI.new j x' l' ob (hdone j (by grind)) hj hx'
   exact hI.obs l' ob h
  .rw[n4 k]
   cases hw:sQ is k with
   |none=>
    have hno:∀z∈is,z.d≠k:=by
     intro z hz e
     have:=Z3.1 hw z hz
     rw[e] at this;simp at this
    rw[wh _ _ hno]
    exact hI.old k λj y _ hy=>hno y (Zk hy)
   |some j=>
    obtain⟨hjl,hjp,_⟩:=Z0.1 hw
    have hjd:is[j].d=k:=Zo hjp
    have:=hI.out j is[j] (hdone j oaa) (Zl hjl)
    have h9:=uk (base:=st) is j is[j] (Zl hjl) (λj' y hy he=>p7 c2 j' j y is[j] hy (Zl hjl) he)
    grind
  have hr:=jT n3
  rcases hI.td l' b' h' with h|⟨j,y,ob,_,h2,h3⟩
  .omega
  have:=hr.2 j y l' ob h2 h3;omega
 .rw[List.filter_eq_self.2]
  .simp
  intro i hi;rw[gS];rfl
 .intro i o ho hd;rw[gS] at hd;cases hd
 refine⟨hR'.ok,λl' x' hl=>.inl (hR'.dom l' x' hl),hR'.obs,(λj y l' ob hd=>by rw[gS] at hd;cases hd),(λj y hd=>by rw[gS] at hd;cases hd),λk _=>hR'.sl k,hR'.dfr,hR'.size,λl b h=>.inl (hR'.td l b h)⟩
def nxt(nx:Nat):Option Nat:=bif rsv nx then ξ else ς (nx+1)
theorem ly{ob:Ob}(h:nxt nx=ς nx'):Nw nx [(nx,ob)] nx':=by
 unfold nxt at h
 cases hr:rsv nx with
 |true=>simp_all
 |false=>rw[hr] at h;exact⟨⟨rfl,hr⟩,(Option.some.inj h).symm⟩
theorem GH{n:Int}(h: -9223372036854775808<=n/\n<=9223372036854775807):IntKind.i64.wrap n=n:=by rw[IntKind.wrap_i64];omega
section
variable{P:Program}{N:Nat}{d:Tmp}{ty:TypeId}{ps:String}{af:Array Edge}{gd:Option (Nat×Bool)}{x y z:Operand}{sl:Lab}{ob:Laa}{nx:Nat}
abbrev NS0(P:Program)(N:Nat)(o:Oper)(sl:Lab)(ob:Laa)(nx:Nat)(d:Tmp)(out:T)(x:Inf):Prop:=NS P N o ⟨sl,ob,nx⟩ ⟨(d,out)::sl,ob,nx⟩ x
theorem mv1{c:C}(h:opT sl x= .v (.c c))(hN:nlt d N=ζ):NS0 P N ⟨ς d,.move x,ty,ps,af,gd⟩ sl ob nx d (.v (.c c)) ⟨d,[(x,.v (.c c))],[],.v (.c c),[]⟩:=c9 (st:=⟨sl,ob,nx⟩) Kc rfl hN ⟨h,θ⟩ trivial rfl
theorem mv2{c:List C}(h:opT sl x= .v (.agg c))(hN:nlt d N=ζ):NS0 P N ⟨ς d,.move x,ty,ps,af,gd⟩ sl ob nx d (.v (.agg c)) ⟨d,[(x,.v (.agg c))],[],.v (.agg c),[]⟩:=c9 (st:=⟨sl,ob,nx⟩) Kc rfl hN ⟨h,θ⟩ trivial rfl
theorem mv3{c:List V}(h:opT sl x= .tup c)(hN:nlt d N=ζ):NS0 P N ⟨ς d,.move x,ty,ps,af,gd⟩ sl ob nx d (.tup c) ⟨d,[(x,.tup c)],[],.tup c,[]⟩:=c9 (st:=⟨sl,ob,nx⟩) Kc rfl hN ⟨h,θ⟩ trivial rfl
theorem as1{c:C}(h:opT sl x= .v (.c c))(hN:nlt d N=ζ):NS0 P N ⟨ς d,.assign x,ty,ps,af,gd⟩ sl ob nx d (.v (.c c)) ⟨d,[(x,.v (.c c))],[],.v (.c c),[]⟩:=c9 (st:=⟨sl,ob,nx⟩) Cb rfl hN ⟨h,θ⟩ trivial rfl
theorem as2{c:List C}(h:opT sl x= .v (.agg c))(hN:nlt d N=ζ):NS0 P N ⟨ς d,.assign x,ty,ps,af,gd⟩ sl ob nx d (.v (.agg c)) ⟨d,[(x,.v (.agg c))],[],.v (.agg c),[]⟩:=c9 (st:=⟨sl,ob,nx⟩) Cb rfl hN ⟨h,θ⟩ trivial rfl
theorem as3{c:List V}(h:opT sl x= .tup c)(hN:nlt d N=ζ):NS0 P N ⟨ς d,.assign x,ty,ps,af,gd⟩ sl ob nx d (.tup c) ⟨d,[(x,.tup c)],[],.tup c,[]⟩:=c9 (st:=⟨sl,ob,nx⟩) Cb rfl hN ⟨h,θ⟩ trivial rfl
theorem pk1{c:C}(h:opT sl x= .v (.c (.d g (.b ζ))))(hy:opT sl y= .v (.c c))(hN:nlt d N=ζ):NS0 P N ⟨ς d,.pick x y z,ty,ps,af,gd⟩ sl ob nx d (.v (.c c)) ⟨d,[(x,.v (.c (.d g (.b ζ)))),(y,.v (.c c))],[],.v (.c c),[]⟩:=c9 (st:=⟨sl,ob,nx⟩) H9 rfl hN ⟨h,hy,θ⟩ trivial rfl
theorem pk0{c:C}(h:opT sl x= .v (.c (.d g (.b η))))(hz:opT sl z= .v (.c c))(hN:nlt d N=ζ):NS0 P N ⟨ς d,.pick x y z,ty,ps,af,gd⟩ sl ob nx d (.v (.c c)) ⟨d,[(x,.v (.c (.d g (.b η)))),(z,.v (.c c))],[],.v (.c c),[]⟩:=c9 (st:=⟨sl,ob,nx⟩) FW rfl hN ⟨h,hz,θ⟩ trivial rfl
theorem io{op:BinOp}{k:IntKind}{a b:Int}{r:D}(hx:opT sl x= .v (.c (.d g (.i k a))))(hy:opT sl y= .v (.c (.d g' (.i k b))))(hN:nlt d N=ζ)(h:Rj op k a b=ς r):
 NS0 P N ⟨ς d,.binOp op t x y t',ty,ps,af,gd⟩ sl ob nx d (.v (.c (.d η r))) ⟨d,[(x,.v (.c (.d g (.i k a)))),(y,.v (.c (.d g' (.i k b))))],[],.v (.c (.d η r)),[]⟩:=c9 (st:=⟨sl,ob,nx⟩) (n_int h) rfl hN ⟨hx,hy,θ⟩ trivial rfl
theorem iqT{k:IntKind}{a b:Int}(hx:opT sl x= .v (.c (.d g (.i k a))))(hy:opT sl y= .v (.c (.d g' (.i k b))))(hN:nlt d N=ζ)(he:decide (a=b)=ζ):
 NS0 P N ⟨ς d,.binOp .eql t x y t',ty,ps,af,gd⟩ sl ob nx d (.v (.c (.d η (.b ζ)))) ⟨d,[(x,.v (.c (.d g (.i k a)))),(y,.v (.c (.d g' (.i k b))))],[],.v (.c (.d η (.b ζ))),[]⟩:=io hx hy hN (by show ς (D.b (eqB a b))=_;simp_all)
theorem iqF{k:IntKind}{a b:Int}(hx:opT sl x= .v (.c (.d g (.i k a))))(hy:opT sl y= .v (.c (.d g' (.i k b))))(hN:nlt d N=ζ)(he:decide (a=b)=η):
 NS0 P N ⟨ς d,.binOp .eql t x y t',ty,ps,af,gd⟩ sl ob nx d (.v (.c (.d η (.b η)))) ⟨d,[(x,.v (.c (.d g (.i k a)))),(y,.v (.c (.d g' (.i k b))))],[],.v (.c (.d η (.b η))),[]⟩:=io hx hy hN (by show ς (D.b (eqB a b))=_;simp_all)
theorem is{a b:Int}(hx:opT sl x= .v (.c (.d g (.i .i64 a))))(hy:opT sl y= .v (.c (.d g' (.i .i64 b))))(hN:nlt d N=ζ)(h: -9223372036854775808<=a-b/\a-b<=9223372036854775807):
 NS0 P N ⟨ς d,.binOp .sub t x y t',ty,ps,af,gd⟩ sl ob nx d (tI (a-b)) ⟨d,[(x,.v (.c (.d g (.i .i64 a)))),(y,.v (.c (.d g' (.i .i64 b))))],[],tI (a-b),[]⟩:=by
 have:=io (P:=P) (N:=N) (d:=d) (ty:=ty) (ps:=ps) (af:=af) (gd:=gd) (ob:=ob) (nx:=nx) (t:=t) (t':=t') (op:=.sub) hx hy hN rfl
 rwa [GH h] at this
theorem ir{k:IntKind}{a b:Int}(hx:opT sl x= .v (.c (.d g (.i k a))))(hy:opT sl y= .v (.c (.d g' (.i k b))))(hN:nlt d N=ζ)(h:b≠0):
 NS0 P N ⟨ς d,.binOp .rem t x y t',ty,ps,af,gd⟩ sl ob nx d (.v (.c (.d η (.i k (a.tmod b))))) ⟨d,[(x,.v (.c (.d g (.i k a)))),(y,.v (.c (.d g' (.i k b))))],[],.v (.c (.d η (.i k (a.tmod b)))),[]⟩:=c9 (st:=⟨sl,ob,nx⟩) (n_rem h) rfl hN ⟨hx,hy,θ⟩ trivial rfl
theorem iq{k:IntKind}{a b:Int}(hx:opT sl x= .v (.c (.d g (.i k a))))(hy:opT sl y= .v (.c (.d g' (.i k b))))(hN:nlt d N=ζ)(h:b≠0):
 NS0 P N ⟨ς d,.binOp .quo t x y t',ty,ps,af,gd⟩ sl ob nx d (.v (.c (.d η (.i k (k.wrap (a.tdiv b)))))) ⟨d,[(x,.v (.c (.d g (.i k a)))),(y,.v (.c (.d g' (.i k b))))],[],.v (.c (.d η (.i k (k.wrap (a.tdiv b))))),[]⟩:=c9 (st:=⟨sl,ob,nx⟩) (n_quo h) rfl hN ⟨hx,hy,θ⟩ trivial rfl
theorem se{a b:ByteArray}(hx:opT sl x= .v (.c (.d g (.str a))))(hy:opT sl y= .v (.c (.d g' (.str b))))(hN:nlt d N=ζ):
 NS0 P N ⟨ς d,.binOp .eql t x y t',ty,ps,af,gd⟩ sl ob nx d (tB (strB a b)) ⟨d,[(x,.v (.c (.d g (.str a)))),(y,.v (.c (.d g' (.str b))))],[],tB (strB a b),[]⟩:=c9 (st:=⟨sl,ob,nx⟩) RH rfl hN ⟨hx,hy,θ⟩ trivial rfl
theorem sn{a b:ByteArray}(hx:opT sl x= .v (.c (.d g (.str a))))(hy:opT sl y= .v (.c (.d g' (.str b))))(hN:nlt d N=ζ):
 NS0 P N ⟨ς d,.binOp .neq t x y t',ty,ps,af,gd⟩ sl ob nx d (tB (!strB a b)) ⟨d,[(x,.v (.c (.d g (.str a)))),(y,.v (.c (.d g' (.str b))))],[],tB (!strB a b),[]⟩:=c9 (st:=⟨sl,ob,nx⟩) RI rfl hN ⟨hx,hy,θ⟩ trivial rfl
theorem un{g b:Bool}(hx:opT sl x= .v (.c (.d g (.b b))))(hN:nlt d N=ζ):NS0 P N ⟨ς d,.unOp .not t x,ty,ps,af,gd⟩ sl ob nx d (tB (!b)) ⟨d,[(x,.v (.c (.d g (.b b))))],[],tB (!b),[]⟩:=c9 (st:=⟨sl,ob,nx⟩) n_not rfl hN ⟨hx,θ⟩ trivial rfl
theorem ng{k:IntKind}{n:Int}(hx:opT sl x= .v (.c (.d g (.i k n))))(hN:nlt d N=ζ):NS0 P N ⟨ς d,.unOp .neg t x,ty,ps,af,gd⟩ sl ob nx d (.v (.c (.d η (.i k (k.wrap (0-n)))))) ⟨d,[(x,.v (.c (.d g (.i k n))))],[],.v (.c (.d η (.i k (k.wrap (0-n))))),[]⟩:=c9 (st:=⟨sl,ob,nx⟩) n_neg rfl hN ⟨hx,θ⟩ trivial rfl
theorem cv{ds:TypeDesc}{k k':IntKind}{n:Int}[TyU P t ds][TyU P t' (.int k')](hx:opT sl x= .v (.c (.d g (.i k n))))(hN:nlt d N=ζ):
 NS0 P N ⟨ς d,.convert t t' x,ty,ps,af,gd⟩ sl ob nx d (.v (.c (.d η (.i k' (k'.wrap n))))) ⟨d,[(x,.v (.c (.d g (.i k n))))],[],.v (.c (.d η (.i k' (k'.wrap n)))),[]⟩:=c9 (st:=⟨sl,ob,nx⟩) X3 rfl hN ⟨hx,θ⟩ trivial rfl
theorem ex{ts:List V}{v:V}(hx:opT sl x= .tup ts)(hN:nlt d N=ζ)(h:ts[i]?=ς v):NS0 P N ⟨ς d,.extract x i,ty,ps,af,gd⟩ sl ob nx d (.v v) ⟨d,[(x,.tup ts)],[],.v v,[]⟩:=c9 (st:=⟨sl,ob,nx⟩) (Oc h) rfl hN ⟨hx,θ⟩ trivial rfl
theorem nc{o:Nat}(hx:opT sl x= .v (.c (.p o k)))(hN:nlt d N=ζ):NS0 P N ⟨ς d,.nilCheck x,ty,ps,af,gd⟩ sl ob nx d (.v (.c (.p o k))) ⟨d,[(x,.v (.c (.p o k)))],[],.v (.c (.p o k)),[]⟩:=c9 (st:=⟨sl,ob,nx⟩) FV rfl hN ⟨hx,θ⟩ trivial rfl
theorem lw{o by_:Nat}[da P t e sz by_](hx:opT sl x= .v (.c (.w o n)))(hN:nlt d N=ζ):NS0 P N ⟨ς d,.call ⟨.builtin .len,#[x],#[t]⟩,ty,ps,af,gd⟩ sl ob nx d (tI n) ⟨d,[(x,.v (.c (.w o n)))],[],tI n,[]⟩:=c9 (st:=⟨sl,ob,nx⟩) Vm rfl hN ⟨hx,θ⟩ trivial rfl
theorem ls{o zz by_:Nat}[da P t e sz by_](hx:opT sl x= .v (.c (.s o zz off n)))(hN:nlt d N=ζ):NS0 P N ⟨ς d,.call ⟨.builtin .len,#[x],#[t]⟩,ty,ps,af,gd⟩ sl ob nx d (tI n) ⟨d,[(x,.v (.c (.s o zz off n)))],[],tI n,[]⟩:=c9 (st:=⟨sl,ob,nx⟩) Vl rfl hN ⟨hx,θ⟩ trivial rfl
theorem ld{xs:Lad}{by_:Nat}[da P t e sz by_](hx:opT sl x= .v (.c (.d g (.l xs))))(hN:nlt d N=ζ):NS0 P N ⟨ς d,.call ⟨.builtin .len,#[x],#[t]⟩,ty,ps,af,gd⟩ sl ob nx d (tI xs.length) ⟨d,[(x,.v (.c (.d g (.l xs))))],[],tI xs.length,[]⟩:=c9 (st:=⟨sl,ob,nx⟩) Vk rfl hN ⟨hx,θ⟩ trivial rfl
theorem ln{by_:Nat}[da P t e sz by_](hx:opT sl x= .v (.c .nil))(hN:nlt d N=ζ):NS0 P N ⟨ς d,.call ⟨.builtin .len,#[x],#[t]⟩,ty,ps,af,gd⟩ sl ob nx d (tI 0) ⟨d,[(x,.v (.c .nil))],[],tI 0,[]⟩:=c9 (st:=⟨sl,ob,nx⟩) Ok rfl hN ⟨hx,θ⟩ trivial rfl
theorem XQ{s:ByteArray}[TyU P t .string](hx:opT sl x= .v (.c (.d g (.str s))))(hN:nlt d N=ζ):NS0 P N ⟨ς d,.call ⟨.builtin .len,#[x],#[t]⟩,ty,ps,af,gd⟩ sl ob nx d (tI s.size) ⟨d,[(x,.v (.c (.d g (.str s))))],[],tI s.size,[]⟩:=c9 (st:=⟨sl,ob,nx⟩) Ol rfl hN ⟨hx,θ⟩ trivial rfl
theorem fp{o k':Nat}[TyF P t f off ft](hx:opT sl x= .v (.c (.p o k)))(hN:nlt d N=ζ)(hk:k+off=k'):NS0 P N ⟨ς d,.fieldAddr t x f,ty,ps,af,gd⟩ sl ob nx d (.v (.c (.p o k'))) ⟨d,[(x,.v (.c (.p o k)))],[],.v (.c (.p o k')),[]⟩:=by
 subst hk;exact c9 (st:=⟨sl,ob,nx⟩) Oe rfl hN ⟨hx,θ⟩ trivial rfl
theorem fe{o j':Nat}[TyF P t f off ft](hx:opT sl x= .v (.c (.e o sz i j)))(hN:nlt d N=ζ)(hk:j+off=j'):NS0 P N ⟨ς d,.fieldAddr t x f,ty,ps,af,gd⟩ sl ob nx d (.v (.c (.e o sz i j'))) ⟨d,[(x,.v (.c (.e o sz i j)))],[],.v (.c (.e o sz i j')),[]⟩:=by
 subst hk;exact c9 (st:=⟨sl,ob,nx⟩) Od rfl hN ⟨hx,θ⟩ trivial rfl
theorem fq{e:List D}{j':Nat}[TyF P t f off ft](hx:opT sl x= .v (.c (.q g e j)))(hN:nlt d N=ζ)(hk:j+off=j'):NS0 P N ⟨ς d,.fieldAddr t x f,ty,ps,af,gd⟩ sl ob nx d (.v (.c (.q g e j'))) ⟨d,[(x,.v (.c (.q g e j)))],[],.v (.c (.q g e j')),[]⟩:=by
 subst hk;exact c9 (st:=⟨sl,ob,nx⟩) Og rfl hN ⟨hx,θ⟩ trivial rfl
theorem xw{by_:Nat}{o:Nat}{i:Int}[da P t e sz by_](hx:opT sl x= .v (.c (.w o n)))(hy:opT sl y= .v (.c (.d g (.i kd i))))(hN:nlt d N=ζ)(h0:0<=i)(h1:i<n):
 NS0 P N ⟨ς d,.indexAddr t x y,ty,ps,af,gd⟩ sl ob nx d (.v (.c (.e o sz i.toNat 0))) ⟨d,[(x,.v (.c (.w o n))),(y,.v (.c (.d g (.i kd i))))],[],.v (.c (.e o sz i.toNat 0)),[]⟩:=c9 (st:=⟨sl,ob,nx⟩) (zK h0 h1) rfl hN ⟨hx,hy,θ⟩ trivial rfl
theorem xs{by_:Nat}{o:Nat}{i:Int}[da P t e sz by_](hx:opT sl x= .v (.c (.s o sz off n)))(hy:opT sl y= .v (.c (.d g (.i kd i))))(hN:nlt d N=ζ)(h0:0<=i)(h1:i<n):
 NS0 P N ⟨ς d,.indexAddr t x y,ty,ps,af,gd⟩ sl ob nx d (.v (.c (.e o sz (off+i.toNat) 0))) ⟨d,[(x,.v (.c (.s o sz off n))),(y,.v (.c (.d g (.i kd i))))],[],.v (.c (.e o sz (off+i.toNat) 0)),[]⟩:=c9 (st:=⟨sl,ob,nx⟩) (Oj h0 h1) rfl hN ⟨hx,hy,θ⟩ trivial rfl
theorem xd{by_:Nat}{xs:Lad}{i:Int}[da P t e sz by_](hx:opT sl x= .v (.c (.d g (.l xs))))(hy:opT sl y= .v (.c (.d g' (.i kd i))))(hN:nlt d N=ζ)(h0:0<=i)(he:xs[i.toNat]?=ς el)(hs:∀e∈xs,e.length=sz):NS0 P N ⟨ς d,.indexAddr t x y,ty,ps,af,gd⟩ sl ob nx d (.v (.c (.q g el 0))) ⟨d,[(x,.v (.c (.d g (.l xs)))),(y,.v (.c (.d g' (.i kd i))))],[],.v (.c (.q g el 0)),[]⟩:=c9 (st:=⟨sl,ob,nx⟩) (Oi h0 he hs) rfl hN ⟨hx,hy,θ⟩ trivial rfl
theorem op{o:Nat}{c:C}[g8 P t](hx:opT sl x= .v (.c (.p o k)))(ho:go ob o=ς (.var vt cs))(hN:nlt d N=ζ)(hc:cs[k]?=ς c):
 NS0 P N ⟨ς d,.load t x,ty,ps,af,gd⟩ sl ob nx d (.v (.c c)) ⟨d,[(x,.v (.c (.p o k)))],[(o,.var vt cs)],.v (.c c),[]⟩:=c9 (st:=⟨sl,ob,nx⟩) (RD hc) rfl hN ⟨hx,θ⟩ ⟨ho,θ⟩ rfl
theorem opa{o:Nat}{r:List C}[fm P t n](hx:opT sl x= .v (.c (.p o k)))(ho:go ob o=ς (.var vt cs))(hN:nlt d N=ζ)(hc:yw k n cs=ς r):
 NS0 P N ⟨ς d,.load t x,ty,ps,af,gd⟩ sl ob nx d (.v (.agg r)) ⟨d,[(x,.v (.c (.p o k)))],[(o,.var vt cs)],.v (.agg r),[]⟩:=c9 (st:=⟨sl,ob,nx⟩) (Dg hc) rfl hN ⟨hx,θ⟩ ⟨ho,θ⟩ rfl
theorem oq{e:List D}{c:C}[g8 P t](hx:opT sl x= .v (.c (.q g e j)))(hN:nlt d N=ζ)(hc:ld1 g j e=ς c):
 NS0 P N ⟨ς d,.load t x,ty,ps,af,gd⟩ sl ob nx d (.v (.c c)) ⟨d,[(x,.v (.c (.q g e j)))],[],.v (.c c),[]⟩:=c9 (st:=⟨sl,ob,nx⟩) (Oo hc) rfl hN ⟨hx,θ⟩ trivial rfl
theorem oqa{e:List D}[fm P t n](hx:opT sl x= .v (.c (.q g e j)))(hN:nlt d N=ζ)(hc:B4 g j n e=ς cs):
 NS0 P N ⟨ς d,.load t x,ty,ps,af,gd⟩ sl ob nx d (.v (.agg cs)) ⟨d,[(x,.v (.c (.q g e j)))],[],.v (.agg cs),[]⟩:=c9 (st:=⟨sl,ob,nx⟩) (Dh hc) rfl hN ⟨hx,θ⟩ trivial rfl
theorem oe{o:Nat}{rt:TypeId}{c:C}[g8 P t](hx:opT sl x= .v (.c (.e o sz i j)):=by exact rfl)(ho:go ob o=ς (.row rt sz els g m):=by exact rfl)(hN:nlt d N=true:=by exact rfl)(he:els[i]?=ς el)(hc:ld1 g j el=ς c:=by exact rfl):
 NS0 P N ⟨ς d,.load t x,ty,ps,af,gd⟩ sl ob nx d (.v (.c c)) ⟨d,[(x,.v (.c (.e o sz i j)))],[(o,.row rt sz els g m)],.v (.c c),[]⟩:=c9 (st:=⟨sl,ob,nx⟩) (D5 he hc) rfl hN ⟨hx,θ⟩ ⟨ho,θ⟩ rfl
theorem oea{o:Nat}{rt:TypeId}[fm P t n](hx:opT sl x= .v (.c (.e o sz i j)):=by exact rfl)(ho:go ob o=ς (.row rt sz els g m):=by exact rfl)(hN:nlt d N=true:=by exact rfl)(he:els[i]?=ς el)(hc:B4 g j n el=ς cs:=by exact rfl):
 NS0 P N ⟨ς d,.load t x,ty,ps,af,gd⟩ sl ob nx d (.v (.agg cs)) ⟨d,[(x,.v (.c (.e o sz i j)))],[(o,.row rt sz els g m)],.v (.agg cs),[]⟩:=c9 (st:=⟨sl,ob,nx⟩) (wH he hc) rfl hN ⟨hx,θ⟩ ⟨ho,θ⟩ rfl
theorem fv{c:C}[TyF P t f off ft][g8 P ft](hx:opT sl x= .v (.agg cs))(hN:nlt d N=ζ)(hc:cs[off]?=ς c):NS0 P N ⟨ς d,.field t x f,ty,ps,af,gd⟩ sl ob nx d (.v (.c c)) ⟨d,[(x,.v (.agg cs))],[],.v (.c c),[]⟩:=c9 (st:=⟨sl,ob,nx⟩) (Rz hc) rfl hN ⟨hx,θ⟩ trivial rfl
theorem fva{r:List C}[TyF P t f off ft][fm P ft n](hx:opT sl x= .v (.agg cs))(hN:nlt d N=ζ)(hc:yw off n cs=ς r):NS0 P N ⟨ς d,.field t x f,ty,ps,af,gd⟩ sl ob nx d (.v (.agg r)) ⟨d,[(x,.v (.agg cs))],[],.v (.agg r),[]⟩:=c9 (st:=⟨sl,ob,nx⟩) (De hc) rfl hN ⟨hx,θ⟩ trivial rfl
abbrev NS1(P:Program)(N:Nat)(o:Oper)(sl:Lab)(ob:Laa)(nx nx':Nat)(d:Tmp)(out:T)(nb:Ob)(x:Inf):Prop:=NS P N o ⟨sl,ob,nx⟩ ⟨(d,out)::sl,(nx,nb)::ob,nx'⟩ x
theorem al{zs:List C}[TyZ P t zs](hN:nlt d N=ζ)(hq:nxt nx=ς nx'):NS1 P N ⟨ς d,.alloc t,ty,ps,af,gd⟩ sl ob nx nx' d (.v (.c (.p nx 0))) (.var t zs) ⟨d,[],[],.v (.c (.p nx 0)),[(nx,.var t zs)]⟩:=c9 (st:=⟨sl,ob,nx⟩) Vg rfl hN trivial trivial (ly hq)
theorem ba(hx:opT sl x= .v (.agg cs))(hN:nlt d N=ζ)(hq:nxt nx=ς nx'):NS1 P N ⟨ς d,.box t x,ty,ps,af,gd⟩ sl ob nx nx' d (.v (.c (.p nx 0))) (.var t cs) ⟨d,[(x,.v (.agg cs))],[],.v (.c (.p nx 0)),[(nx,.var t cs)]⟩:=c9 (st:=⟨sl,ob,nx⟩) Oa rfl hN ⟨hx,θ⟩ trivial (ly hq)
theorem bc{c:C}(hx:opT sl x= .v (.c c))(hN:nlt d N=ζ)(hs:c.sto=ζ)(hq:nxt nx=ς nx'):NS1 P N ⟨ς d,.box t x,ty,ps,af,gd⟩ sl ob nx nx' d (.v (.c (.p nx 0))) (.var t [c]) ⟨d,[(x,.v (.c c))],[],.v (.c (.p nx 0)),[(nx,.var t [c])]⟩:=c9 (st:=⟨sl,ob,nx⟩) (Vh hs) rfl hN ⟨hx,θ⟩ trivial (ly hq)
def Kn(sl:Lab):List Operand->Option (List V)
 |[]=>ς []
 |x::xs=>match opT sl x,Kn sl xs with
  | .v v,ς vs=>ς (v::vs)
  |_,_=>ξ
theorem AT{sl:Lab}:∀{xs:List Operand} {vs:List V},Kn sl xs=ς vs->vs.length=xs.length/\Lk sl (xs.zip (vs.map T.v))
 |[],vs,h=>by simp[Kn] at h;subst h;exact⟨rfl,θ⟩
 |x::xs,vs,h=>by
  simp only[Kn] at h
  split at h
  .rename_i v vs' h1 h2
   simp at h;subst h
   obtain⟨k1,k2⟩:=AT h2
   exact⟨by simp[k1],h1,k2⟩
  cases h
theorem bd{zs:List C}{pl:Lac}{parts:List (Nat×Operand)}[TyZ P t zs][TyB P t pl](hv:Kn sl (parts.map (·.2))=ς vs)(h:Bo pl zs ((parts.map (·.1)).zip vs)=ς cs)(hN:nlt d N=ζ):
 NS0 P N ⟨ς d,.build t parts.toArray,ty,ps,af,gd⟩ sl ob nx d (.v (.agg cs)) ⟨d,(parts.map (·.2)).zip (vs.map T.v),[],.v (.agg cs),[]⟩:=by
 obtain⟨h1,h2⟩:=AT hv
 exact c9 (st:=⟨sl,ob,nx⟩) (Ms (by simp_all) h) rfl hN h2 trivial rfl
theorem bs{by_:Nat}{len:Nat}{parts:List (Nat×Operand)}{g:Bool}[da P t e sz by_](hv:Kn sl (parts.map (·.2))=ς vs)(he:vsD vs=ς (els,g))(hs:J6 sz els=ζ)(hlen:len=parts.length)(hi:parts.map (·.1)=Zm len)(h24:Zw (len*sz) 16777216=ζ)(hN:nlt d N=ζ)(hq:nxt nx=ς nx'):
 NS1 P N ⟨ς d,.buildSlice t len parts.toArray,ty,ps,af,gd⟩ sl ob nx nx' d (.v (.c (.w nx len))) (.row e sz els g ζ) ⟨d,(parts.map (·.2)).zip (vs.map T.v),[],.v (.c (.w nx len)),[(nx,.row e sz els g ζ)]⟩:=by
 obtain⟨h1,h2⟩:=AT hv
 exact c9 (st:=⟨sl,ob,nx⟩) (tW hlen (by simp_all) hi he hs (ZK h24)) rfl hN h2 trivial (ly hq)
theorem mk{by_:Nat}{zd:List D}{k k':IntKind}{c:Int}[da P t e sz by_][TyE P e zd](hx:opT sl x= .v (.c (.d g (.i k n))))(hy:opT sl y= .v (.c (.d g' (.i k' c))))(hN:nlt d N=ζ)(hc:n<=c)(hb:(by_:Int)*c<=281474976710656)(h63:c<=9223372036854775807)(hq:nxt nx=ς nx'):
 NS1 P N ⟨ς d,.makeSlice t x y,ty,ps,af,gd⟩ sl ob nx nx' d (.v (.c (.w nx n))) (.row e sz (ZP n zd) ζ ζ) ⟨d,[(x,.v (.c (.d g (.i k n)))),(y,.v (.c (.d g' (.i k' c))))],[],.v (.c (.w nx n)),[(nx,.row e sz (ZP n zd) ζ ζ)]⟩:=
 c9 (st:=⟨sl,ob,nx⟩) (X4 hc hb h63) rfl hN ⟨hx,hy,θ⟩ trivial (ly hq)
def ni(sl:Lab):List Operand->Option (List T)
 |[]=>ς []
 |x::xs=>match opT sl x,ni sl xs with
  | .v (.c c),ς vs=>ς (.v (.c c)::vs)
  | .v (.agg cs),ς vs=>ς (.v (.agg cs)::vs)
  |_,_=>ξ
theorem nN{sl:Lab}:∀{xs:List Operand} {ts:List T},ni sl xs=ς ts->ts.length=xs.length/\Lk sl (xs.zip ts)
 |[],vs,h=>by simp[ni] at h;subst h;exact⟨rfl,θ⟩
 |x::xs,vs,h=>by
  simp only[ni] at h
  split at h
  .rename_i c vs' h1 h2
   simp at h;subst h
   obtain⟨k1,k2⟩:=nN h2
   exact⟨by simp[k1],h1,k2⟩
  .rename_i c vs' h1 h2
   simp at h;subst h
   obtain⟨k1,k2⟩:=nN h2
   exact⟨by simp[k1],h1,k2⟩
  cases h
def zL(nx:Nat):Laa->Nat->Bool
 |[],n=>d0 n nx
 |(l,_)::r,n=>(d0 l nx&&!rsv l)&&zL (nx+1) r n
theorem yt:∀{nw:Laa} {nx n:Nat},zL nx nw n=ζ->Nw nx nw n
 |[],nx,n,h=>Zo h
 |(l,x)::r,nx,n,h=>by
  simp only[zL,hV,ZD] at h
  exact⟨⟨Zo h.1.1,h.1.2⟩,yt h.2⟩
def apO{α:Type}:List α->List α->Option (List α)
 |[],l=>ς l
 |x::xs,l=>match apO xs l with|some r=>ς (x::r)|none=>ξ
theorem mY{α:Type}:∀{xs l r:List α},apO xs l=ς r->r=xs++l
 |[],l,r,h=>by simp[apO] at h;subst h;rfl
 |x::xs,l,r,h=>by
  simp only[apO] at h
  split at h
  .rename_i q h1;simp at h;subst h;rw[mY h1];rfl
  cases h
theorem ca{f:FuncId}{args:List Operand}{tys:Array TypeId}{ts:List T}{avs:List AV}{eqs:Lac}{nw:Laa}(ht:ni sl args=ς ts:=by exact rfl)(hp:oi ob (Ag ts)=ς nob:=by exact rfl)(ha:qN nob ts=ς (avs,eqs):=by exact rfl)(hF:Fn P f avs res)(he:Eqs eqs:=by repeat (first|exact θ|refine⟨by first|rfl|exact lm _|simp,?_⟩))(hi:xi nx res=ς (out,nw,n):=by exact rfl)(hw:zL nx nw n=true:=by exact rfl)(hN:nlt d N=true:=by exact rfl)(hob:apO nw ob=ς ob':=by exact rfl):
 NS P N ⟨ς d,.call ⟨.value (.func f),args.toArray,tys⟩,ty,ps,af,gd⟩ ⟨sl,ob,nx⟩ ⟨(d,out)::sl,ob',n⟩ ⟨d,args.zip ts,nob,out,nw⟩:=by
 obtain⟨h1,h2⟩:=nN ht
 rw[mY hob]
 exact c9 (st:=⟨sl,ob,nx⟩) (X2 h1 ha hF he hi) rfl hN h2 (qs hp) (yt hw)
theorem sp{o:Nat}{cs' ns:List C}{v:V}[TyN P t n](hx:opT sl x= .v (.c (.p o k)))(hy:opT sl y= .v v)(ho:go ob o=ς (.var vt cs))(hv:vcs v=ς ns)(hn:d0 ns.length n=ζ)(hst:ns.all C.sto=ζ)(hs:oA k ns cs=ς cs'):AWO P N ⟨ξ,.store t x y,ty,ps,af,gd⟩ ⟨sl,ob,nx⟩ ⟨sl,(o,.var vt cs')::ob,nx⟩:=Ox (st:=⟨sl,ob,nx⟩) hx hy ho hv hn hst hs
theorem so{o:Nat}{rt:TypeId}{el' ns:List D}{g g' gg:Bool}{v:V}[TyN P t n](hx:opT sl x= .v (.c (.e o sz i j)))(hy:opT sl y= .v v)(ho:go ob o=ς (.row rt sz els g ζ))(hv:vD v=ς (ns,g'))(hn:d0 ns.length n=ζ)(he:els[i]?=ς el)(hs:oA j ns el=ς el')(hg:(g&&g')=gg):
 AWO P N ⟨ξ,.store t x y,ty,ps,af,gd⟩ ⟨sl,ob,nx⟩ ⟨sl,(o,.row rt sz (els.set i el') gg ζ)::ob,nx⟩:=by subst hg;exact Ow (st:=⟨sl,ob,nx⟩) hx hy ho hv hn he hs
theorem ap{by_ o:Nat}{g gy gg:Bool}{c:C}[da P t e sz by_](hd:nlt d N=ζ)(hx:opT sl x= .v (.c (.w o n)))(hy:opT sl y= .v (.c c))(ho:go ob o=ς (.row e sz els g ζ))(hs:Src ob c ys gy)(hk:gI o sl=ς sl')(hkb:gP o ob=ς ob')(hg:(g&&gy)=gg)(hn:els.length=n)(hsz:∀e∈ys,e.length=sz)(hb:(n+ys.length)*by_<=140737488355328)(h63:n+ys.length<=9223372036854775807)(hrv:rsp o=η):
 AWO P N ⟨ς d,.call ⟨.builtin .append,#[x,y],#[t,t]⟩,ty,ps,af,gd⟩ ⟨sl,ob,nx⟩ ⟨(d,.v (.c (.w o (n+ys.length))))::sl',(o,.row e sz (els++ys) gg ζ)::ob',nx⟩:=by
 subst hg;exact Kj (st:=⟨sl,ob,nx⟩) hrv (bO hd) hx hy ho hs hk hkb hn hsz hb h63
section
variable{ops:Array Oper}{l:List Oper}{o:Oper}{K:St->Prop}{KK:List Inf->St->Prop}{is:List Inf}
theorem gs{d:Tmp}{b:Bool}(hg:o.guard=ς (j,b))(hj:(ops[j]?).bind (·.dst)=ς dj)(hdj:nlt dj N=ζ)(hb:noG b (gt sl dj)=ζ)(hd:o.dst=ς d)(hN:nlt d N=ζ)(h':AWR P N ops l ⟨(d,.tup [])::sl,ob,nx⟩ K):AWR P N ops (o::l) ⟨sl,ob,nx⟩ K:=Bj (st:=⟨sl,ob,nx⟩) hg hj (bO hdj) hb hd (bO hN) h'
theorem g2{b c:Bool}(hg:o.guard=ς (j,b))(hj:(ops[j]?).bind (·.dst)=ς dj)(hb:gt sl dj=tB c)(h1:c=ζ->AWR P N ops (o::l) ⟨(dj,tB ζ)::sl,ob,nx⟩ K)(h0:c=η->AWR P N ops (o::l) ⟨(dj,tB η)::sl,ob,nx⟩ K):AWR P N ops (o::l) ⟨sl,ob,nx⟩ K:=NC (st:=⟨sl,ob,nx⟩) hb h1 h0
theorem dgs{d:Tmp}{b:Bool}{t:T}(hg:o.guard=ς (j,b))(hj:(ops[j]?).bind (·.dst)=ς dj)(hdj:nlt dj N=ζ)(ht:gt sl dj=t)(hb:noG b t=ζ)(hd:o.dst=ς d)(hN:nlt d N=ζ)(h':DR P N ops l (is++[⟨d,[(.tmp dj,t)],[],.tup [],[]⟩]) ⟨(d,.tup [])::sl,ob,nx⟩ KK):DR P N ops (o::l) is ⟨sl,ob,nx⟩ KK:=UO (st:=⟨sl,ob,nx⟩) hg hj hdj ht hb hd hN h'
theorem dg2{b c:Bool}(hg:o.guard=ς (j,b))(hj:(ops[j]?).bind (·.dst)=ς dj)(hb:gt sl dj=tB c)(h1:c=ζ->DR P N ops (o::l) is ⟨(dj,tB ζ)::sl,ob,nx⟩ KK)(h0:c=η->DR P N ops (o::l) is ⟨(dj,tB η)::sl,ob,nx⟩ KK):DR P N ops (o::l) is ⟨sl,ob,nx⟩ KK:=Qv (st:=⟨sl,ob,nx⟩) hb h1 h0
end
def P0:AV->Option T
 | .c (.i k n)=>ς (.v (.c (.d η (.i k n))))
 | .c (.b x)=>ς (.v (.c (.d η (.b x))))
 | .c (.str s)=>ς (.v (.c (.d η (.str s))))
 | .c (.l xs)=>ς (.v (.c (.d η (.l xs))))
 | .c (.k A n c)=>ς (.v (.c (.d η (.k A n c))))
 | .agg xs=>match ldO η xs with
  |some cs=>ς (.v (.agg cs))
  |none=>ξ
def E6:Nat->List AV->Option Lab
 |_,[]=>ς []
 |k,a::as=>match P0 a,E6 (k+1) as with
  |some t,ς r=>ς ((k,t)::r)
  |_,_=>ξ
theorem AF:∀{as:List AV} {k:Nat} {r:Lab},E6 k as=ς r->r=pT k as
 |[],k,r,h=>by simp[E6] at h;subst h;rfl
 |a::as,k,r,h=>by
  simp only[E6] at h
  split at h
  .rename_i t r' h1 h2
   simp at h;subst h
   rw[AF h2,pT]
   congr 2
   cases a with
   |c x=>cases x<;>simp[P0] at h1<;>subst h1<;>rfl
   |agg xs=>
    simp only[P0] at h1
    split at h1
    .rename_i cs h3;simp at h1;subst h1;rw[FA h3];rfl
    cases h1
  cases h
theorem WB{f:FuncId}{fn:Func}{c:Code}{args:List AV}{rs:List ResultVar}{sl0:Lab}(hf:P.funcs[f]?=ς fn)(hb:fn.body=ς c:=by exact rfl)(hnm:(fn.name== "runtime.NumGoroutine")=false:=by kernel_rfl)(hN:fn.ntmps=N)(hrs:fn.results.toList=rs:=by exact rfl)(ha:Zw args.length N=true:=by exact rfl)(hs:E6 0 args=ς sl0:=by exact rfl)(h:AWC P N c ⟨sl0,[],0⟩ (tD N P rs res)):Fn P f args res:=by
 rw[AF hs] at h
 exact fn_of hf hb hnm hN hrs ha h
end
section
variable{P:Program}{N:Nat}{K:St->Prop}{AQ:Exit->St->Prop}{s:St}{n id:Nat}
theorem tn(h:K s):rW K AQ .normal s:=h
theorem tr(h:AQ .ret s):rW K AQ .ret s:=h
theorem te(h:AQ (.exit n) s):rW K AQ (.exit n) s:=h
theorem bn(h:AQ .normal s):iv id AQ .normal s:=h
theorem br(h:AQ .ret s):iv id AQ .ret s:=h
theorem bx(hb:d0 n id=ζ)(h:AQ .normal s):iv id AQ (.exit n) s:=by simp only[iv,hb];exact h
theorem bo(hb:d0 n id=η)(h:AQ (.exit n) s):iv id AQ (.exit n) s:=by simp only[iv,hb];exact h
theorem kn{rs:List ResultVar}{res':List RV}{ls:List Nat}(h:it P s rs vs:=by repeat' (first|exact .nil|apply it.cons|exact .tmp rfl|exact .cell rfl rfl rfl|exact .cell1 rfl rfl))(he:uu s.ob vs=ς (res',ls):=by exact rfl)(hn:gm ls=true:=by exact rfl)(hr:res'=res:=by first|rfl|simp):tD N P rs res .ret s:=by
 subst hr;exact Sc ⟨vs,ls,h,he,hn⟩
theorem UX{rs:List ResultVar}{res':List RV}{ls:List Nat}(h:it P s rs vs:=by repeat' (first|exact .nil|apply it.cons|exact .tmp rfl|exact .cell rfl rfl rfl|exact .cell1 rfl rfl))(he:uu s.ob vs=ς (res',ls):=by exact rfl)(hn:gm ls=true:=by exact rfl)(hr:res'=res:=by first|rfl|simp):tD N P rs res .normal s:=by
 subst hr;exact⟨s,λ_ E _ _ h=>⟨E,h⟩,vs,ls,h,he,hn⟩
end
open Go.RowKit Go.ChangeShapes Go.WideShapes Go.Deep
inductive Sh where
 |i (k:IntKind)
 |b
 |str
 |l (e:List Sh)
mutual
inductive WT:Sh->D->Prop
 |i {k:IntKind} {n:Int} (h:(Lit.int k n).wf=ζ):WT (.i k) (.i k n)
 |b {x:Bool}:WT .b (.b x)
 |str {s:ByteArray} (h:s.size<=maxLen):WT .str (.str s)
 |l {e:List Sh} {xs:Lad} (hl:xs.length<=maxLen) (h:WTL e xs):WT (.l e) (.l xs)
inductive WTs:List Sh->List D->Prop
 |nil:WTs [] []
 |cons {s:Sh} {ss:List Sh} {x:D} {xs:List D} (h:WT s x) (h':WTs ss xs):WTs (s::ss) (x::xs)
inductive WTL:List Sh->Lad->Prop
 |nil {e:List Sh}:WTL e []
 |cons {e:List Sh} {x:List D} {xs:Lad} (h:WTs e x) (h':WTL e xs):WTL e (x::xs)
end
theorem WTs.len:∀{ss:List Sh} {xs:List D},WTs ss xs->xs.length=ss.length
 |_,_,.nil=>rfl
 |_,_,.cons _ h=>by simp[WTs.len h]
theorem WTs.append:∀{ss ts:List Sh} {xs ys:List D},WTs ss xs->WTs ts ys->WTs (ss++ts) (xs++ys)
 |_,_,_,_,.nil,h=>h
 |_,_,_,_,.cons h h',k=>.cons h (h'.append k)
mutual
inductive sS (P:Program):TypeId->List Sh->Prop
 |int {t:TypeId} {k:IntKind} (h:P.underlying t=ς (.int k)):sS P t [.i k]
 |bool {t:TypeId} (h:P.underlying t=ς .bool):sS P t [.b]
 |string {t:TypeId} (h:P.underlying t=ς .string):sS P t [.str]
 |slice {t e:TypeId} {ss:List Sh} (h:P.underlying t=ς (.slice e)) (he:sS P e ss) (hc:P.cellsOf e=ss.length) (hp:0<ss.length):sS P t [.l ss]
 |struct {t:TypeId} {fs:Array Field} {ss:List Sh} (h:P.underlying t=ς (.struct fs)) (hf:HasFs P 0 fs.toList ss) (hc:P.cellsOf t=ss.length):sS P t ss
inductive HasFs (P:Program):Nat->List Field->List Sh->Prop
 |nil {o:Nat}:HasFs P o [] []
 |cons {o:Nat} {f:Field} {fs:List Field} {s1 s2:List Sh} (ho:f.offset=o) (h:sS P f.type s1) (hc:P.cellsOf f.type=s1.length) (h':HasFs P (o+s1.length) fs s2):HasFs P o (f::fs) (s1++s2)
end
theorem Ds{w:World}{F:Nat->Prop}:∀{xs ys:List D} {us vs:Lae},DV w F xs us->DV w F ys vs->DV w F (xs++ys) (us++vs)
 |[],_,[],_,_,h=>h
 |_::_,_,_::_,_,h,k=>⟨h.1,Ds h.2 k⟩
 |[],_,_::_,_,h,_=>h.elim
 |_::_,_,[],_,h,_=>h.elim
section
variable{H:Type}{enc:TypeId×Value->H}{P:Program}{w:World}{spare:Nat->Bool}{held:Bool}
theorem Ej{F:Nat->Prop}:∀{xs:List D} {us:Lae} {b k:Nat},DV w F xs us->(∀j,j<us.length->w.cell? ⟨b,k+j,ξ⟩=us[j]?)->rdL w F xs b k
 |[],[],_,_,_,_=>by simp[rdL]
 |x::xs,u::us,b,k,h,hc=>by
  rw[rdL]
  refine⟨⟨u,by simpa using hc 0 (by simp),h.1⟩,Ej h.2 λj hj=>?_⟩
  have:=hc (j+1) (by simp;omega)
  grind
 |[],_::_,_,_,h,_=>h.elim
 |_::_,[],_,_,h,_=>h.elim
mutual
theorem F1:∀{t:TypeId} {ss:List Sh},sS P t ss->∀{fuel:Nat} {cs:Lae} {x:DataW H×List MemPlace},DataW.trod enc P w 0 (λ_=>ζ) held fuel t cs=ς x->
 ∃xs,WTs ss xs/\DV w (λb=>b<w.heap.size) xs cs
 |_,_,.int ht,fuel,cs,x,h=>by
  obtain⟨n,rfl,_,hw⟩:=DataW.trod_int ht h
  exact⟨[.i _ n],.cons (.i hw) .nil,by simp[rdD],θ⟩
 |_,_,.bool ht,fuel,cs,x,h=>by
  obtain⟨b,rfl,_⟩:=DataW.trod_bool ht h
  exact⟨[.b b],.cons .b .nil,by simp[rdD],θ⟩
 |_,_,.string ht,fuel,cs,x,h=>by
  obtain⟨s,rfl,_,hs⟩:=DataW.trod_string ht h
  exact⟨[.str s],.cons (.str hs) .nil,by simp[rdD],θ⟩
 |_,_,.slice (ss:=ss) (e:=e) ht he hc hp,fuel,cs,x,h=>by
  rcases open_slice ht h with⟨rfl,_⟩|⟨a,len,cap,m,n,Dt,Pl,rfl,_,hl,hm,hmm,_,hi⟩
  .exact⟨[.l []],.cons (.l (ZA _) .nil) .nil,by rw[rdD];simp_all,θ⟩
  have hmc:m=cap:=by simpa using hmm
  have each:∀i,i<len->∃xs,WTs ss xs/\∃us,us.length=ss.length/\DV w (λb=>b<w.heap.size) xs us/\∀j,j<ss.length->w.cell? ((a.add (i*ss.length)).add j)=us[j]?:=by
   intro i hil
   obtain⟨cs',h1,h2⟩:=hi i oaa
   obtain⟨_,h3,h4⟩:=World.cells?_some h1
   obtain⟨xs,k1,k2⟩:=F1 he h2
   rw[hc] at h3 h4
   exact⟨xs,k1,cs',h3,k2,h4⟩
  by_cases h0:len=0
  .subst h0
   exact⟨[.l []],.cons (.l (ZA _) .nil) .nil,by rw[rdD];simp_all,θ⟩
  .
    obtain⟨xs0,k1,us0,k2,k3,k4⟩:=each 0 oaa
    have hc0:=k4 0 hp
    have hu0:∃u,us0[0]?=ς u:=⟨_,Zl oaa⟩
    obtain⟨u0,hu0⟩:=hu0
    have hcell:w.cell? a=ς u0:=by rw[<-hu0,<-hc0];simp[Addr.add]
    obtain⟨b,off,spot⟩:=a
    have hsp:spot=none:=by
     cases spot with
     |none=>rfl
     |some s=>exfalso;simp[World.cell?] at hcell;grind
    subst hsp
    have hb:b<w.heap.size:=World.block_lt_of_cell? w ⟨b,off,ξ⟩ hcell
    have build:∀n i,i+n=len->∃els,WTL ss els/\els.length=n/\(∀e'∈els,e'.length=ss.length)/\rdLL w (λb=>b<w.heap.size) els b (off+i*ss.length):=by
     intro n
     induction n with
     |zero=>intro i _;exact⟨[],.nil,rfl,by simp,by simp[rdLL]⟩
     |succ n ihn=>
      intro i hin
      obtain⟨xs,l1,us,l2,l3,l4⟩:=each i oaa
      obtain⟨els,m1,m2,m3,m4⟩:=ihn (i+1) oaa
      have hxl:=l1.len
      refine⟨xs::els,.cons l1 m1,by simp[m2],by simp_all,?_⟩
      rw[rdLL]
      refine⟨Ej l3 λj hj=>?_,?_⟩
      .have:=l4 j oaa
       rw[sm,sm] at this;exact this
      grind
    obtain⟨els,m1,m2,m3,m4⟩:=build len 0 oaa
    refine⟨[.l els],.cons (.l oaa m1) .nil,?_,θ⟩
    rw[rdD]
    grind
 |_,_,.struct (fs:=fs) ht hf hc,fuel,cs,x,h=>by
  obtain⟨ys,n,_,_,h3,h4,h5⟩:=DataW.trod_struct ht h
  have key:=open_fs hf (fuel:=n) (cs:=cs) (λf hf=>by
   obtain⟨i,hi⟩:=Zx hf
   grind)
  grind
theorem open_fs:∀{o:Nat} {fs:List Field} {ss:List Sh},HasFs P o fs ss->∀{fuel:Nat} {cs:Lae},(∀f∈fs,∃x,DataW.trod enc P w 0 (λ_=>ζ) held fuel f.type ((cs.drop f.offset).take (P.cellsOf f.type))=ς x)->
 ∃xs,WTs ss xs/\DV w (λb=>b<w.heap.size) xs ((cs.drop o).take ss.length)
 |_,_,_,.nil,fuel,cs,h=>⟨[],.nil,by simp[DV]⟩
 |o,_,_,.cons (f:=f) (s1:=s1) (s2:=s2) ho hs hc hf,fuel,cs,h=>by
  obtain⟨x,hx⟩:=h f (by simp)
  obtain⟨xs1,k1,k2⟩:=F1 hs hx
  obtain⟨xs2,m1,m2⟩:=open_fs hf (λg hg=>h g (by simp[hg]))
  refine⟨xs1++xs2,k1.append m1,?_⟩
  rw[ho,hc] at k2
  have:=Ds k2 m2
  rwa [ZM,List.take_add,List.drop_drop]
end
theorem R5{r:Reach}{b0:Nat}{v:Value}{s:Sh}(hs:sS P t [s])(hn:∀fs,P.underlying t≠ς (.struct fs))(hv:Value.okWide P w r b0 t v):v.cells.toList=[v]:=by
 cases hs with
 |int h=>obtain⟨n,rfl⟩:=okWide_int h hv;rfl
 |bool h=>obtain⟨n,rfl⟩:=okWide_bool h hv;rfl
 |string h=>obtain⟨n,rfl⟩:=okWide_string h hv;rfl
 |slice h=>obtain⟨a,l,c,rfl⟩:=okWide_slice h hv;rfl
 |struct h=>simp_all
theorem open_c{r:Reach}{b0:Nat}{v:Value}{d:DataW H}{p:List MemPlace}{s:Sh}(hs:sS P t [s])(hn:∀fs,P.underlying t≠ς (.struct fs))(hv:Value.okWide P w r b0 t v)(h:DataW.Trod enc P w 0 (λ_=>ζ) held t v d p):
 ∃x,WT s x/\avR w (λb=>b<w.heap.size) (.c x) v:=by
 obtain⟨fuel,hf⟩:=h
 rw[R5 hs hn hv] at hf
 obtain⟨xs,h1,h2⟩:=F1 hs hf
 cases h1 with
 |cons h h'=>cases h' with
  |nil=>exact⟨_,h,h2.1⟩
end
theorem Lq{α:Type}{e:List Sh}{f:α->List D}{p:α->Prop}(h:∀x,WTs e x->∃a,x=f a/\p a):∀{xs:Lad},WTL e xs->∃l:List α,xs=l.map f/\∀a∈l,p a
 |_,.nil=>⟨[],rfl,by simp⟩
 |_,.cons h1 h2=>by
  obtain⟨a,rfl,ha⟩:=h _ h1
  obtain⟨l,rfl,hl⟩:=Lq h h2
  exact⟨a::l,rfl,by simp_all⟩
theorem Kp(h:zk w w' (λ_=>False)):Below w.heap.size w w':=⟨h.os,h.tape,h.output,h.size,λb hb=>h.block b hb (λh=>h)⟩
theorem law_calls{f:FuncId}{args:List AV}{vals:Array Value}(h:Fn P f args [rB ζ])(hT:TabsIn w)(hA:AR w (λb=>b<w.heap.size) args vals.toList):
 Calls P f vals w λe w'=>e= .returned (.bool ζ)/\Below w.heap.size w w':=by
 refine(h.calls _ w vals (λ_ h=>h) hT hA).mono ?_
 rintro e w' ⟨v,G,bs,rfl,hp,_,hr,_⟩
 obtain⟨_,hr⟩:=hr
 simp only[rdD] at hr
 exact⟨by rw[hr],Kp hp⟩
abbrev WR(n:Int):Int:=IntKind.i64.wrap n
theorem Fn.frz{f:FuncId}{args:List AV}{ty:Nat}(h:Fn P f args [.c (.own ty sz els n)])(hn:els.length=n):Fn P f args [.c (.d (.l els))]:=by
 refine⟨h.enters,λF w vals hF hT hA=>(h.calls F w vals hF hT hA).mono ?_⟩
 rintro e w' ⟨v,G,bs,rfl,hp,hG,hr,_⟩
 obtain⟨b,c,arr,rfl,rfl,hh,ha,hlc,hmx,hes,hrd,hgb,hbb⟩:=hr
 subst hn
 have hlt:b<w'.heap.size:=by
  rcases ZF b w'.heap.size with h|h
  .exact h
  simp_all
 refine⟨_,λk=>G k\/k=b,[],rfl,hp,?_,⟨rfl,?_⟩,by simp⟩
 .rintro k (hk|rfl)
  .exact hG k hk
  exact⟨hbb,hlt,.mk hh⟩
 rw[rdD]
 exact⟨_,_,rfl,hlc,.inr ⟨b,0,rfl,.inr rfl,bS (λ_ _=>rfl) (λ_ h=>.inl h) rfl _ _ hrd⟩⟩
mutual
inductive WS:Sh->D->Prop
 |i {k:IntKind} {n:Int} (h:(Lit.int k n).wf=ζ):WS (.i k) (.i k n)
 |b {x:Bool}:WS .b (.b x)
 |str {s:ByteArray} (h:s.size<=maxLen):WS .str (.str s)
 |l {e:List Sh} {xs:Lad} (hl:xs.length<=1048576) (h:WSL e xs):WS (.l e) (.l xs)
inductive WSs:List Sh->List D->Prop
 |nil:WSs [] []
 |cons {s:Sh} {ss:List Sh} {x:D} {xs:List D} (h:WS s x) (h':WSs ss xs):WSs (s::ss) (x::xs)
inductive WSL:List Sh->Lad->Prop
 |nil {e:List Sh}:WSL e []
 |cons {e:List Sh} {x:List D} {xs:Lad} (h:WSs e x) (h':WSL e xs):WSL e (x::xs)
end
mutual
def tot:D->Nat
 | .l xs=>xs.length+totLL xs
 | .i _ _=>0
 | .b _=>0
 | .str _=>0
 | .k _ _ _=>0
def totLL:Lad->Nat
 |[]=>0
 |e::es=>totL e+totLL es
def totL:List D->Nat
 |[]=>0
 |d::ds=>tot d+totL ds
end
@[simp] theorem tot_i {k:IntKind} {n:Int}:tot (.i k n)=0:=by rw[tot]
@[simp] theorem tot_b {x:Bool}:tot (.b x)=0:=by rw[tot]
@[simp] theorem tot_str {s:ByteArray}:tot (.str s)=0:=by rw[tot]
@[simp] theorem tot_l {xs:Lad}:tot (.l xs)=xs.length+totLL xs:=by rw[tot]
@[simp] theorem totL_nil:totL []=0:=by rw[totL]
@[simp] theorem totL_cons {xs:List D}:totL (x::xs)=tot x+totL xs:=by rw[totL]
@[simp] theorem totLL_nil:totLL []=0:=by rw[totLL]
@[simp] theorem totLL_cons {x:List D} {xs:Lad}:totLL (x::xs)=totL x+totLL xs:=by rw[totLL]
mutual
theorem WS_of:∀{s:Sh} {x:D},WT s x->tot x<=1048576->WS s x
 |_,_,.i h,_=>.i h
 |_,_,.b,_=>.b
 |_,_,.str h,_=>.str h
 |_,_,.l hl h,ht=>by rw[tot_l] at ht;exact .l oaa (WSL_of h oaa)
theorem PO:∀{s:List Sh} {x:List D},WTs s x->totL x<=1048576->WSs s x
 |_,_,.nil,_=>.nil
 |_,_,.cons h h',ht=>by rw[totL_cons] at ht;exact .cons (WS_of h oaa) (PO h' oaa)
theorem WSL_of:∀{s:List Sh} {x:Lad},WTL s x->totLL x<=1048576->WSL s x
 |_,_,.nil,_=>.nil
 |_,_,.cons h h',ht=>by rw[totLL_cons] at ht;exact .cons (PO h oaa) (WSL_of h' oaa)
end
section
variable{k:IntKind}{e ss:List Sh}{x:List D}{xs:Lad}{d:D}
theorem WS.gi(h:WS (.i k) d):∃n,d= .i k n/\(Lit.int k n).wf=true:=by cases h with|i h=>simp_all
theorem WS.gs(h:WS .str d):∃s,d= .str s/\s.size<=maxLen:=by cases h with|str h=>simp_all
theorem WS.gl(h:WS (.l e) d):∃ys,d= .l ys/\ys.length<=1048576/\WSL e ys:=by cases h with|l hl h=>simp_all
theorem WSs.gn(h:WSs [] x):x=[]:=by cases h;rfl
theorem WSs.gi(h:WSs (.i k::ss) x):∃n r,x= .i k n::r/\(Lit.int k n).wf=ζ/\WSs ss r:=by cases h with|cons h h'=>cases h with|i h=>grind
theorem WSs.gs(h:WSs (.str::ss) x):∃s r,x= .str s::r/\s.size<=maxLen/\WSs ss r:=by cases h with|cons h h'=>cases h with|str h=>grind
theorem WSs.gl(h:WSs (.l e::ss) x):∃ys r,x= .l ys::r/\ys.length<=1048576/\WSL e ys/\WSs ss r:=by cases h with|cons h h'=>cases h with|l hl h=>grind
theorem WTs.gn(h:WTs [] x):x=[]:=by cases h;rfl
theorem WTs.gi(h:WTs (.i k::ss) x):∃n r,x= .i k n::r/\(Lit.int k n).wf=ζ/\WTs ss r:=by cases h with|cons h h'=>cases h with|i h=>grind
theorem WTs.gs(h:WTs (.str::ss) x):∃s r,x= .str s::r/\s.size<=maxLen/\WTs ss r:=by cases h with|cons h h'=>cases h with|str h=>grind
theorem WTs.gl(h:WTs (.l e::ss) x):∃ys r,x= .l ys::r/\ys.length<=9223372036854775807/\WTL e ys/\WTs ss r:=by cases h with|cons h h'=>cases h with|l hl h=>exact⟨_,_,rfl,by unfold maxLen at hl;omega,h,h'⟩
theorem WT.gl(h:WT (.l e) d):∃ys,d= .l ys/\ys.length<=9223372036854775807/\WTL e ys:=by cases h with|l hl h=>exact⟨_,rfl,by unfold maxLen at hl;omega,h⟩
theorem WT.gi(h:WT (.i k) d):∃n,d= .i k n/\(Lit.int k n).wf=true:=by cases h with|i h=>simp_all
theorem WT.gs(h:WT .str d):∃s,d= .str s/\s.size<=maxLen:=by cases h with|str h=>simp_all
theorem WSs.len:∀{ss:List Sh} {xs:List D},WSs ss xs->xs.length=ss.length
 |_,_,.nil=>rfl
 |_,_,.cons _ h=>by simp[WSs.len h]
theorem WSL.len:∀{xs:Lad},WSL ss xs->∀e∈xs,e.length=ss.length
 |_,.nil=>by simp
 |_,.cons h h'=>by simpa using⟨h.len,WSL.len h'⟩
theorem WTL.len:∀{xs:Lad},WTL ss xs->∀e∈xs,e.length=ss.length
 |_,.nil=>by simp
 |_,.cons h h'=>by simpa using⟨h.len,WTL.len h'⟩
theorem WSL.get:∀{xs:Lad},WSL ss xs->∀(i:Nat) (h:i<xs.length),WSs ss xs[i]
 |_::_,.cons h h',0,_=>h
 |_::_,.cons h h',i+1,hi=>by simpa using WSL.get h' i (by simp_all)
theorem WTL.get:∀{xs:Lad},WTL ss xs->∀(i:Nat) (h:i<xs.length),WTs ss xs[i]
 |_::_,.cons h h',0,_=>h
 |_::_,.cons h h',i+1,hi=>by simpa using WTL.get h' i (by simp_all)
theorem WSL.at{k:Nat}(h:WSL ss xs)(hk:k<xs.length):∃e,xs[k]=e/\xs[(k:Int).toNat]?=ς e/\WSs ss e:=⟨_,rfl,by simp[hk],h.get k hk⟩
theorem WTL.at{k:Nat}(h:WTL ss xs)(hk:k<xs.length):∃e,xs[k]=e/\xs[(k:Int).toNat]?=ς e/\WTs ss e:=⟨_,rfl,by simp[hk],h.get k hk⟩
end
section
variable{P:Program}{d:Option Tmp}{ty:TypeId}{ps:String}{af:Array Edge}{gd:Option (Nat×Bool)}{x y z:Operand}
@[irreducible] def booB (a b:Bool):Bool:=a==b
@[simp] theorem booB_t {a b:Bool}:booB a b=ζ↔a=b:=by simp[booB]
@[simp] theorem booB_f {a b:Bool}:booB a b=η↔a≠b:=by simp[booB]
theorem Rx{a b:Bool}[ht:TyU P t .bool]:
 AWN P ⟨d,.binOp .eql t x y t',ty,ps,af,gd⟩ [(x,.v (.c (.d g (.b a)))),(y,.v (.c (.d g' (.b b))))] [] (.v (.c (.d η (.b (booB a b))))) []:=
 cf λE ac w hn _=>by
  have h1:=tL (hn x _ (.head _))
  have h2:=tL (hn y _ (.tail _ (.head _)))
  exact⟨.bool (a==b),by simp[execOp,h1,h2,eqGuard,binOp,run_equal_bool w t a b ht.h],by simp[cvT,cvV,cvC,gD,rdD,booB]⟩
theorem Ry{a b:Bool}[ht:TyU P t .bool]:
 AWN P ⟨d,.binOp .neq t x y t',ty,ps,af,gd⟩ [(x,.v (.c (.d g (.b a)))),(y,.v (.c (.d g' (.b b))))] [] (.v (.c (.d η (.b (!booB a b))))) []:=
 cf λE ac w hn _=>by
  have h1:=tL (hn x _ (.head _))
  have h2:=tL (hn y _ (.tail _ (.head _)))
  exact⟨.bool (!(a==b)),by simp[execOp,h1,h2,eqGuard,binOp,run_equal_bool w t a b ht.h],by simp[cvT,cvV,cvC,gD,rdD,booB]⟩
theorem vH{e:TypeId}(h:P.underlying t=ς (.slice e)):P.elem t=e/\P.underlying t=ς (.slice (P.elem t)):=by
 have:P.elem t=e:=by simp[Program.elem,h]
 simp_all
theorem zP{F:Nat->Prop}{xs:Lad}{A:Option Addr}{c h:Nat}(hs:∀e∈xs,e.length=sz)(h1:l<=h)(h2:h<=xs.length)(hlc:xs.length<=c)(hr:xs=[]\/∃b off,A=ς ⟨b,off,ξ⟩/\F b/\rdLL w F xs b off):rdD w F (.l ((xs.take h).drop l)) (sliced A l h c sz):=by
 have hl:((xs.take h).drop l).length=h-l:=by simp;omega
 rw[rdD,hl]
 refine⟨_,_,rfl,by omega,?_⟩
 by_cases hlh:h=l
 .simp_all
 right
 rcases hr with rfl|⟨b,off,rfl,hb,hr⟩
 .simp_all
 rw[if_neg oaa]
 exact⟨b,off+l*sz,by simp[Addr.add],hb,vV (lH h hr) (λe he=>hs e (ZL he)) l⟩
theorem Oq{t by_:Nat}{g g1 g2:Bool}{xs:Lad}{l:Int}{lo hi:Operand}[ht:da P t e sz by_](hs:∀e∈xs,e.length=sz)(h0:0<=l)(h1:l<=h)(h2:h<=xs.length):
 AWN P ⟨d,.slice t x (ς lo) (ς hi) ξ,ty,ps,af,gd⟩ [(x,.v (.c (.d g (.l xs)))),(lo,.v (.c (.d g1 (.i .i64 l)))),(hi,.v (.c (.d g2 (.i .i64 h))))] [] (.v (.c (.d g (.l ((xs.take h.toNat).drop l.toNat))))) []:=
 cf λE ac w hn _=>by
  have k1:=hn x _ (.head _)
  have k2:=fZ (hn lo _ (.tail _ (.head _)))
  have k3:=fZ (hn hi _ (.tail _ (.tail _ (.head _))))
  simp only[cvT,cvV,cvC,gD,rdD] at k1
  obtain⟨A,c,hu,hlc,hr⟩:=k1
  obtain⟨i,z,hi1,hi2,_⟩:=ht.i
  obtain⟨he,hu'⟩:=vH ht.u
  refine⟨sliced A l.toNat h.toNat c sz,?_,zP hs oaa oaa hlc hr⟩
  simp[execOp,hu,k2,k3,run_sliceAt_slice w t _ _ _ _ hu',run_slice_lh w t A xs.length c hu' .i64 .i64 l h h0 h1 oaa,he,d7 hi1,hi2]
theorem Kd{t by_:Nat}{g g2:Bool}{xs:Lad}{hi:Operand}[ht:da P t e sz by_](hs:∀e∈xs,e.length=sz)(h0:0<=h)(h2:h<=xs.length):
 AWN P ⟨d,.slice t x ξ (ς hi) ξ,ty,ps,af,gd⟩ [(x,.v (.c (.d g (.l xs)))),(hi,.v (.c (.d g2 (.i .i64 h))))] [] (.v (.c (.d g (.l (xs.take h.toNat))))) []:=
 cf λE ac w hn _=>by
  have k1:=hn x _ (.head _)
  have k3:=fZ (hn hi _ (.tail _ (.head _)))
  simp only[cvT,cvV,cvC,gD,rdD] at k1
  obtain⟨A,c,hu,hlc,hr⟩:=k1
  obtain⟨i,z,hi1,hi2,_⟩:=ht.i
  obtain⟨he,hu'⟩:=vH ht.u
  refine⟨sliced A 0 h.toNat c sz,?_,by have:=zP (l:=0) (h:=h.toNat) hs oaa oaa hlc hr;rw[List.drop_zero] at this;exact this⟩
  simp[execOp,hu,k3,run_sliceAt_slice w t _ _ _ _ hu',run_slice_h w t A xs.length c hu' .i64 h h0 oaa,he,d7 hi1,hi2]
theorem Ke{t by_:Nat}{g g2:Bool}{xs:Lad}{l:Int}{lo:Operand}[ht:da P t e sz by_](hs:∀e∈xs,e.length=sz)(h0:0<=l)(h2:l<=xs.length):
 AWN P ⟨d,.slice t x (ς lo) ξ ξ,ty,ps,af,gd⟩ [(x,.v (.c (.d g (.l xs)))),(lo,.v (.c (.d g2 (.i .i64 l))))] [] (.v (.c (.d g (.l (xs.drop l.toNat))))) []:=
 cf λE ac w hn _=>by
  have k1:=hn x _ (.head _)
  have k3:=fZ (hn lo _ (.tail _ (.head _)))
  simp only[cvT,cvV,cvC,gD,rdD] at k1
  obtain⟨A,c,hu,hlc,hr⟩:=k1
  obtain⟨i,z,hi1,hi2,_⟩:=ht.i
  obtain⟨he,hu'⟩:=vH ht.u
  refine⟨sliced A l.toNat xs.length c sz,?_,by have:=zP (l:=l.toNat) (h:=xs.length) hs oaa oaa hlc hr;rw[List.take_length] at this;exact this⟩
  simp[execOp,hu,k3,run_sliceAt_slice w t _ _ _ _ hu',run_slice_l w t A xs.length c hu' .i64 l h0 oaa,he,d7 hi1,hi2]
end
section
variable{P:Program}{N:Nat}{d:Tmp}{ty:TypeId}{ps:String}{af:Array Edge}{gd:Option (Nat×Bool)}{x y z:Operand}{sl:Lab}{ob:Laa}{nx:Nat}
theorem bq{a b:Bool}[TyU P t .bool](hx:opT sl x= .v (.c (.d g (.b a))))(hy:opT sl y= .v (.c (.d g' (.b b))))(hN:nlt d N=ζ):
 NS0 P N ⟨ς d,.binOp .eql t x y t',ty,ps,af,gd⟩ sl ob nx d (tB (booB a b)) ⟨d,[(x,.v (.c (.d g (.b a)))),(y,.v (.c (.d g' (.b b))))],[],tB (booB a b),[]⟩:=c9 (st:=⟨sl,ob,nx⟩) Rx rfl hN ⟨hx,hy,θ⟩ trivial rfl
theorem bne{a b:Bool}[TyU P t .bool](hx:opT sl x= .v (.c (.d g (.b a))))(hy:opT sl y= .v (.c (.d g' (.b b))))(hN:nlt d N=ζ):
 NS0 P N ⟨ς d,.binOp .neq t x y t',ty,ps,af,gd⟩ sl ob nx d (tB (!booB a b)) ⟨d,[(x,.v (.c (.d g (.b a)))),(y,.v (.c (.d g' (.b b))))],[],tB (!booB a b),[]⟩:=c9 (st:=⟨sl,ob,nx⟩) Ry rfl hN ⟨hx,hy,θ⟩ trivial rfl
theorem cd{t by_:Nat}{g g1 g2:Bool}{xs:Lad}{l:Int}{lo hi:Operand}[ht:da P t e sz by_](hx:opT sl x= .v (.c (.d g (.l xs))))(hl:opT sl lo= .v (.c (.d g1 (.i .i64 l))))(hh:opT sl hi= .v (.c (.d g2 (.i .i64 h))))(hN:nlt d N=ζ)(hs:∀e∈xs,e.length=sz)(h0:0<=l)(h1:l<=h)(h2:h<=xs.length):
 NS0 P N ⟨ς d,.slice t x (ς lo) (ς hi) ξ,ty,ps,af,gd⟩ sl ob nx d (.v (.c (.d g (.l ((xs.take h.toNat).drop l.toNat))))) ⟨d,[(x,.v (.c (.d g (.l xs)))),(lo,.v (.c (.d g1 (.i .i64 l)))),(hi,.v (.c (.d g2 (.i .i64 h))))],[],.v (.c (.d g (.l ((xs.take h.toNat).drop l.toNat)))),[]⟩:=
 c9 (st:=⟨sl,ob,nx⟩) (Oq hs h0 h1 h2) rfl hN ⟨hx,hl,hh,θ⟩ trivial rfl
theorem cdh{t by_:Nat}{g g2:Bool}{xs:Lad}{hi:Operand}[ht:da P t e sz by_](hx:opT sl x= .v (.c (.d g (.l xs))))(hh:opT sl hi= .v (.c (.d g2 (.i .i64 h))))(hN:nlt d N=ζ)(hs:∀e∈xs,e.length=sz)(h0:0<=h)(h2:h<=xs.length):
 NS0 P N ⟨ς d,.slice t x ξ (ς hi) ξ,ty,ps,af,gd⟩ sl ob nx d (.v (.c (.d g (.l (xs.take h.toNat))))) ⟨d,[(x,.v (.c (.d g (.l xs)))),(hi,.v (.c (.d g2 (.i .i64 h))))],[],.v (.c (.d g (.l (xs.take h.toNat)))),[]⟩:=
 c9 (st:=⟨sl,ob,nx⟩) (Kd hs h0 h2) rfl hN ⟨hx,hh,θ⟩ trivial rfl
theorem cdl{t by_:Nat}{g g2:Bool}{xs:Lad}{l:Int}{lo:Operand}[ht:da P t e sz by_](hx:opT sl x= .v (.c (.d g (.l xs))))(hl:opT sl lo= .v (.c (.d g2 (.i .i64 l))))(hN:nlt d N=ζ)(hs:∀e∈xs,e.length=sz)(h0:0<=l)(h2:l<=xs.length):
 NS0 P N ⟨ς d,.slice t x (ς lo) ξ ξ,ty,ps,af,gd⟩ sl ob nx d (.v (.c (.d g (.l (xs.drop l.toNat))))) ⟨d,[(x,.v (.c (.d g (.l xs)))),(lo,.v (.c (.d g2 (.i .i64 l))))],[],.v (.c (.d g (.l (xs.drop l.toNat)))),[]⟩:=
 c9 (st:=⟨sl,ob,nx⟩) (Ke hs h0 h2) rfl hN ⟨hx,hl,θ⟩ trivial rfl
end
def fi(e:List D)(j:Nat):Int:=match e[j]? with|some (.i _ n)=>n|_=>0
def fb(e:List D)(j:Nat):Bool:=match e[j]? with|some (.b n)=>n|_=>η
def fs(e:List D)(j:Nat):ByteArray:=match e[j]? with|some (.str n)=>n|_=>⟨#[]⟩
def fl(e:List D)(j:Nat):Lad:=match e[j]? with|some (.l n)=>n|_=>[]
@[simp] theorem fi_0 {k:IntKind} {n:Int} :fi (.i k n::r) 0=n:=rfl
@[simp] theorem fb_0 {n:Bool} :fb (.b n::r) 0=n:=rfl
@[simp] theorem fs_0 {n:ByteArray} :fs (.str n::r) 0=n:=rfl
@[simp] theorem fl_0 {n:Lad} :fl (.l n::r) 0=n:=rfl
@[simp] theorem fi_s {d:D} :fi (d::r) (j+1)=fi r j:=rfl
@[simp] theorem fb_s {d:D} :fb (d::r) (j+1)=fb r j:=rfl
@[simp] theorem fs_s {d:D} :fs (d::r) (j+1)=fs r j:=rfl
@[simp] theorem fl_s {d:D} :fl (d::r) (j+1)=fl r j:=rfl
def m0{α:Type}(f:α->Bool):Int->List α->Int
 |_,[]=> -1
 |i,a::l=>bif f a then i else m0 f (i+1) l
theorem Rd{f:α->Bool}{l:List α}{i:Int}(h:k<l.length):m0 f i (l.drop k)=bif f l[k] then i else m0 f (i+1) (l.drop (k+1)):=by rw[Z1 h];rfl
theorem BT{α:Type}{f:α->Bool}:∀{l:List α} {i:Int},0<=i->leB 0 (m0 f i l)=l.any f
 |[],i,h=>by simp[m0]
 |a::l,i,h=>by
  rw[m0,List.any_cons]
  cases hf:f a with
  |true=>simpa using h
  |false=>simp only[cond_false,ZV];exact BT oaa
theorem g7{ob:Laa}{o ty:Nat}{g:Bool}(ho:go ob o=ς (.row ty sz els g ζ):=by exact rfl)(hlt:rsv o=false:=by exact rfl):
 cB N ⟨sl,ob,nx⟩ ⟨sl,(o,.row ty sz els g η)::ob,nx⟩:=by
 intro cx E a w hR
 obtain⟨b,c,arr,hr,hh,ha,hlc,hmx,hes,hrd,hFm,_⟩:=hR.obs o _ ho
 have hF:=hFm rfl
 obtain⟨hb1,hb2⟩:=hR.ok.rb o b c hr
 have hb3:cx.In b:=by
  rcases hb2 with h|h
  .exact h
  simp_all
 let E':Env:=⟨E.r,λk=>E.F k\/k=b,λk=>E.G k\/(g=ζ/\k=b),E.T,E.Z,E.n⟩
 have hH:∀(g':Bool) k,E.H g' k->E'.H g' k:=λg' k hk=>by cases g'<;>exact Or.inl hk
 have hk:gb E w E' w:=⟨λ_ _ h=>h,hH,λ_ _ _=>rfl,λ_ _ h=>⟨h,rfl⟩,λ_ h=>⟨h,.refl _ _⟩,rfl⟩
 refine⟨E',⟨?_,?_,?_,hR.ok.rb,hR.ok.inj,hR.ok.os,hR.ok.tape,hR.ok.output,hR.ok.size,hR.ok.block,hR.ok.pin,λk hk=>hk.elim (hR.ok.ff k) (λe=>e▸hb3.nf),λk hk hk'=>hk.elim (λh=>hR.ok.gc k h hk') (λe=>e▸.mk hh),
  ⟨λl k h=>?_,hR.ok.sf.tt,λk h=>?_,hR.ok.sf.zs,hR.ok.sf.ze⟩⟩,hR.dom,λl x hl=>?_,λk=>iw hk (hR.sl k),hR.dfr,hR.size,hR.td⟩
 .rintro k (h|rfl)
  .exact hR.ok.fb k h
  exact hb1
 .rintro k (h|⟨_,rfl⟩)
  .exact .inl (hR.ok.gf k h)
  omega
 .rintro k (h|⟨_,rfl⟩)
  .exact hR.ok.gn k h
  exact hb3.ng
 .obtain⟨h1,h2,h3,h4⟩:=hR.ok.sf.tb l k h
  grind
 .obtain⟨h1,h2,h3,h4⟩:=hR.ok.sf.zc k h
  grind
 by_cases hol:o=l
 .subst hol
  rw[bM] at hl
  cases hl
  exact⟨b,c,arr,hr,hh,ha,hlc,hmx,hes,bS (λ_ _=>rfl) (hH g) rfl _ _ hrd,(λh=>by cases h),λ_=>⟨.inr rfl,λhg=>.inr ⟨by injection hg,rfl⟩⟩,θ⟩
 rw[a9 _ _ hol] at hl
 refine fy hk (λ_ _ _=>rfl) (λb' c' hr' hn hn'=>?_) (hR.obs l x hl)
 rcases hn' with h|h
 .exact hn h
 subst h;exact hol (hR.ok.inj _ _ _ _ _ hr hr')
def dfz(ob:Laa):C->Option (C×Lac)
 | .w o n=>match go ob o with
  |some (.row _ _ els (.b g) η)=>ς (.d g (.l els),[(els.length,n)])
  |_=>ς (.w o n,[])
 |c=>ς (c,[])
def JV(ob:Laa):List C->Option (List C×Lac)
 |[]=>ς ([],[])
 |c::cs=>match dfz ob c,JV ob cs with
  |some (x,e),ς (xs,es)=>ς (x::xs,e++es)
  |_,_=>ξ
def vfz(ob:Laa):T->Option (T×Lac)
 | .v (.c c)=>match dfz ob c with
  |some (x,e)=>ς (.v (.c x),e)
  |none=>ξ
 | .v (.agg cs)=>match JV ob cs with
  |some (x,e)=>ς (.v (.agg x),e)
  |none=>ξ
 |_=>ξ
theorem Qs{ob:Laa}(hob:∀l x,go ob l=ς x->cg E w l x){c c':C}{e:Lac}(h:dfz ob c=ς (c',e))(he:Eqs e)(hc:cvC E w c u):cvC E w c' u:=by
 unfold dfz at h
 split at h
 .rename_i o n
  split at h
  .rename_i ho
   simp at h;obtain⟨rfl,rfl⟩:=h
   obtain⟨b,c,hr,rfl⟩:=hc
   obtain⟨b',c',arr,hr',hh,ha,hlc,hmx,hes,hrd,_,hFm,_⟩:=hob o _ ho
   rw[hr] at hr';cases hr'
   obtain⟨h1,h2⟩:=hFm rfl
   have hn:=he.1
   subst hn
   show rdD _ _ _ _
   rw[rdD]
   refine⟨_,_,rfl,hlc,.inr ⟨b,0,rfl,?_,hrd⟩⟩
   exact(λ(g:Bool) (h2:Gr.b g=Gr.b ζ->E.G b)=>(by
    cases g
    .exact h1
    exact h2 rfl:E.H (.b g) b)) _ h2
  simp_all
 simp_all
theorem Fc{E:Env}{w:World}{ob:Laa}(hob:∀l x,go ob l=ς x->cg E w l x):∀{cs cs':List C} {e:Lac} {us:Lae},JV ob cs=ς (cs',e)->Eqs e->CV E w cs us->CV E w cs' us
 |[],cs',e,us,h,he,hc=>by simp[JV] at h;simp_all
 |c::cs,cs',e,us,h,he,hc=>by
  cases us with
  |nil=>exact hc.elim
  |cons u us=>
   simp only[JV] at h
   split at h
   .rename_i h1 h2
    simp at h;obtain⟨rfl,rfl⟩:=h
    obtain⟨k1,k2⟩:=dq he
    exact⟨Qs hob h1 k1 hc.1,Fc hob h2 k2 hc.2⟩
   cases h
theorem fN{ob:Laa}{t t':T}{e:Lac}(hk:gt sl k=t:=by exact rfl)(hv:vfz ob t=ς (t',e):=by exact rfl)(he:Eqs e:=by repeat (first|exact θ|refine⟨by first|rfl|exact lm _|simp,?_⟩)):cB N ⟨sl,ob,nx⟩ ⟨(k,t')::sl,ob,nx⟩:=by
 intro cx E a w hR
 refine⟨E,hR.ok,hR.dom,hR.obs,λj=>?_,hR.dfr,hR.size,hR.td⟩
 by_cases hj:k=j
 .subst hj
  rw[cG]
  have:=hR.sl k
  rw[hk] at this
  unfold vfz at hv
  split at hv
  .split at hv
   .rename_i h1;simp at hv;obtain⟨rfl,rfl⟩:=hv;exact Qs hR.obs h1 he this
   cases hv
  .split at hv
   .rename_i h1;simp at hv;obtain⟨rfl,rfl⟩:=hv;obtain⟨arr,hu,hc⟩:=this;exact⟨arr,hu,Fc hR.obs h1 he hc⟩
   cases hv
  cases hv
 rw[b7 _ _ hj];exact hR.sl j
inductive ct (σ ρ:Type) where
 |next (x:σ)
 |done (r:ρ)
def iter{σ ρ:Type}(step:σ->Option (ct σ ρ)):Nat->σ->Option ρ
 |0,_=>ξ
 |n+1,x=>match step x with
  |some (.next x')=>iter step n x'
  |some (.done r)=>ς r
  |none=>ξ
def dn(o:Option ρ):Option (ct σ ρ):=match o with|some r=>ς (.done r)|none=>ξ
@[irreducible] def FU:Nat:=18446744073709551616
def ix(xs:List α)(i:Int):Option α:=bif leB 0 i then xs[i.toNat]? else ξ
theorem bt{b:Bool}{x y:Option α}{r:Option α}(h:b=ζ)(H:(bif b then x else y)=r):x=r:=by simp_all
theorem bf{b:Bool}{x y:Option α}{r:Option α}(h:b=η)(H:(bif b then x else y)=r):y=r:=by simp_all
theorem ob{β:Type}{o:Option α}{k:α->Option β}{r:β}(H:Option.bind o k=ς r):∃a,o=ς a/\k a=ς r:=Option.bind_eq_some_iff.1 H
theorem rq{b:Bool}{x:Option α}{r:α}(H:(bif b then x else ξ)=ς r):b=ζ/\x=ς r:=by
 grind
theorem dnE{m:Option ρ}{o:ct σ ρ}(H:dn m=ς o):∃r,m=ς r/\o= .done r:=by
 cases m with
 |none=>cases H
 |some r=>exact⟨r,rfl,(Option.some.inj H).symm⟩
theorem ixE{xs:List α}{i:Int}{x:α}(H:ix xs i=ς x):0<=i/\xs[i.toNat]?=ς x:=by
 unfold ix at H
 obtain⟨h,H⟩:=rq H
 simp_all
theorem HS{xs:List α}{i:Int}{x:α}(H:ix xs i=ς x):i<xs.length:=by
 obtain⟨h0,h1⟩:=ixE H
 grind
theorem gk{β:Type}{xs:List α}{i:Int}{x:α}(f:α->β)(H:ix xs i=ς x):(xs.map f)[i.toNat]?=ς (f x):=by
 rw[ZH,(ixE H).2];rfl
section
variable{P:Program}{N:Nat}{st:St}{AQ:Exit->St->Prop}
theorem aK{a b c:St}(h:cB N a b)(k:cB N b c):cB N a c:=λcx E ac w hR=>let ⟨E',h'⟩:=h cx E ac w hR;k cx E' ac w h'
theorem jv(a:St):cB N a a:=λ_ E _ _ h=>⟨E,h⟩
class Clo(N:Nat)(AQ:Exit->St->Prop):Prop where
 h:∀e s m,cB N s m->AQ e m->AQ e s
instance {rs:List ResultVar} {res:List RV}:Clo N (tD N P rs res):=⟨λe s m hw h=>by
 cases e<;>simp only[tD] at h ⊢<;>first|exact h|(obtain⟨s',h1,h2⟩:=h;exact⟨s',aK hw h1,h2⟩)⟩
instance {y:Code} [c:Clo N AQ]:Clo N (rW (λs=>AWC P N y s AQ) AQ):=⟨λe s m hw h=>by
 cases e<;>first|exact i8 hw h|exact c.h _ _ _ hw h⟩
instance {id:Nat} [c:Clo N AQ]:Clo N (iv id AQ):=⟨λe s m hw h=>by
 cases e with
 |exit n=>
  simp only[iv] at h ⊢
  cases hb:d0 n id<;>rw[hb] at h<;>exact c.h _ _ _ hw h
 |_=>exact c.h _ _ _ hw h⟩
instance {M:St} [c:Clo N AQ]:Clo N (rW (λs=>cB N s M) AQ):=⟨λe s m hw h=>by
 cases e<;>first|exact aK hw h|exact c.h _ _ _ hw h⟩
def eZ(N:Nat)(S:σ->St)(r:ρ)(o:ct σ ρ)(AQ:Exit->St->Prop):Exit->St->Prop:=
 rW (λs=>∃x',o= .next x'/\cB N s (S x')) (λe s=>∃r',o= .done r'/\(r'=r->AQ e s))
instance {σ ρ:Type} {S:σ->St} {r:ρ} {o:ct σ ρ} [c:Clo N AQ]:Clo N (eZ N S r o AQ):=⟨λe s m hw h=>by
 cases e<;>first
  |(obtain⟨x',h1,h2⟩:=h;exact⟨x',h1,aK hw h2⟩)
  |(obtain⟨r',h1,h2⟩:=h;exact⟨r',h1,λhq=>c.h _ _ _ hw (h2 hq)⟩)⟩
theorem uU{S:σ->St}{r:ρ}{x':σ}(h:cB N s (S x')):eZ (ρ:=ρ) N S r (.next x') AQ .normal s:=⟨x',rfl,h⟩
theorem Fw{S:σ->St}{r r':ρ}(h:r'=r->AQ (.exit n) s):eZ N S r (ct.done r') AQ (.exit n) s:=⟨r',rfl,h⟩
theorem iq_r{S:σ->St}{r r':ρ}(h:r'=r->AQ .ret s):eZ N S r (ct.done r') AQ .ret s:=⟨r',rfl,h⟩
theorem sX{x:Code}(M:St)[c:Clo N AQ](h1:AWC P N x st (rW (λs=>cB N s M) AQ))(h2:AQ .normal M):AWC P N x st AQ:=
 xM h1 λe s h=>by
  cases e<;>first|exact c.h _ _ _ h h2|exact h
theorem pY{x:Code}(M:St)[c:Clo N AQ](h1:AWC P N x st (iv id (rW (λs=>cB N s M) AQ)))(h2:AQ .normal M):AWC P N x st (iv id AQ):=
 xM h1 λe s h=>by
  cases e with
  |exit n=>
   simp only[iv] at h ⊢
   cases hb:d0 n id<;>rw[hb] at h
   .exact h
   exact c.h _ _ _ h h2
  |normal=>exact c.h _ _ _ h h2
  |_=>exact h
class Dc(N:Nat)(K:St->Prop):Prop where
 h:∀s m,cB N s m->K m->K s
instance {y:Code}:Dc N (λs=>AWC P N y s AQ):=⟨λs m hw h=>i8 hw h⟩
instance [c:Clo N AQ]:Dc N (λs=>AQ .normal s):=⟨λs m hw h=>c.h _ _ _ hw h⟩
instance {M:St}:Dc N (λs=>cB N s M):=⟨λs m hw h=>aK hw h⟩
theorem Bk{ops:Array Oper}{l:List Oper}{K:St->Prop}(M:St)[c:Dc N K](h1:AWR P N ops l st (λs=>cB N s M))(h2:K M):AWR P N ops l st K:=
 P6 (λs h=>c.h _ _ h h2) h1
theorem LK{ops:Array Oper}{K K':List Inf->St->Prop}(hk:∀is s,K is s->K' is s):∀{l:List Oper} {is:List Inf} {st:St},DR P N ops l is st K->DR P N ops l is st K'
 |[],is,st,h=>hk _ _ h
 |o::l,is,st,h=>by
  obtain⟨x,s1,s2,h1,h2,h3⟩:=h
  exact⟨x,s1,s2,h1,h2,LK hk h3⟩
theorem Fd{ops ops':Array Oper}{l:List Oper}{is:List Inf}{K:St->Prop}(M:St)[c:Dc N K](h1:DR P N ops l is st (λis t=>xc ops' is nx=ζ/\cB N t M))(h2:K M):DR P N ops l is st (λis t=>xc ops' is nx=ζ/\K t):=
 LK (λis s h=>⟨h.1,c.h _ _ h.2 h2⟩) h1
theorem pV{c:Code}{step:σ->Option (ct σ ρ)}{x0:σ}{r:ρ}(S:σ->St)(H:iter step n x0=ς r)(h0:cB N st (S x0))(round:∀x o,step x=ς o->AWC P N c (S x) (eZ N S r o AQ)):AWC P N (.loop c) st AQ:=by
 refine P5 (σ:=Nat×σ) (λp=>iter step p.1 p.2=ς r) (λp=>S p.2) (λp=>p.1) (n,x0) H h0 ?_
 rintro⟨m,x⟩ hI
 cases m with
 |zero=>cases hI
 |succ m=>
  simp only[iter] at hI
  cases hs:step x with
  |none=>simp_all
  |some o=>
   rw[hs] at hI
   refine xM (round x o hs) λe s h=>?_
   cases o with
   |next x'=>
    cases e with
    |normal=>
     obtain⟨x'',hx,hw⟩:=h
     cases hx
     exact⟨(m,x'),hI,hw,Nat.lt_succ_self _⟩
    |_=>obtain⟨r',hx,_⟩:=h;cases hx
   |done r'=>
    cases hI
    cases e with
    |normal=>obtain⟨x'',hx,hw⟩:=h;cases hx
    |_=>obtain⟨r'',hx,h⟩:=h;cases hx;exact h rfl
end
def X0(by_:Nat)(n c:Int):Bool:=decide (0<=n/\n<=c/\(by_:Int)*c<=281474976710656/\c<=9223372036854775807)
def cW(by_ n:Nat):Bool:=decide (n*by_<=140737488355328/\n<=9223372036854775807)
theorem FD{enc:α->List D}(h:∀a,(enc a).length=n)(l:List α):∀e∈l.map enc,e.length=n:=by
 simp_all
theorem lm{enc:α->List D}(l:List α):(l.map enc).length=l.length:=ZU _
section
variable{P:Program}{N:Nat}{d:Tmp}{ty:TypeId}{ps:String}{af:Array Edge}{gd:Option (Nat×Bool)}{x y z:Operand}{sl:Lab}{ob:Laa}{nx:Nat}
variable{α:Type}{enc:α->List D}
theorem xdT{by_:Nat}{xs:List α}{i:Int}{a:α}[da P t e sz by_](H:ix xs i=ς a)(henc:∀a,(enc a).length=sz:=by exact λ_=>rfl)(hx:opT sl x= .v (.c (.d g (.l (xs.map enc)))):=by exact rfl)(hy:opT sl y= .v (.c (.d g' (.i kd i))):=by exact rfl)(hN:nlt d N=true:=by exact rfl):
 NS0 P N ⟨ς d,.indexAddr t x y,ty,ps,af,gd⟩ sl ob nx d (.v (.c (.q g (enc a) 0))) ⟨d,[(x,.v (.c (.d g (.l (xs.map enc))))),(y,.v (.c (.d g' (.i kd i))))],[],.v (.c (.q g (enc a) 0)),[]⟩:=
 xd hx hy hN (ixE H).1 (gk enc H) (FD henc xs)
theorem xwT{by_:Nat}{o:Nat}{i:Int}{ys:List α}{a:α}[da P t e sz by_](H:ix ys i=ς a)(hx:opT sl x= .v (.c (.w o n)):=by exact rfl)(hy:opT sl y= .v (.c (.d g (.i kd i))):=by exact rfl)(hn:ys.length=n:=by first|rfl|simp)(hN:nlt d N=true:=by exact rfl):
 NS0 P N ⟨ς d,.indexAddr t x y,ty,ps,af,gd⟩ sl ob nx d (.v (.c (.e o sz i.toNat 0))) ⟨d,[(x,.v (.c (.w o n))),(y,.v (.c (.d g (.i kd i))))],[],.v (.c (.e o sz i.toNat 0)),[]⟩:=
 xw hx hy hN (ixE H).1 (by have:=HS H;omega)
theorem mkT{by_:Nat}{zd:List D}{k k':IntKind}{n c:Int}{za:α}[da P t e sz by_][TyE P e zd](H:X0 by_ n c=ζ)(hz:enc za=zd)(hx:opT sl x= .v (.c (.d g (.i k n))):=by exact rfl)(hy:opT sl y= .v (.c (.d g' (.i k' c))):=by exact rfl)(hN:nlt d N=true:=by exact rfl)(hq:nxt nx=ς nx':=by exact rfl):
 NS1 P N ⟨ς d,.makeSlice t x y,ty,ps,af,gd⟩ sl ob nx nx' d (.v (.c (.w nx (ZP n.toNat za).length))) (.row e sz ((ZP n.toNat za).map enc) ζ ζ) ⟨d,[(x,.v (.c (.d g (.i k n)))),(y,.v (.c (.d g' (.i k' c))))],[],.v (.c (.w nx (ZP n.toNat za).length)),[(nx,.row e sz ((ZP n.toNat za).map enc) ζ ζ)]⟩:=by
 simp only[X0,decide_eq_true_eq] at H
 have hn:(n.toNat:Int)=n:=by omega
 have:=mk (P:=P) (N:=N) (d:=d) (ty:=ty) (ps:=ps) (af:=af) (gd:=gd) (ob:=ob) (sl:=sl) (nx:=nx) (nx':=nx') (t:=t) (e:=e) (sz:=sz) (by_:=by_) (zd:=zd) (x:=x) (y:=y) (n:=n.toNat) (by rw[hn];exact hx) hy hN oaa oaa oaa hq
 simp_all
theorem apT{by_ o:Nat}{ys zs:List α}{zd:Lad}{g gy gg:Bool}{c:C}[da P t e sz by_](H:cW by_ (ys++zs).length=ζ)(hzd:zs.map enc=zd:=by exact rfl)(henc:∀a,(enc a).length=sz:=by exact λ_=>rfl)(hd:nlt d N=true:=by exact rfl)(hx:opT sl x= .v (.c (.w o n)):=by exact rfl)(hy:opT sl y= .v (.c c):=by exact rfl)(hn:ys.length=n:=by first|rfl|simp)(hs:Src ob c zd gy:=by first|exact .d|exact .nil|exact .w rfl (by first|rfl|exact lm _|simp)|exact .wn rfl (by first|rfl|exact lm _|simp))(ho:go ob o=ς (.row e sz (ys.map enc) g ζ):=by exact rfl)(hk:gI o sl=ς sl':=by exact rfl)(hkb:gP o ob=ς ob':=by exact rfl)(hg:(g&&gy)=gg:=by exact rfl)(hrv:rsp o=false:=by exact rfl):
 AWO P N ⟨ς d,.call ⟨.builtin .append,#[x,y],#[t,t]⟩,ty,ps,af,gd⟩ ⟨sl,ob,nx⟩ ⟨(d,.v (.c (.w o (ys++zs).length)))::sl',(o,.row e sz ((ys++zs).map enc) gg ζ)::ob',nx⟩:=by
 subst hzd
 simp only[cW,decide_eq_true_eq,ZM] at H
 have:=ap (P:=P) (N:=N) (d:=d) (ty:=ty) (ps:=ps) (af:=af) (gd:=gd) (nx:=nx) (t:=t) (e:=e) (sz:=sz) (by_:=by_) hd hx hy ho hs hk hkb hg (by simp_all) (FD henc zs) (by simp_all) (by simp_all) hrv
 simp_all
theorem soT{o:Nat}{i:Int}{rt:TypeId}{ys:List α}{a a':α}{ns:List D}{g g' gg:Bool}{v:V}[TyN P t n](H:ix ys i=ς a)(hx:opT sl x= .v (.c (.e o sz i.toNat j)):=by exact rfl)(hy:opT sl y= .v v:=by exact rfl)(ho:go ob o=ς (.row rt sz (ys.map enc) g ζ):=by exact rfl)(hv:vD v=ς (ns,g'):=by exact rfl)(hn:d0 ns.length n=true:=by exact rfl)(hs:oA j ns (enc a)=ς (enc a'):=by exact rfl)(hg:(g&&g')=gg:=by exact rfl):
 AWO P N ⟨ξ,.store t x y,ty,ps,af,gd⟩ ⟨sl,ob,nx⟩ ⟨sl,(o,.row rt sz ((ys.set i.toNat a').map enc) gg ζ)::ob,nx⟩:=by
 have:=so (P:=P) (N:=N) (ty:=ty) (ps:=ps) (af:=af) (gd:=gd) (nx:=nx) (t:=t) (n:=n) hx hy ho hv hn (gk enc H) hs hg
 simp_all
end
def eI(n:Int):List D:=[.i .i64 n]
def eU8(n:Int):List D:=[.i .u8 n]
def fH(xs:List α)(l h:Int):Bool:=decide (0<=l/\l<=h/\h<=xs.length)
theorem ne0{b:Int}(h:(!eqB b 0)=ζ):b≠0:=by simp_all
theorem wn{o n':Nat}(h:gt sl k= .v (.c (.w o n)))(hn:n=n'):gt sl k= .v (.c (.w o n')):=hn▸h
section
variable{P:Program}{N:Nat}{d:Tmp}{ty:TypeId}{ps:String}{af:Array Edge}{gd:Option (Nat×Bool)}{x y z:Operand}{sl:Lab}{ob:Laa}{nx:Nat}
variable{α:Type}{enc:α->List D}
theorem ldT{xs:List α}{by_:Nat}[da P t e sz by_](hx:opT sl x= .v (.c (.d g (.l (xs.map enc)))))(hN:nlt d N=ζ):
 NS0 P N ⟨ς d,.call ⟨.builtin .len,#[x],#[t]⟩,ty,ps,af,gd⟩ sl ob nx d (tI xs.length) ⟨d,[(x,.v (.c (.d g (.l (xs.map enc)))))],[],tI xs.length,[]⟩:=by
 have:=ld (P:=P) (N:=N) (d:=d) (ty:=ty) (ps:=ps) (af:=af) (gd:=gd) (ob:=ob) (nx:=nx) (t:=t) hx hN
 simp_all
theorem cdhT{t by_:Nat}{g g2:Bool}{xs:List α}{hi:Operand}[ht:da P t e sz by_](H:fH xs 0 h=ζ)(henc:∀a,(enc a).length=sz)(hx:opT sl x= .v (.c (.d g (.l (xs.map enc)))))(hh:opT sl hi= .v (.c (.d g2 (.i .i64 h))))(hN:nlt d N=ζ):
 NS0 P N ⟨ς d,.slice t x ξ (ς hi) ξ,ty,ps,af,gd⟩ sl ob nx d (.v (.c (.d g (.l ((xs.take h.toNat).map enc))))) ⟨d,[(x,.v (.c (.d g (.l (xs.map enc))))),(hi,.v (.c (.d g2 (.i .i64 h))))],[],.v (.c (.d g (.l ((xs.take h.toNat).map enc)))),[]⟩:=by
 simp only[fH,decide_eq_true_eq] at H
 have:=cdh (P:=P) (N:=N) (d:=d) (ty:=ty) (ps:=ps) (af:=af) (gd:=gd) (ob:=ob) (nx:=nx) (t:=t) (e:=e) (sz:=sz) (by_:=by_) hx hh hN (FD henc xs) H.2.1 (by simp_all)
 simp_all
theorem UB{t by_:Nat}{g g2:Bool}{xs:List α}{l:Int}{lo:Operand}[ht:da P t e sz by_](H:fH xs l xs.length=ζ)(henc:∀a,(enc a).length=sz)(hx:opT sl x= .v (.c (.d g (.l (xs.map enc)))))(hl:opT sl lo= .v (.c (.d g2 (.i .i64 l))))(hN:nlt d N=ζ):
 NS0 P N ⟨ς d,.slice t x (ς lo) ξ ξ,ty,ps,af,gd⟩ sl ob nx d (.v (.c (.d g (.l ((xs.drop l.toNat).map enc))))) ⟨d,[(x,.v (.c (.d g (.l (xs.map enc))))),(lo,.v (.c (.d g2 (.i .i64 l))))],[],.v (.c (.d g (.l ((xs.drop l.toNat).map enc)))),[]⟩:=by
 simp only[fH,decide_eq_true_eq] at H
 have:=cdl (P:=P) (N:=N) (d:=d) (ty:=ty) (ps:=ps) (af:=af) (gd:=gd) (ob:=ob) (nx:=nx) (t:=t) (e:=e) (sz:=sz) (by_:=by_) hx hl hN (FD henc xs) H.1 (by simp_all)
 simp_all
end
end Go.AM
