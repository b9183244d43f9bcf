/- A part. -/
import Derived.Orders
import Derived.Below
import Derived.KernelRfl
import Derived.Maps.AppendAt
import Derived.Laws.MakeOwn
import Derived.Tactics
import Derived.Laws.Strings
import Derived.Great.FillDense
import Derived.Deep.Slices
import Derived.WideShapes
import Derived.ProofKit
import Derived.OpenShut
import Derived.ChangeOld
import Derived.Laws.Slices
import Derived.Laws.Small
import Derived.Laws.StructEq
set_option linter.unusedVariables false
set_option linter.unusedSimpArgs false
set_option maxHeartbeats 4000000
open List renaming getElem?_eq_getElem->v0,getElem?_eq_some_iff->aaa,mem_of_getElem?->aab,getElem?_append_right->aao,take_succ_cons->aaD,mem_cons->aaf,replicate->aac,getElem?_append_left->aaq,pairwise_iff_getElem->aaB,mem_of_mem_take->aas,findIdx?_eq_some_iff_getElem->aaW,length_cons->aak,cons_append->aav,getElem?_of_mem->aal,getElem?_drop->aaP,range->f5,drop_drop->aaK,any_eq_true->aax,eq_nil_of_length_eq_zero->aaQ,flatten_append->aaL,getElem?_take->aaH,drop_eq_getElem_cons->aaX,findIdx?_eq_none_iff->aa0,length_take->aaM,length_eq_zero_iff->aa4,length_map->aaI,getElem?_toArray->aaT,all_cons->aaE,map_cons->aau,drop_succ_cons->aa8,length_append->aaz,getElem?_map->aaN,map_toArray->aaV,all_eq_true->aag,nodup_cons->aaY,mem_append->aae,drop_zero->aa2,map_drop->aa3,map_take->aaZ,map_nil->aaJ
open Nat renaming eq_of_beq_eq_true->aad,beq->d0,zero_add->aaj,mul_le_mul_right->aaO,le_refl->aah,le_of_ble_eq_true->aaF,min_eq_left->aaG,zero_le->aap,add_mul_mod_self_right->aa7,ble->aar,add_zero->aaR,add_comm->aa5,lt_or_ge->aat,lt_of_lt_of_le->aay,mod_eq_of_lt->aa9,strongRecOn->aa6
open Bool renaming and_eq_true->hV,not_eq_true'->aaw,or_eq_false_iff->aam,or_eq_true->aan,false_or->aaC
open Array renaming getElem?_eq_getElem->aaA,replicate->aai,ext'->aaS,toArray_toList->aaU,getD->aa1
namespace Go.AM
variable {w w':World} {b g g' m gy gg:Bool} {k sz n N j id l i e by_ off f ft nx nx':Nat} {u:Value} {t t' vt:TypeId} {a:Act} {P:Program} {dj:Tmp} {y:Code} {σ α ρ:Type} {kd:IntKind}
abbrev Lae:=List Value
abbrev Lac:=List (Nat×Nat)
theorem oaa{p:Prop}(h:p:=by omega):p:=h
def wG:List Nat:=[]
def JS (_:World):Prop:=True
theorem VP (w w':World) (_:∀b∈wG,w'.heap[b]?=w.heap[b]?) (_:JS w):JS w':=trivial
theorem P4 (w:World) (_:JS w):∀b∈wG,b<w.heap.size:=λ_ h=>by cases h
open Go.RowKit
def nlt (a b:Nat):Bool:=aar (a+1) b
def TabsIn (w:World):Prop:=JS w
inductive D where
 |i (k:IntKind) (n:Int)
 |b (x:Bool)
 |str (s:ByteArray)
 |l (xs:List (List D))
 |k (A:Option Addr) (n c:Nat)
 deriving Inhabited
variable {x:Go.AM.D} {r el:List Go.AM.D}
abbrev Lad:=List (List D)
variable {els ys:Go.AM.Lad}
mutual
def rdD (w:World) (F:Nat->Prop):D->Value->Prop
 | .i k n,u=>u= .int k n
 | .b x,u=>u= .bool x
 | .str s,u=>u= .string s
 | .l xs,u=>∃A c,u= .slice A xs.length c/\xs.length<=c/\(xs=[]\/∃b off,A=some ⟨b,off,none⟩/\F b/\rdLL w F xs b off)
 | .k A n c,u=>u= .slice A n c
def rdLL (w:World) (F:Nat->Prop):Lad->Nat->Nat->Prop
 |[],_,_=>True
 |e::es,b,k=>rdL w F e b k/\rdLL w F es b (k+e.length)
def rdL (w:World) (F:Nat->Prop):List D->Nat->Nat->Prop
 |[],_,_=>True
 |d::ds,b,k=>(∃u,w.cell? ⟨b,k,none⟩=some u/\rdD w F d u)/\rdL w F ds b (k+1)
end
theorem vW {b:Nat} (h:w'.heap[b]?=w.heap[b]?):w'.cell? ⟨b,k,none⟩=w.cell? ⟨b,k,none⟩:=by
 simp[World.cell?,h]
mutual
theorem cS {w w':World} {F F':Nat->Prop} (hw:∀b,F b->w'.heap[b]?=w.heap[b]?) (hF:∀b,F b->F' b):
 ∀(d:D) (u:Value),rdD w F d u->rdD w' F' d u
 | .i _ _,_,h=>by simpa [rdD] using h
 | .b _,_,h=>by simpa [rdD] using h
 | .str _,_,h=>by simpa [rdD] using h
 | .l xs,u,h=>by
  rw[rdD] at h ⊢
  obtain⟨A,c,hu,hlc,h⟩:=h
  refine⟨A,c,hu,hlc,?_⟩
  rcases h with h|⟨b,off,hA,hb,h⟩
  .exact .inl h
  exact .inr ⟨b,off,hA,hF b hb,rdLL_mono hw hF xs b off hb h⟩
 | .k _ _ _,_,h=>by simpa [rdD] using h
theorem rdLL_mono {w w':World} {F F':Nat->Prop} (hw:∀b,F b->w'.heap[b]?=w.heap[b]?) (hF:∀b,F b->F' b):
 ∀(xs:Lad) (b k:Nat),F b->rdLL w F xs b k->rdLL w' F' xs b k
 |[],_,_,_,_=>by simp[rdLL]
 |e::es,b,k,hb,h=>by
  rw[rdLL] at h ⊢
  exact⟨rdL_mono hw hF e b k hb h.1,rdLL_mono hw hF es b _ hb h.2⟩
theorem rdL_mono {w w':World} {F F':Nat->Prop} (hw:∀b,F b->w'.heap[b]?=w.heap[b]?) (hF:∀b,F b->F' b):
 ∀(xs:List D) (b k:Nat),F b->rdL w F xs b k->rdL w' F' xs b k
 |[],_,_,_,_=>by simp[rdL]
 |d::ds,b,k,hb,h=>by
  rw[rdL] at h ⊢
  obtain⟨⟨u,hc,hu⟩,h⟩:=h
  exact⟨⟨u,(vW (hw b hb)).trans hc,cS hw hF d u hu⟩,rdL_mono hw hF ds b _ hb h⟩
end
theorem HS {w w':World} {F F':Nat->Prop} (hw:∀b,F b->w'.heap[b]?=w.heap[b]?) (hF:∀b,F b->F' b) {b:Nat} (hb:w'.heap[b]?=w.heap[b]?):
 ∀(xs:List D) (k:Nat),rdL w F xs b k->rdL w' F' xs b k
 |[],_,_=>by simp[rdL]
 |d::ds,k,h=>by
  rw[rdL] at h ⊢
  obtain⟨⟨u,hc,hu⟩,h⟩:=h
  exact⟨⟨u,(vW hb).trans hc,cS hw hF d u hu⟩,HS hw hF hb ds _ h⟩
theorem cT {w w':World} {F F':Nat->Prop} (hw:∀b,F b->w'.heap[b]?=w.heap[b]?) (hF:∀b,F b->F' b) {b:Nat} (hb:w'.heap[b]?=w.heap[b]?):
 ∀(xs:Lad) (k:Nat),rdLL w F xs b k->rdLL w' F' xs b k
 |[],_,_=>by simp[rdLL]
 |e::es,k,h=>by
  rw[rdLL] at h ⊢
  exact⟨HS hw hF hb e k h.1,cT hw hF hb es _ h.2⟩
theorem nq {w:World} {F:Nat->Prop}:∀{xs:List D} {b k:Nat} {j:Nat} {d:D},rdL w F xs b k->xs[j]?=some d->∃u,w.cell? ⟨b,k+j,none⟩=some u/\rdD w F d u
 |[],_,_,_,_,_,h=>by simp at h
 |_::_,b,k,0,d,h,hj=>by
  rw[rdL] at h
  simp_all
 |_::ds,b,k,j+1,d,h,hj=>by
  rw[rdL] at h
  have:=nq (j:=j) h.2 (by simpa using hj)
  grind
theorem oI {w:World} {F:Nat->Prop}:∀{xs:List D} {b k:Nat},(∀j d,xs[j]?=some d->∃u,w.cell? ⟨b,k+j,none⟩=some u/\rdD w F d u)->rdL w F xs b k
 |[],_,_,_=>by simp[rdL]
 |d::ds,b,k,h=>by
  rw[rdL]
  refine⟨h 0 d rfl,oI λj d' hj=>?_⟩
  have:=h (j+1) d' (by simp_all)
  grind
theorem rL {w:World} {F:Nat->Prop} {sz:Nat}:∀{xs:Lad} {b k:Nat} {i:Nat} {e:List D},rdLL w F xs b k->(∀e∈xs,e.length=sz)->xs[i]?=some e->rdL w F e b (k+i*sz)
 |[],_,_,_,_,_,_,h=>by simp at h
 |_::_,b,k,0,e,h,_,hi=>by
  rw[rdLL] at h
  simp_all
 |e0::es,b,k,i+1,e,h,hs,hi=>by
  rw[rdLL] at h
  have h0:e0.length=sz:=hs e0 (by simp)
  have:=rL (i:=i) h.2 (λx hx=>hs x (by simp[hx])) (by simpa using hi)
  grind
theorem wv {w:World} {F:Nat->Prop} {sz:Nat}:∀{xs:Lad} {b k:Nat},(∀e∈xs,e.length=sz)->(∀i e,xs[i]?=some e->rdL w F e b (k+i*sz))->rdLL w F xs b k
 |[],_,_,_,_=>by simp[rdLL]
 |e0::es,b,k,hs,h=>by
  rw[rdLL]
  have h0:e0.length=sz:=hs e0 (by simp)
  refine⟨by simpa using h 0 e0 rfl,wv (λx hx=>hs x (by simp[hx])) λi e hi=>?_⟩
  have:=h (i+1) e (by simp_all)
  grind
theorem Cp {F:Nat->Prop} {xs:Lad} {b:Nat} (h:rdLL w F xs b k) (hs:∀e∈xs,e.length=sz) (m:Nat):rdLL w F (xs.drop m) b (k+m*sz):=
 wv (λe he=>hs e (List.mem_of_mem_drop he)) λi e hi=>by
  rw[aaP] at hi
  have:=rL h hs hi
  grind
theorem pD {w:World} {F:Nat->Prop}:∀{xs:Lad} {b k:Nat} (m:Nat),rdLL w F xs b k->rdLL w F (xs.take m) b k
 |[],_,_,_,_=>by simp[rdLL]
 |_::_,_,_,0,_=>by simp[rdLL]
 |e::es,b,k,m+1,h=>by
  rw[rdLL] at h
  rw[aaD,rdLL]
  exact⟨h.1,pD m h.2⟩
theorem Qa {sz:Nat}:∀{xs:Lad},(∀e∈xs,e.length=sz)->(xs.map List.length).sum=xs.length*sz
 |[],_=>by simp
 |e::es,h=>by
  simp[h e (by simp),Qa (xs:=es) λx hx=>h x (by simp[hx]),Nat.add_mul]
  omega
theorem wu {F:Nat->Prop} {d:D} (h:rdD w F d u):u.oneCell'=true:=by
 cases d<;>simp only[rdD] at h
 case l xs=>obtain⟨A,c,rfl,_⟩:=h;rfl
 all_goals subst h;rfl
theorem Co {F:Nat->Prop} {d:D} (h:rdD w F d u):u.cells= #[u]:=by
 cases d<;>simp only[rdD] at h
 case l xs=>obtain⟨A,c,rfl,_⟩:=h;rfl
 all_goals subst h;rfl
def NU (u u':Value):Prop:=u'=u\/(∃k n m,u= .int k n/\u'= .int k m)\/(∃x y,u= .bool x/\u'= .bool y)\/(∃s t,u= .string s/\u'= .string t)
theorem NU.trans {v x:Value} (h:NU u v) (h':NU v x):NU u x:=by
 rcases h with rfl|⟨k,n,m,rfl,rfl⟩|⟨a,b,rfl,rfl⟩|⟨s,t,rfl,rfl⟩
 .exact h'
 .rcases h' with rfl|⟨k',n',m',h1,rfl⟩|⟨a,b,h1,rfl⟩|⟨s,t,h1,rfl⟩
  .exact .inr (.inl ⟨_,_,_,rfl,rfl⟩)
  .cases h1;exact .inr (.inl ⟨_,_,_,rfl,rfl⟩)
  .cases h1
  cases h1
 .rcases h' with rfl|⟨k',n',m',h1,rfl⟩|⟨a,b,h1,rfl⟩|⟨s,t,h1,rfl⟩
  .exact .inr (.inr (.inl ⟨_,_,rfl,rfl⟩))
  .cases h1
  .cases h1;exact .inr (.inr (.inl ⟨_,_,rfl,rfl⟩))
  cases h1
 rcases h' with rfl|⟨k',n',m',h1,rfl⟩|⟨a,b,h1,rfl⟩|⟨s,t,h1,rfl⟩
 .exact .inr (.inr (.inr ⟨_,_,rfl,rfl⟩))
 .cases h1
 .cases h1
 cases h1;exact .inr (.inr (.inr ⟨_,_,rfl,rfl⟩))
def sD (w w':World) (b:Nat):Prop:=∀k u,w.cell? ⟨b,k,none⟩=some u->∃u',w'.cell? ⟨b,k,none⟩=some u'/\NU u u'
theorem sD.refl (w:World) (b:Nat):sD w w b:=λ_ u h=>⟨u,h,.inl rfl⟩
theorem sD.of_eq {b:Nat} (h:w'.heap[b]?=w.heap[b]?):sD w w' b:=λ_ u hc=>⟨u,(vW h).trans hc,.inl rfl⟩
theorem sD.trans {w'':World} {b:Nat} (h:sD w w' b) (h':sD w' w'' b):sD w w'' b:=λk u hc=>by
 obtain⟨u',h1,h2⟩:=h k u hc
 obtain⟨u'',h3,h4⟩:=h' k u' h1
 exact⟨u'',h3,h2.trans h4⟩
mutual
def rsD (w:World) (F:Nat->Prop):D->Value->Prop
 | .i k _,u=>∃m,u= .int k m
 | .b _,u=>∃x,u= .bool x
 | .str _,u=>∃s,u= .string s
 | .l xs,u=>∃A c,u= .slice A xs.length c/\xs.length<=c/\(xs=[]\/∃b off,A=some ⟨b,off,none⟩/\F b/\rsLL w F xs b off)
 | .k A n c,u=>u= .slice A n c
def rsLL (w:World) (F:Nat->Prop):Lad->Nat->Nat->Prop
 |[],_,_=>True
 |e::es,b,k=>rsL w F e b k/\rsLL w F es b (k+e.length)
def rsL (w:World) (F:Nat->Prop):List D->Nat->Nat->Prop
 |[],_,_=>True
 |d::ds,b,k=>(∃u,w.cell? ⟨b,k,none⟩=some u/\rsD w F d u)/\rsL w F ds b (k+1)
end
theorem Yb {F:Nat->Prop} {d:D} {u':Value} (h:rsD w F d u) (hs:NU u u'):rsD w F d u':=by
 rcases hs with rfl|⟨k,n,m,rfl,rfl⟩|⟨a,b,rfl,rfl⟩|⟨s,t,rfl,rfl⟩
 .exact h
 all_goals cases d<;>simp only[rsD] at h ⊢
 all_goals first
  |(obtain⟨A,c,h,_⟩:=h;cases h;done)
  |(obtain⟨m',h⟩:=h;cases h;done)
  |(obtain⟨m',h⟩:=h;cases h;exact⟨_,rfl⟩)
  |(cases h;done)
mutual
theorem vx {w w':World} {F F':Nat->Prop} (hw:∀b,F b->sD w w' b) (hF:∀b,F b->F' b):
 ∀(d:D) (u:Value),rsD w F d u->rsD w' F' d u
 | .i _ _,_,h=>by simpa [rsD] using h
 | .b _,_,h=>by simpa [rsD] using h
 | .str _,_,h=>by simpa [rsD] using h
 | .l xs,u,h=>by
  rw[rsD] at h ⊢
  obtain⟨A,c,hu,hlc,h⟩:=h
  refine⟨A,c,hu,hlc,?_⟩
  rcases h with h|⟨b,off,hA,hb,h⟩
  .exact .inl h
  exact .inr ⟨b,off,hA,hF b hb,rsLL_mono hw hF xs b off hb h⟩
 | .k _ _ _,_,h=>by simpa [rsD] using h
theorem rsLL_mono {w w':World} {F F':Nat->Prop} (hw:∀b,F b->sD w w' b) (hF:∀b,F b->F' b):
 ∀(xs:Lad) (b k:Nat),F b->rsLL w F xs b k->rsLL w' F' xs b k
 |[],_,_,_,_=>by simp[rsLL]
 |e::es,b,k,hb,h=>by
  rw[rsLL] at h ⊢
  exact⟨rsL_mono hw hF e b k hb h.1,rsLL_mono hw hF es b _ hb h.2⟩
theorem rsL_mono {w w':World} {F F':Nat->Prop} (hw:∀b,F b->sD w w' b) (hF:∀b,F b->F' b):
 ∀(xs:List D) (b k:Nat),F b->rsL w F xs b k->rsL w' F' xs b k
 |[],_,_,_,_=>by simp[rsL]
 |d::ds,b,k,hb,h=>by
  rw[rsL] at h ⊢
  obtain⟨⟨u,hc,hu⟩,h⟩:=h
  obtain⟨u',hc',hs⟩:=hw b hb k u hc
  exact⟨⟨u',hc',vx hw hF d u' (Yb hu hs)⟩,rsL_mono hw hF ds b _ hb h⟩
end
mutual
theorem rsD_of {w:World} {F:Nat->Prop}:∀(d:D) (u:Value),rdD w F d u->rsD w F d u
 | .i _ n,_,h=>by rw[rdD] at h;rw[rsD];simp_all
 | .b x,_,h=>by rw[rdD] at h;rw[rsD];simp_all
 | .str s,_,h=>by rw[rdD] at h;rw[rsD];simp_all
 | .l xs,u,h=>by
  rw[rdD] at h;rw[rsD]
  obtain⟨A,c,hu,hlc,h⟩:=h
  refine⟨A,c,hu,hlc,?_⟩
  rcases h with h|⟨b,off,hA,hb,h⟩
  .exact .inl h
  exact .inr ⟨b,off,hA,hb,rsLL_of xs b off h⟩
 | .k _ _ _,_,h=>by rw[rdD] at h;rw[rsD];exact h
theorem rsLL_of {w:World} {F:Nat->Prop}:∀(xs:Lad) (b k:Nat),rdLL w F xs b k->rsLL w F xs b k
 |[],_,_,_=>by simp[rsLL]
 |e::es,b,k,h=>by
  rw[rdLL] at h;rw[rsLL]
  exact⟨rsL_of e b k h.1,rsLL_of es b _ h.2⟩
theorem rsL_of {w:World} {F:Nat->Prop}:∀(xs:List D) (b k:Nat),rdL w F xs b k->rsL w F xs b k
 |[],_,_,_=>by simp[rsL]
 |d::ds,b,k,h=>by
  rw[rdL] at h;rw[rsL]
  obtain⟨⟨u,hc,hu⟩,h⟩:=h
  exact⟨⟨u,hc,rsD_of d u hu⟩,rsL_of ds b _ h⟩
end
theorem NG {w:World} {F:Nat->Prop}:∀{xs:List D} {b k:Nat} {j:Nat} {d:D},rsL w F xs b k->xs[j]?=some d->∃u,w.cell? ⟨b,k+j,none⟩=some u/\rsD w F d u
 |[],_,_,_,_,_,h=>by simp at h
 |_::_,b,k,0,d,h,hj=>by
  rw[rsL] at h
  simp_all
 |_::ds,b,k,j+1,d,h,hj=>by
  rw[rsL] at h
  have:=NG (j:=j) h.2 (by simpa using hj)
  grind
theorem NF {F:Nat->Prop} {d:D} (h:rsD w F d u):u.oneCell'=true/\u.cells= #[u]:=by
 cases d<;>simp only[rsD] at h
 case l xs=>obtain⟨A,c,rfl,_⟩:=h;exact⟨rfl,rfl⟩
 all_goals obtain⟨_,rfl⟩:=h;exact⟨rfl,rfl⟩
inductive C where
 |d (g:Bool) (x:D)
 |w (o n:Nat)
 |s (o sz off len:Nat)
 |p (o k:Nat)
 |e (o sz i j:Nat)
 |q (g:Bool) (x:List D) (j:Nat)
 |fn (f:FuncId)
 |nil
 |any
 |r (l:Nat) (x:D)
 |z (x:D)
 |zq (x:List D) (j:Nat)
 |wn (o n:Nat)
variable {cs:List Go.AM.C}
inductive V where
 |c (x:C)
 |agg (cs:List C)
variable {vs:List Go.AM.V}
inductive T where
 |v (x:V)
 |tup (ts:List V)
 |any
variable {out:Go.AM.T}
abbrev Lab:=List (Nat×T)
variable {sl sl':Go.AM.Lab}
structure Hid where
 nl:Prop
 S:Nat->Nat->(Nat->Prop)->World->Prop
 st:∀(b c:Nat) (R R':Nat->Prop) (w w':World),S b c R w->(∀k,R k->R' k)->w'.heap[b]?=w.heap[b]?->(∀k,R k->w'.heap[k]?=w.heap[k]?)->S b c R' w'
inductive Ob where
 |var (ty:TypeId) (cs:List C)
 |row (ty:TypeId) (sz:Nat) (els:Lad) (g m:Bool)
 |rown (ty:TypeId) (sz:Nat) (els:Lad) (g:Bool)
 |abs (l:Nat) (h:Hid)
abbrev Laa:=List (Nat×Ob)
variable {nob nw ob':Go.AM.Laa}
abbrev tI (n:Int):T:=.v (.c (.d false (.i .i64 n)))
abbrev tB (b:Bool):T:=.v (.c (.d false (.b b)))
abbrev tS (s:ByteArray):T:=.v (.c (.d false (.str s)))
structure Env where
 r:Nat->Option (Nat×Nat)
 F:Nat->Prop
 G:Nat->Prop
 T:Nat->Nat->Prop:=λ_ _=>False
 Z:Nat->Prop:=λ_=>False
 n:Nat->Prop:=λ_=>False
variable {E E':Go.AM.Env}
def Env.H (E:Env) (g:Bool):Nat->Prop:=if g then E.G else E.F
def cvC (E:Env) (w:World):C->Value->Prop
 | .d g x,u=>rdD w (E.H g) x u
 | .w o n,u=>∃b c,E.r o=some (b,c)/\u= .slice (some ⟨b,0,none⟩) n c
 | .s o sz off len,u=>∃A c b k,E.r o=some (b,k)/\u= .slice A len c/\len<=c/\(len=0\/A=some ⟨b,off*sz,none⟩)
 | .p o k,u=>∃b c,E.r o=some (b,c)/\u= .pointer (some ⟨b,k,none⟩)
 | .e o sz i j,u=>∃b c,E.r o=some (b,c)/\u= .pointer (some ⟨b,i*sz+j,none⟩)
 | .q g x j,u=>∃b k,u= .pointer (some ⟨b,k+j,none⟩)/\E.H g b/\rdL w (E.H g) x b k
 | .fn f,u=>u= .func (.func f) #[] #[]
 | .nil,u=>u= .slice none 0 0
 | .any,_=>True
 | .r l x,u=>rdD w (E.T l) x u
 | .z x,u=>rsD w E.Z x u
 | .zq x j,u=>∃b k,u= .pointer (some ⟨b,k+j,none⟩)/\E.Z b/\rsL w E.Z x b k
 | .wn o n,u=>(E.n o/\n=0/\u= .slice none 0 0)\/(¬E.n o/\∃b c,E.r o=some (b,c)/\u= .slice (some ⟨b,0,none⟩) n c)
def CV (E:Env) (w:World):List C->Lae->Prop
 |[],[]=>True
 |c::cs,u::us=>cvC E w c u/\CV E w cs us
 |_,_=>False
def cvV (E:Env) (w:World):V->Value->Prop
 | .c x,u=>cvC E w x u
 | .agg cs,u=>∃arr,u= .agg arr/\CV E w cs arr.toList
def VV (E:Env) (w:World):List V->Lae->Prop
 |[],[]=>True
 |c::cs,u::us=>cvV E w c u/\VV E w cs us
 |_,_=>False
def cvT (E:Env) (w:World):T->Value->Prop
 | .v x,u=>cvV E w x u
 | .tup ts,u=>∃arr,u= .tuple arr/\VV E w ts arr.toList
 | .any,_=>True
def df (E:Env) (w:World) (o:Nat):Ob->Prop
 | .var ty cs=>∃b c arr,E.r o=some (b,c)/\w.heap[b]?=some (.cells arr ty (0,0))/\CV E w cs arr.toList/\¬E.F b
 | .row ty sz els g m=>∃b c arr,E.r o=some (b,c)/\w.heap[b]?=some (.cells arr ty (0,0))/\arr.size=c*sz/\els.length<=c/\c<=maxLen/\
  (∀e∈els,e.length=sz)/\rdLL w (E.H g) els b 0/\(m=true->¬E.F b)/\(m=false->E.F b/\(g=true->E.G b))
 | .rown ty sz els g=>(E.n o/\els=[])\/(¬E.n o/\∃b c arr,E.r o=some (b,c)/\w.heap[b]?=some (.cells arr ty (0,0))/\arr.size=c*sz/\els.length<=c/\c<=maxLen/\
  (∀e∈els,e.length=sz)/\rdLL w (E.H g) els b 0/\¬E.F b)
 | .abs l h=>(E.n o/\h.nl)\/(¬E.n o/\∃b c,E.r o=some (b,c)/\h.S b c (E.T l) w/\¬E.F b)
structure Cx where
 w0:World
 W:Nat->Prop
 r0:Nat->Option (Nat×Nat):=λ_=>none
 F0:Nat->Prop:=λ_=>True
 Z:Nat->Prop:=λ_=>False
 gw:TabsIn w0/\∀b∈wG,¬W b
 G0:Nat->Prop:=λ_=>False
def rsv (o:Nat):Bool:=aar 190 o&&nlt o 210
def rsp (o:Nat):Bool:=aar 200 o&&nlt o 210
theorem JH {o:Nat} (h:rsp o=true):rsv o=true:=by
 simp only[rsp,rsv,nlt,hV,Nat.ble_eq] at h ⊢
 omega
theorem rN {o:Nat} (h:rsv o=false):rsp o=false:=by
 cases k:rsp o with
 |false=>rfl
 |true=>rw[JH k] at h;cases h
def jv (w:World) (b:Nat):Prop:=∃arr ty fz,w.heap[b]?=some (.cells arr ty fz)/\(fz=(0,0)\/arr.size<=fz.1)
theorem jv.mk {b:Nat} {arr:Array Value} {ty:TypeId} (h:w.heap[b]?=some (.cells arr ty (0,0))):jv w b:=⟨arr,ty,_,h,.inl rfl⟩
structure Dd (cx:Cx) (E:Env) (w:World):Prop where
 tb:∀l b,E.T l b->(b<w.heap.size/\cx.w0.heap.size<=b)/\¬E.F b/\(∀o c,E.r o≠some (b,c))/\jv w b
 tt:∀l l' b,E.T l b->E.T l' b->l=l'
 zc:∀b,cx.Z b->(b<cx.w0.heap.size/\b<w.heap.size/\cx.W b)/\¬E.F b/\(∀o c,E.r o≠some (b,c))/\jv w b
 zs:∀b,cx.Z b->sD cx.w0 w b
 ze:∀b,E.Z b->cx.Z b
theorem Dd.zb {cx:Cx} (s:Dd cx E w) (b:Nat) (h:E.Z b):(b<cx.w0.heap.size/\b<w.heap.size/\cx.W b)/\¬E.F b/\(∀o c,E.r o≠some (b,c))/\jv w b:=s.zc b (s.ze b h)
structure dJ (cx:Cx) (E:Env) (w:World):Prop where
 fb:∀b,E.F b->b<w.heap.size
 gf:∀b,E.G b->E.F b
 gn:∀b,E.G b->cx.w0.heap.size<=b\/cx.G0 b
 rb:∀o b c,E.r o=some (b,c)->b<w.heap.size/\(cx.w0.heap.size<=b\/(cx.W b/\rsv o=true))
 inj:∀o o' b c c',E.r o=some (b,c)->E.r o'=some (b,c')->o=o'
 os:w.os=cx.w0.os
 tape:w.tape=cx.w0.tape
 output:w.output=cx.w0.output
 size:cx.w0.heap.size<=w.heap.size
 block:∀b,b<cx.w0.heap.size->¬cx.W b->w.heap[b]?=cx.w0.heap[b]?
 pin:∀o x,rsp o=true->E.r o=some x->cx.r0 o=some x
 ff:∀b,E.F b->cx.F0 b\/cx.w0.heap.size<=b
 gc:∀b,E.F b->cx.w0.heap.size<=b->jv w b
 sf:Dd cx E w
theorem Xv {b:Nat} {o:Obj} (h:w.heap[b]?=some o):b<w.heap.size:=by
 grind
theorem dJ.tabs {cx:Cx} (ok:dJ cx E w):TabsIn w:=
 VP cx.w0 w (λb hb=>ok.block b (P4 _ cx.gw.1 b hb) (cx.gw.2 b hb)) cx.gw.1
theorem dJ.ntab {cx:Cx} (ok:dJ cx E w) {o b c:Nat} (h:E.r o=some (b,c)):∀k∈wG,k≠b:=λk hk e=>by
 have:=P4 _ cx.gw.1 k hk
 subst e
 rcases(ok.rb o _ c h).2 with m|m
 .omega
 exact cx.gw.2 _ hk m.1
structure Ext (E:Env) (w:World) (E':Env) (w':World):Prop where
 r:∀o x,E.r o=some x->E'.r o=some x
 F:∀b,E.F b->E'.F b
 G:∀b,E.G b->E'.G b
 F':∀b,E'.F b->E.F b\/w.heap.size<=b
 heap:∀b,b<w.heap.size->w'.heap[b]?=w.heap[b]?
 T:E'.T=E.T
 Z:E'.Z=E.Z
 n:E'.n=E.n
theorem Ext.refl (E:Env) (w:World):Ext E w E w:=⟨λ_ _ h=>h,λ_ h=>h,λ_ h=>h,λ_ h=>.inl h,λ_ _=>rfl,rfl,rfl,rfl⟩
theorem jv.of_eq {b:Nat} (h:w'.heap[b]?=w.heap[b]?) (p:jv w b):jv w' b:=by
 obtain⟨arr,ty,fz,hp,hf⟩:=p
 exact⟨arr,ty,fz,h.trans hp,hf⟩
theorem Dd.grow {cx:Cx} (s:Dd cx E w) (hT:E'.T=E.T) (hZ:E'.Z=E.Z) (hF:∀b,E'.F b->E.F b\/w.heap.size<=b) (hr:∀o b c,E'.r o=some (b,c)->(∃o' c',E.r o'=some (b,c'))\/w.heap.size<=b)
 (hs:w.heap.size<=w'.heap.size) (hh:∀b,b<w.heap.size->w'.heap[b]?=w.heap[b]?):Dd cx E' w':=by
 refine⟨λl b h=>?_,λl l' b h h'=>?_,λb h=>?_,λb h=>?_,λb h=>s.ze b (hZ▸h)⟩
 .rw[hT] at h
  obtain⟨⟨h1,h2⟩,h3,h4,h5⟩:=s.tb l b h
  refine⟨⟨by omega,h2⟩,λhf=>?_,λo c ho=>?_,h5.of_eq (hh b h1)⟩
  .grind
  grind
 .rw[hT] at h h';exact s.tt l l' b h h'
 .obtain⟨⟨h1,h2,h2'⟩,h3,h4,h5⟩:=s.zc b h
  refine⟨⟨h1,by omega,h2'⟩,λhf=>?_,λo c ho=>?_,h5.of_eq (hh b h2)⟩
  .grind
  grind
 exact(s.zs b h).trans (.of_eq (hh b (s.zc b h).1.2.1))
theorem dJ.hb {cx:Cx} (ok:dJ cx E w) {b:Nat} (h:E.H g b):b<w.heap.size:=by
 cases g
 .exact ok.fb b h
 exact ok.fb b (ok.gf b h)
theorem Ext.H (x:Ext E w E' w') {b:Nat} (h:E.H g b):E'.H g b:=by
 cases g
 .exact x.F b h
 exact x.G b h
structure kQ (E:Env) (w:World) (E':Env) (w':World):Prop where
 r:∀o x,E.r o=some x->E'.r o=some x
 H:∀g b,E.H g b->E'.H g b
 heap:∀g b,E.H g b->w'.heap[b]?=w.heap[b]?
 T:∀l b,E.T l b->E'.T l b/\w'.heap[b]?=w.heap[b]?
 Z:∀b,E.Z b->E'.Z b/\sD w w' b
 n:E'.n=E.n
theorem kQ.of_ext {cx:Cx} (ok:dJ cx E w) (x:Ext E w E' w'):kQ E w E' w':=
 ⟨x.r,λ_ _ h=>x.H h,λ_ b h=>x.heap b (ok.hb h),λl b h=>⟨by rw[x.T];exact h,x.heap b (ok.sf.tb l b h).1.1⟩,λb h=>⟨by rw[x.Z];exact h,.of_eq (x.heap b (ok.sf.zb b h).1.2.1)⟩,x.n⟩
theorem vc (x:kQ E w E' w'):∀{c:C} {u:Value},cvC E w c u->cvC E' w' c u
 | .d g d,u,h=>cS (x.heap g) (x.H g) d u h
 | .w o n,u,⟨b,c,h,hu⟩=>⟨b,c,x.r _ _ h,hu⟩
 | .s o sz off len,u,⟨A,c,b,k,h,hu⟩=>⟨A,c,b,k,x.r _ _ h,hu⟩
 | .p o k,u,⟨b,c,h,hu⟩=>⟨b,c,x.r _ _ h,hu⟩
 | .e o sz i j,u,⟨b,c,h,hu⟩=>⟨b,c,x.r _ _ h,hu⟩
 | .q g y j,u,⟨b,k,hu,hb,h⟩=>⟨b,k,hu,x.H g b hb,rdL_mono (x.heap g) (x.H g) y b k hb h⟩
 | .fn f,u,h=>h
 | .nil,u,h=>h
 | .any,u,_=>trivial
 | .r l d,u,h=>cS (λb hb=>(x.T l b hb).2) (λb hb=>(x.T l b hb).1) d u h
 | .z d,u,h=>vx (λb hb=>(x.Z b hb).2) (λb hb=>(x.Z b hb).1) d u h
 | .zq y j,u,⟨b,k,hu,hb,h⟩=>⟨b,k,hu,(x.Z b hb).1,rsL_mono (λb hb=>(x.Z b hb).2) (λb hb=>(x.Z b hb).1) y b k hb h⟩
 | .wn o n,u,.inl ⟨h1,h2⟩=>.inl ⟨by rw[x.n];exact h1,h2⟩
 | .wn o n,u,.inr ⟨h1,b,c,h,hu⟩=>.inr ⟨by rw[x.n];exact h1,b,c,x.r _ _ h,hu⟩
theorem sC {E E':Env} {w w':World} (x:kQ E w E' w'):∀{cs:List C} {us:Lae},CV E w cs us->CV E' w' cs us
 |[],[],_=>trivial
 |_::_,_::_,h=>⟨vc x h.1,sC x h.2⟩
 |[],_::_,h=>h.elim
 |_::_,[],h=>h.elim
theorem Hm (x:kQ E w E' w') {v:V} (h:cvV E w v u):cvV E' w' v u:=by
 cases v with
 |c c=>exact vc x h
 |agg cs=>obtain⟨arr,hu,h⟩:=h;exact⟨arr,hu,sC x h⟩
theorem Kn {E E':Env} {w w':World} (x:kQ E w E' w'):∀{cs:List V} {us:Lae},VV E w cs us->VV E' w' cs us
 |[],[],_=>trivial
 |_::_,_::_,h=>⟨Hm x h.1,Kn x h.2⟩
 |[],_::_,h=>h.elim
 |_::_,[],h=>h.elim
theorem kF (x:kQ E w E' w') {t:T} (h:cvT E w t u):cvT E' w' t u:=by
 cases t with
 |v v=>exact Hm x h
 |tup ts=>obtain⟨arr,hu,h⟩:=h;exact⟨arr,hu,Kn x h⟩
 |any=>trivial
theorem gN (x:kQ E w E' w') {o:Nat} {ob:Ob} (hb:∀b c,E.r o=some (b,c)->w'.heap[b]?=w.heap[b]?) (hF:∀b c,E.r o=some (b,c)->¬E.F b->¬E'.F b)
 (h:df E w o ob):df E' w' o ob:=by
 cases ob with
 |var ty cs=>
  obtain⟨b,c,arr,hr,hh,hc,hf⟩:=h
  exact⟨b,c,arr,x.r _ _ hr,(hb b c hr).trans hh,sC x hc,hF b c hr hf⟩
 |row ty sz els g m=>
  obtain⟨b,c,arr,hr,hh,h1,h2,h3,h4,h5,h6,h7⟩:=h
  exact⟨b,c,arr,x.r _ _ hr,(hb b c hr).trans hh,h1,h2,h3,h4,cT (x.heap g) (x.H g) (hb b c hr) _ _ h5,λhm=>hF b c hr (h6 hm),λhm=>⟨x.H false b (h7 hm).1,λhg=>x.H true b ((h7 hm).2 hg)⟩⟩
 |rown ty sz els g=>
  rcases h with⟨h0,h1⟩|⟨h0,b,c,arr,hr,hh,h1,h2,h3,h4,h5,h6⟩
  .exact .inl ⟨by rw[x.n];exact h0,h1⟩
  exact .inr ⟨by rw[x.n];exact h0,b,c,arr,x.r _ _ hr,(hb b c hr).trans hh,h1,h2,h3,h4,cT (x.heap g) (x.H g) (hb b c hr) _ _ h5,hF b c hr h6⟩
 |abs l y=>
  rcases h with⟨h0,h1⟩|⟨h0,b,c,hr,h1,h2⟩
  .exact .inl ⟨by rw[x.n];exact h0,h1⟩
  exact .inr ⟨by rw[x.n];exact h0,b,c,x.r _ _ hr,y.st b c _ _ w w' h1 (λk hk=>(x.T l k hk).1) (hb b c hr) (λk hk=>(x.T l k hk).2),hF b c hr h2⟩
theorem Cq {cx:Cx} (ok:dJ cx E w) (x:Ext E w E' w') {o:Nat} {ob:Ob} (h:df E w o ob):df E' w' o ob:=
 gN (.of_ext ok x) (λb c hr=>x.heap b (ok.rb _ _ _ hr).1) (λb c hr hf hf'=>by
  have:=(ok.rb _ _ _ hr).1
  rcases x.F' b hf' with h|h
  .exact hf h
  omega) h
def gt:Lab->Nat->T
 |[],_=>.any
 |(k,v)::r,n=>bif d0 k n then v else gt r n
def go:Laa->Nat->Option Ob
 |[],_=>none
 |(k,v)::r,n=>bif d0 k n then some v else go r n
theorem nj (h:k≠n):d0 k n=false:=by
 rcases hb:d0 k n with _|_
 .rfl
 simp_all
theorem dR (k:Nat) (v:T) (r:Lab):gt ((k,v)::r) k=v:=by simp[gt]
theorem c9 (v:T) (r:Lab) (h:k≠n):gt ((k,v)::r) n=gt r n:=by simp[gt,nj h]
theorem cI (k:Nat) (v:Ob) (r:Laa):go ((k,v)::r) k=some v:=by simp[go]
theorem b7 (v:Ob) (r:Laa) (h:k≠n):go ((k,v)::r) n=go r n:=by simp[go,nj h]
structure St where
 sl:Lab
 ob:Laa
 nx:Nat
variable {st s:Go.AM.St}
structure Rel (N:Nat) (cx:Cx) (E:Env) (st:St) (a:Act) (w:World):Prop where
 ok:dJ cx E w
 dom:∀o x,E.r o=some x->o<st.nx
 obs:∀o ob,go st.ob o=some ob->df E w o ob
 sl:∀k,cvT E w (gt st.sl k) (a.tmps.getD k undef)
 dfr:a.defers=[]
 size:a.tmps.size=N
 td:∀l b,E.T l b->l<st.nx
def z7:Value->C
 | .int k n=>.d false (.i k n)
 | .bool b=>.d false (.b b)
 | .string s=>.d false (.str s)
 | .slice a n c=>bif a.isNone&&d0 n 0&&d0 c 0 then .nil else .any
 |_=>.any
theorem yP (E:Env) (w:World) (u:Value):cvC E w (z7 u) u:=by
 cases u with
 |slice a n c=>
  simp only[z7]
  cases h:a.isNone&&d0 n 0&&d0 c 0 with
  |false=>exact trivial
  |true=>
   simp only[hV,Option.isNone_iff_eq_none] at h
   obtain⟨⟨rfl,h1⟩,h2⟩:=h
   have e1:=aad h1
   have e2:=aad h2
   subst e1;subst e2
   exact rfl
 |_=>simp only[z7,cvC,rdD]
def opT (sl:Lab):Operand->T
 | .tmp k=>gt sl k
 | .const (.int k n)=>.v (.c (.d false (.i k n)))
 | .const (.bool b)=>.v (.c (.d false (.b b)))
 | .const (.string s)=>.v (.c (.d false (.str s)))
 | .const (.agg cs)=>.v (.agg (cs.toList.map z7))
 | .const v=>.v (.c (z7 v))
 | .func f=>.v (.c (.fn f))
 | .global _=>.any
theorem u9 (E:Env) (w:World):∀us:Lae,CV E w (us.map z7) us
 |[]=>trivial
 |u::us=>⟨yP E w u,u9 E w us⟩
theorem Rel.op {cx:Cx} (h:Rel N cx E st a w) (x:Operand):cvT E w (opT st.sl x) (a.eval x):=by
 cases x with
 |tmp k=>exact h.sl k
 |const v=>
  cases v<;>simp only[opT,Act.eval,cvT,cvV]<;>first|exact yP E w _|exact⟨_,rfl,u9 E w _⟩|(simp only[cvC,rdD])
 |func f=>rfl
 |global g=>simp[opT,cvT]
def AWN (P:Program) (o:Oper) (needs:List (Operand×T)) (nob:Laa) (out:T) (nw:Laa):Prop:=
 ∀(cx:Cx) (E:Env) (a:Act) (w:World),dJ cx E w->(∀x t,(x,t)∈needs->cvT E w t (a.eval x))->(∀l ob,(l,ob)∈nob->df E w l ob)->
  (∀l ob,(l,ob)∈nw->E.r l=none/\rsv l=false)->
  o.wp P a w (λa' w'=>∃v E',a'=a.put o.dst v/\dJ cx E' w'/\Ext E w E' w'/\cvT E' w' out v/\(∀l ob,(l,ob)∈nw->df E' w' l ob)/\
   (∀l x,E'.r l=some x->E.r l=some x\/∃ob,(l,ob)∈nw)) (λ_ _ _=>False)
theorem cE {o:Oper} {needs:List (Operand×T)} 
 (h:∀(E:Env) (a:Act) (w:World),(∀x t,(x,t)∈needs->cvT E w t (a.eval x))->(∀l ob,(l,ob)∈nob->df E w l ob)->
 ∃v,(execOp a.eval o).run P w= .ok (.value v) w/\cvT E w out v):AWN P o needs nob out []:=by
 intro cx E a w ok hn hb _
 obtain⟨v,hr,hv⟩:=h E a w hn hb
 unfold Oper.wp
 rw[hr]
 exact⟨v,E,rfl,ok,Ext.refl E w,hv,(λ_ _ h=>by simp at h),λ_ _ h=>.inl h⟩
def AWO (P:Program) (N:Nat) (o:Oper) (st st':St):Prop:=
 ∀(cx:Cx) (E:Env) (a:Act) (w:World),Rel N cx E st a w->o.wp P a w (λa' w'=>∃E',Rel N cx E' st' a' w') (λ_ _ _=>False)
def Lk (sl:Lab):List (Operand×T)->Prop
 |[]=>True
 |(x,t)::r=>opT sl x=t/\Lk sl r
def Lo (ob:Laa):Laa->Prop
 |[]=>True
 |(l,x)::r=>go ob l=some x/\Lo ob r
def Nw (nx:Nat):Laa->Nat->Prop
 |[],n=>n=nx
 |(l,_)::r,n=>(l=nx/\rsv l=false)/\Nw (nx+1) r n
theorem Lk.mem:∀{l:List (Operand×T)},Lk sl l->∀x t,(x,t)∈l->opT sl x=t
 |(y,s)::r,h,x,t,hm=>by
  rcases aaf.1 hm with e|e
  .cases e;exact h.1
  exact Lk.mem h.2 x t e
theorem Lo.mem {ob:Laa}:∀{l:Laa},Lo ob l->∀x t,(x,t)∈l->go ob x=some t
 |(y,s)::r,h,x,t,hm=>by
  rcases aaf.1 hm with e|e
  .cases e;exact h.1
  exact Lo.mem h.2 x t e
theorem Nw.mem:∀{l:Laa} {nx n:Nat},Nw nx l n->nx<=n/\∀x t,(x,t)∈l->nx<=x/\x<n/\rsv x=false
 |[],nx,n,h=>⟨by rw[Nw] at h;omega,λ_ _ h=>by simp at h⟩
 |(y,s)::r,nx,n,h=>by
  rw[Nw] at h
  obtain⟨h1,h2⟩:=Nw.mem h.2
  grind
theorem Cc {ob:Laa} {o:Nat} {x:Ob} (h:go (nw++ob) o=some x):(o,x)∈nw\/go ob o=some x:=by
 induction nw with
 |nil=>exact .inr h
 |cons p r ih=>
  obtain⟨k,v⟩:=p
  by_cases hk:k=o
  .subst hk
   rw[aav,cI] at h
   simp_all
  rw[aav,b7 v _ hk] at h
  grind
theorem iv {d:Tmp} {v:Value} (h:d<a.tmps.size) (k:Nat):(a.put (some d) v).tmps.getD k undef=if d=k then v else a.tmps.getD k undef:=by
 by_cases hk:d=k
 .subst hk;simp[Act.put,h]
 simp[Act.put,hk,Array.getElem?_setIfInBounds_ne hk]
theorem MQ {o:Oper} {needs:List (Operand×T)} {d:Tmp} 
 (h:AWN P o needs nob out nw) (hd:o.dst=some d) (hN:d<N) (hn:Lk st.sl needs) (hb:Lo st.ob nob) (hw:Nw st.nx nw n):
 AWO P N o st ⟨(d,out)::st.sl,nw++st.ob,n⟩:=by
 intro cx E a w hR
 obtain⟨hx1,hx2⟩:=Nw.mem hw
 refine Oper.wp_mono ?_ (h cx E a w hR.ok (λx t hm=>by have:=hR.op x;rwa [Lk.mem hn x t hm] at this) (λl ob hm=>hR.obs l ob (Lo.mem hb l ob hm))
  (λl ob hm=>by
   refine⟨?_,(hx2 l ob hm).2.2⟩
   rcases hr:E.r l with _|x
   .rfl
   have:=hR.dom l x hr;grind))
 rintro a' w' ⟨v,E',rfl,ok',ext,hv,hob,hdom⟩
 refine⟨E',ok',λl x hl=>?_,λl ob hl=>?_,λk=>?_,?_,?_,?_⟩
 .rcases hdom l x hl with h|⟨ob,h⟩
  .have:=hR.dom l x h;grind
  grind
 .rcases Cc hl with h|h
  .simp_all
  exact Cq hR.ok ext (hR.obs l ob h)
 .rw[hd,iv (by rw[hR.size];exact hN)]
  by_cases hk:d=k
  .subst hk;rw[dR,if_pos rfl];exact hv
  rw[c9 _ _ hk,if_neg hk];exact kF (.of_ext hR.ok ext) (hR.sl k)
 .rw[hd];exact hR.dfr
 .rw[hd];simpa [Act.put] using hR.size
 intro l b h
 rw[ext.T] at h
 have:=hR.td l b h
 grind
theorem tz {o:Oper} {K:Act->World->Prop} {Q Q':Exit->Act->World->Prop} (hQ:∀e a w,Q e a w->Q' e a w)
 (hh:o.wp P a w K Q):o.wp P a w K Q':=by
 unfold Oper.wp at*
 generalize (execOp a.eval o).run P w=r at*
 cases r with
 |ok n w'=>
  cases n<;>simp only[Oper.upon] at hh ⊢<;>
   first
    |exact hh
    |exact Calls.mono hh (λe w'' he=>by
     cases e<;>first|exact he|exact hQ _ _ _ he|(obtain⟨a0,w0,h0⟩:=he;exact⟨a0,w0,hQ _ _ _ h0⟩))
 |halt x w'=>cases x<;>simp only[Oper.upon] at hh ⊢<;>first|exact hh|exact hQ _ _ _ hh
def E9 (N:Nat) (cx:Cx) (AQ:Exit->St->Prop):Exit->Act->World->Prop:=λe a w=>∃E st,Rel N cx E st a w/\AQ e st
def onN (K:St->Prop):Exit->St->Prop
 | .normal,s=>K s
 |_,_=>False
def uF (K:St->Prop) (AQ:Exit->St->Prop):Exit->St->Prop
 | .normal,s=>K s
 |e,s=>AQ e s
def AWR (P:Program) (N:Nat) (ops:Array Oper) (l:List Oper) (st:St) (K:St->Prop):Prop:=
 ∀(cx:Cx) (E:Env) (a:Act) (w:World),Rel N cx E st a w->wpList P ops (E9 N cx (onN K)) l a w
def AWC (P:Program) (N:Nat) (c:Code) (st:St) (AQ:Exit->St->Prop):Prop:=
 ∀(cx:Cx) (E:Env) (a:Act) (w:World),Rel N cx E st a w->c.wp P (E9 N cx AQ) a w
section
variable {P:Program} {N:Nat} {ops:Array Oper} {l:List Oper} {o:Oper} {st st':St} {K:St->Prop} {AQ:Exit->St->Prop}
theorem Ix (h:K st):AWR P N ops [] st K:=λcx E a w hR=>wpList_nil ⟨E,st,hR,h⟩
theorem uJ {Q:Exit->Act->World->Prop} :wpList P ops Q (o::l) a w=if Region.wanted o (yielded ops a.tmps) then o.wp P a w (wpList P ops Q l) Q\/(o.asks P a w/\LetsOut Q) else wpList P ops Q l (a.put o.dst undef) w:=rfl
theorem jx (hg:o.guard=none) (h:AWO P N o st st') (h':AWR P N ops l st' K):AWR P N ops (o::l) st K:=by
 intro cx E a w hR
 rw[uJ,if_pos (by simp[Region.wanted,hg])]
 exact .inl (tz (λ_ _ _ h=>h.elim) (Oper.wp_mono (λa' w' ⟨E',hR'⟩=>h' cx E' a' w' hR') (h cx E a w hR)))
theorem Gp {cx:Cx} (hR:Rel N cx E st a w) (hj:(ops[j]?).bind (·.dst)=some dj) (hdj:dj<N) (hb:gt st.sl dj=tB b):
 yielded ops a.tmps j=some b:=by
 have:=hR.sl dj
 rw[hb] at this
 simp only[cvT,cvV,cvC,rdD] at this
 have hs:dj<a.tmps.size:=by rw[hR.size];exact hdj
 have h2:a.tmps[dj]?=some (.bool b):=by
  rw[aaA hs]
  simpa [aa1,hs] using this
 unfold yielded
 simp_all
theorem mz (hg:o.guard=some (j,b)) (hj:(ops[j]?).bind (·.dst)=some dj) (hdj:dj<N) (hb:gt st.sl dj=tB b) (h:AWO P N o st st') (h':AWR P N ops l st' K):
 AWR P N ops (o::l) st K:=by
 intro cx E a w hR
 rw[uJ,if_pos (by simp[Region.wanted,hg,Gp hR hj hdj hb])]
 exact .inl (tz (λ_ _ _ h=>h.elim) (Oper.wp_mono (λa' w' ⟨E',hR'⟩=>h' cx E' a' w' hR') (h cx E a w hR)))
theorem Rel.putAny {cx:Cx} (hR:Rel N cx E st a w) {d:Tmp} (hd:d<N) (v:Value):Rel N cx E ⟨(d,.any)::st.sl,st.ob,st.nx⟩ (a.put (some d) v) w:=by
 refine⟨hR.ok,hR.dom,hR.obs,λk=>?_,hR.dfr,by simpa [Act.put] using hR.size,hR.td⟩
 rw[iv (by rw[hR.size];exact hd)]
 by_cases hk:d=k
 .subst hk;rw[dR];trivial
 rw[c9 _ _ hk,if_neg hk];exact hR.sl k
def noG (b:Bool):T->Bool
 | .v (.c (.d _ (.b c)))=>c==!b
 | .tup []=>true
 |_=>false
theorem Gq {N:Nat} {ops:Array Oper} {tmps:Array Value} {t:T} (hv:cvT E w t (tmps.getD dj undef)) (hs:dj<tmps.size) (hj:(ops[j]?).bind (·.dst)=some dj) (hb:noG b t=true):
 yielded ops tmps j≠some b:=by
 have h2:tmps[dj]?=some (tmps.getD dj undef):=by rw[aaA hs];simp[aa1,hs]
 unfold yielded
 rw[hj]
 simp only[Option.bind_some,h2]
 unfold noG at hb
 split at hb
 .rename_i g c
  simp only[cvT,cvV,cvC,rdD] at hv
  simp_all
 .obtain⟨arr,h1,h3⟩:=hv
  rw[h1];simp
 cases hb
theorem Rel.putUnd {cx:Cx} (hR:Rel N cx E st a w) {d:Tmp} (hd:d<N):Rel N cx E ⟨(d,.tup [])::st.sl,st.ob,st.nx⟩ (a.put (some d) undef) w:=by
 refine⟨hR.ok,hR.dom,hR.obs,λk=>?_,hR.dfr,by simpa [Act.put] using hR.size,hR.td⟩
 rw[iv (by rw[hR.size];exact hd)]
 by_cases hk:d=k
 .subst hk;rw[dR,if_pos rfl];exact⟨#[],rfl,trivial⟩
 rw[c9 _ _ hk,if_neg hk];exact hR.sl k
theorem D8 {d:Tmp} (hg:o.guard=some (j,b)) (hj:(ops[j]?).bind (·.dst)=some dj) (hdj:dj<N) (hb:noG b (gt st.sl dj)=true) (hd:o.dst=some d) (hN:d<N)
 (h':AWR P N ops l ⟨(d,.tup [])::st.sl,st.ob,st.nx⟩ K):AWR P N ops (o::l) st K:=by
 intro cx E a w hR
 rw[uJ,if_neg (by simp[Region.wanted,hg,Gq (N:=N) (hR.sl dj) (by rw[hR.size];exact hdj) hj hb]),hd]
 exact h' cx E _ w (hR.putUnd hN)
theorem Rel.decide {cx:Cx} (hR:Rel N cx E st a w) {d:Tmp} {c:Bool} (hb:gt st.sl d=tB b) (h:b=c):Rel N cx E ⟨(d,tB c)::st.sl,st.ob,st.nx⟩ a w:=by
 refine⟨hR.ok,hR.dom,hR.obs,λk=>?_,hR.dfr,hR.size,hR.td⟩
 by_cases hk:d=k
 .subst hk;rw[dR,<-h,<-hb];exact hR.sl d
 rw[c9 _ _ hk];exact hR.sl k
theorem Qu {d:Tmp} (hb:gt st.sl d=tB b) (h1:b=true->AWR P N ops l ⟨(d,tB true)::st.sl,st.ob,st.nx⟩ K) (h0:b=false->AWR P N ops l ⟨(d,tB false)::st.sl,st.ob,st.nx⟩ K):
 AWR P N ops l st K:=by
 intro cx E a w hR
 cases hc:b with
 |true=>exact h1 hc cx E a w (hR.decide hb hc)
 |false=>exact h0 hc cx E a w (hR.decide hb hc)
theorem Ti {K':St->Prop} (h:∀s,K s->K' s) (hh:AWR P N ops l st K):AWR P N ops l st K':=by
 intro cx E a w hR
 have:=hh cx E a w hR
 revert this
 have key:∀(l:List Oper) (a:Act) (w:World),wpList P ops (E9 N cx (onN K)) l a w->wpList P ops (E9 N cx (onN K')) l a w:=by
  intro l
  have hQ:∀e a w,E9 N cx (onN K) e a w->E9 N cx (onN K') e a w:=by
   rintro e a w ⟨E,s,hR,hq⟩
   refine⟨E,s,hR,?_⟩
   cases e<;>simp only[onN] at hq ⊢
   exact h s hq
  induction l with
  |nil=>exact λa w h=>hQ _ _ _ h
  |cons o l ih=>
   intro a w hw
   rw[uJ] at hw ⊢
   split
   .rename_i hwt
    rw[if_pos hwt] at hw
    rcases hw with hw|⟨h1,a0,w0,h2⟩
    .exact .inl (tz hQ (Oper.wp_mono ih hw))
    exact .inr ⟨h1,a0,w0,hQ _ _ _ h2⟩
   simp_all
 simp_all
theorem AK {c:Code} {AQ':Exit->St->Prop} (h:AWC P N c st AQ) (hq:∀e s,AQ e s->AQ' e s):AWC P N c st AQ':=
 λcx E a w hR=>wp_mono (h cx E a w hR) λe a w ⟨E,s,hR,q⟩=>⟨E,s,hR,hq e s q⟩
theorem D7 (h:AQ .normal st):AWC P N .skip st AQ:=λcx E a w hR=>wp_skip ⟨E,st,hR,h⟩
theorem Iv (h:AQ .ret st):AWC P N .ret st AQ:=λcx E a w hR=>wp_ret ⟨E,st,hR,h⟩
theorem D6 (h:AQ (.exit id) st):AWC P N (.exit id) st AQ:=λcx E a w hR=>wp_exit ⟨E,st,hR,h⟩
theorem Dw {x:Code} (h:AWC P N x st (uF (λs=>AWC P N y s AQ) AQ)):AWC P N (x.seq y) st AQ:=λcx E a w hR=>
 wp_seq (wp_mono (h cx E a w hR) λe a w ⟨E,s,hR,q⟩=>by
  cases e<;>first|exact q cx E a w hR|exact⟨E,s,hR,q⟩)
theorem vS {l:List Oper} (h:AWR P N l.toArray l st (λs=>AQ .normal s)):AWC P N (.region id l.toArray false) st AQ:=λcx E a w hR=>
 wp_mono (wp_region_lit (h cx E a w hR)) λe a w ⟨E,s,hR,q⟩=>⟨E,s,hR,by cases e<;>first|exact q|exact q.elim⟩
theorem sJ {l:List Oper} (h:AWR P N l.toArray l st (λs=>AWC P N y s AQ)):AWC P N ((Code.region id l.toArray false).seq y) st AQ:=
 Dw (vS h)
theorem Cb {cx:Cx} {c:Operand} (hR:Rel N cx E st a w) (hb:opT st.sl c=tB b):a.eval c= .bool b:=by
 have:=hR.op c
 rw[hb] at this
 simpa [cvT,cvV,cvC,rdD] using this
theorem uL {c:Operand} {x:Code} (hb:opT st.sl c=tB true) (h:AWC P N x st AQ):AWC P N (.cond c x y) st AQ:=λcx E a w hR=>wp_cond_true (Cb hR hb) (h cx E a w hR)
theorem sF {c:Operand} {x:Code} (hb:opT st.sl c=tB false) (h:AWC P N y st AQ):AWC P N (.cond c x y) st AQ:=λcx E a w hR=>wp_cond_false (Cb hR hb) (h cx E a w hR)
theorem qh {c:Operand} {x:Code} (hb:opT st.sl c=tB b) (h1:b=true->AWC P N x st AQ) (h0:b=false->AWC P N y st AQ):AWC P N (.cond c x y) st AQ:=λcx E a w hR=>
 wp_cond_split (Cb hR hb) (λh=>h1 h cx E a w hR) (λh=>h0 h cx E a w hR)
def jy (id:Nat) (AQ:Exit->St->Prop):Exit->St->Prop
 | .exit n,s=>bif d0 n id then AQ .normal s else AQ (.exit n) s
 |e,s=>AQ e s
theorem B1 {c:Code} (h:AWC P N c st (jy id AQ)):AWC P N (.block id c) st AQ:=λcx E a w hR=>
 wp_block (wp_mono (h cx E a w hR) λe a w ⟨E,s,hR,q⟩=>by
  cases e with
  |exit n=>
   simp only[Exit.inBlock]
   by_cases hn:n=id
   .subst hn;rw[if_pos rfl];exact⟨E,s,hR,by simpa [jy] using q⟩
   rw[if_neg hn];exact⟨E,s,hR,by simpa [jy,nj hn] using q⟩
  |_=>exact⟨E,s,hR,q⟩)
def dQ (N:Nat) (st st':St):Prop:=∀(cx:Cx) (E:Env) (a:Act) (w:World),Rel N cx E st a w->∃E',Rel N cx E' st' a w
theorem nQ {c:Code} (hw:dQ N st st') (h:AWC P N c st' AQ):AWC P N c st AQ:=λcx E a w hR=>let ⟨E',hR'⟩:=hw cx E a w hR;h cx E' a w hR'
theorem bL (hw:dQ N st st') (h:AWR P N ops l st' K):AWR P N ops l st K:=λcx E a w hR=>let ⟨E',hR'⟩:=hw cx E a w hR;h cx E' a w hR'
def C.lt (n:Nat):C->Bool
 | .w o _| .s o _ _ _| .p o _| .e o _ _ _| .r o _| .wn o _=>nlt o n
 |_=>true
def V.lt (n:Nat):V->Bool
 | .c x=>x.lt n
 | .agg cs=>cs.all (C.lt n)
def T.lt (n:Nat):T->Bool
 | .v x=>x.lt n
 | .tup ts=>ts.all (V.lt n)
 | .any=>true
def Ob.lt (n:Nat):Ob->Bool
 | .var _ cs=>cs.all (C.lt n)
 | .row .. | .rown .. =>true
 | .abs l _=>nlt l n
theorem dt {a b:Nat} (h:nlt a b=true):a<b:=aaF h
def LeS (sl:Lab) (n:Nat):Lab->Prop
 |[]=>True
 |(k,t)::r=>gt sl k=t/\t.lt n=true/\LeS sl n r
def LeO (ob:Laa) (n:Nat):Laa->Prop
 |[]=>True
 |(l,x)::r=>go ob l=some x/\(nlt l n=true/\x.lt n=true)/\LeO ob n r
theorem LeS.gt (h:LeS sl n sl') (k:Nat):(AM.gt sl' k= .any\/AM.gt sl' k=AM.gt sl k)/\(AM.gt sl' k).lt n=true:=by
 induction sl' with
 |nil=>exact⟨.inl rfl,rfl⟩
 |cons p r ih=>
  obtain⟨j,t⟩:=p
  by_cases hj:j=k
  .subst hj;rw[dR];exact⟨.inr h.1.symm,h.2.1⟩
  rw[c9 _ _ hj];exact ih h.2.2
theorem LeO.go {ob:Laa} (h:LeO ob n ob') {l:Nat} {x:Ob} (hl:AM.go ob' l=some x):AM.go ob l=some x/\l<n/\x.lt n=true:=by
 induction ob' with
 |nil=>cases hl
 |cons p r ih=>
  obtain⟨j,t⟩:=p
  by_cases hj:j=l
  .subst hj;rw[cI] at hl;cases hl;exact⟨h.1,dt h.2.1.1,h.2.1.2⟩
  rw[b7 _ _ hj] at hl;exact ih h.2.2 hl
def Env.below (E:Env) (n:Nat):Env:={E with r:=λo=>if o<n then E.r o else none,T:=λl b=>l<n/\E.T l b}
theorem Ts:∀{c:C} {u:Value},c.lt n=true->cvC E w c u->cvC (E.below n) w c u
 | .d g d,u,_,h=>h
 | .w o m,u,hl,⟨b,c,h,hu⟩=>⟨b,c,by rw[Env.below];simp only;rw[if_pos (dt hl)];exact h,hu⟩
 | .s o sz off len,u,hl,⟨A,c,b,k,h,hu⟩=>⟨A,c,b,k,by rw[Env.below];simp only;rw[if_pos (dt hl)];exact h,hu⟩
 | .p o k,u,hl,⟨b,c,h,hu⟩=>⟨b,c,by rw[Env.below];simp only;rw[if_pos (dt hl)];exact h,hu⟩
 | .e o sz i j,u,hl,⟨b,c,h,hu⟩=>⟨b,c,by rw[Env.below];simp only;rw[if_pos (dt hl)];exact h,hu⟩
 | .q g y j,u,_,h=>h
 | .fn f,u,_,h=>h
 | .nil,u,_,h=>h
 | .any,u,_,_=>trivial
 | .r l d,u,hl,h=>cS (F':=(E.below n).T l) (λ_ _=>rfl) (λb hb=>⟨dt hl,hb⟩) d u h
 | .z d,u,_,h=>h
 | .zq y j,u,_,h=>h
 | .wn o m,u,_,.inl h=>.inl h
 | .wn o m,u,hl,.inr ⟨h0,b,c,h,hu⟩=>.inr ⟨h0,b,c,by rw[Env.below];simp only;rw[if_pos (dt hl)];exact h,hu⟩
theorem SH {E:Env} {w:World} {n:Nat}:∀{cs:List C} {us:Lae},cs.all (C.lt n)=true->CV E w cs us->CV (E.below n) w cs us
 |[],[],_,_=>trivial
 |c::cs,u::us,hl,h=>by
  simp only[aaE,hV] at hl
  exact⟨Ts hl.1 h.1,SH hl.2 h.2⟩
 |[],_::_,_,h=>h.elim
 |_::_,[],_,h=>h.elim
theorem Tv {v:V} (hl:v.lt n=true) (h:cvV E w v u):cvV (E.below n) w v u:=by
 cases v with
 |c c=>exact Ts hl h
 |agg cs=>obtain⟨arr,hu,h⟩:=h;exact⟨arr,hu,SH hl h⟩
theorem YP {E:Env} {w:World} {n:Nat}:∀{cs:List V} {us:Lae},cs.all (V.lt n)=true->VV E w cs us->VV (E.below n) w cs us
 |[],[],_,_=>trivial
 |c::cs,u::us,hl,h=>by
  simp only[aaE,hV] at hl
  exact⟨Tv hl.1 h.1,YP hl.2 h.2⟩
 |[],_::_,_,h=>h.elim
 |_::_,[],_,h=>h.elim
theorem ZE {t:T} (hl:t.lt n=true) (h:cvT E w t u):cvT (E.below n) w t u:=by
 cases t with
 |v v=>exact Tv hl h
 |tup ts=>obtain⟨arr,hu,h⟩:=h;exact⟨arr,hu,YP hl h⟩
 |any=>trivial
theorem Vs {o:Nat} {ob:Ob} (ho:o<n) (hl:ob.lt n=true) (h:df E w o ob):df (E.below n) w o ob:=by
 cases ob with
 |var ty cs=>
  obtain⟨b,c,arr,hr,hh,hc,hF⟩:=h
  exact⟨b,c,arr,by simp only[Env.below];simp_all,hh,SH hl hc,hF⟩
 |row ty sz els g m=>
  obtain⟨b,c,arr,hr,h⟩:=h
  exact⟨b,c,arr,by simp only[Env.below];simp_all,h⟩
 |rown ty sz els g=>
  rcases h with h|⟨h0,b,c,arr,hr,h⟩
  .exact .inl h
  exact .inr ⟨h0,b,c,arr,by simp only[Env.below];simp_all,h⟩
 |abs l y=>
  rcases h with h|⟨h0,b,c,hr,h1,h2⟩
  .exact .inl h
  exact .inr ⟨h0,b,c,by simp only[Env.below];simp_all,y.st b c _ _ w w h1 (λk hk=>⟨dt hl,hk⟩) rfl (λ_ _=>rfl),h2⟩
theorem dJ.below {cx:Cx} (ok:dJ cx E w) (n:Nat):dJ cx (E.below n) w:=by
 have hr:∀o x,(E.below n).r o=some x->E.r o=some x:=λo x h=>by
  simp only[Env.below] at h;simp_all
 refine⟨ok.fb,ok.gf,ok.gn,λo b c h=>ok.rb o b c (hr o _ h),λo o' b c c' h h'=>ok.inj o o' b c c' (hr _ _ h) (hr _ _ h'),ok.os,ok.tape,ok.output,ok.size,ok.block,λo x hv h=>ok.pin o x hv (hr o _ h),ok.ff,ok.gc,⟨λl b h=>?_,λl l' b h h'=>ok.sf.tt l l' b h.2 h'.2,λb h=>?_,ok.sf.zs,ok.sf.ze⟩⟩
 .obtain⟨h1,h2,h3,h4⟩:=ok.sf.tb l b h.2
  exact⟨h1,h2,λo c ho=>h3 o c (hr o _ ho),h4⟩
 obtain⟨h1,h2,h3,h4⟩:=ok.sf.zc b h
 exact⟨h1,h2,λo c ho=>h3 o c (hr o _ ho),h4⟩
theorem eQ (h1:LeS st.sl st'.nx st'.sl) (h2:LeO st.ob st'.nx st'.ob):dQ N st st':=by
 intro cx E a w hR
 refine⟨E.below st'.nx,hR.ok.below _,λo x h=>?_,λo ob h=>?_,λk=>?_,hR.dfr,hR.size,λl b h=>h.1⟩
 .simp only[Env.below] at h;simp_all
 .obtain⟨h1,h2,h3⟩:=h2.go h
  exact Vs h2 h3 (hR.obs o ob h1)
 obtain⟨h1,h2⟩:=h1.gt k
 rcases h1 with h1|h1
 .rw[h1];trivial
 rw[h1] at h2 ⊢;exact ZE h2 (hR.sl k)
theorem Tg {c:Code} (I:σ->Prop) (S:σ->St) (μ:σ->Nat) (x0:σ) (i0:I x0) (h0:dQ N st (S x0))
 (round:∀x,I x->AWC P N c (S x) (uF (λs=>∃x',I x'/\dQ N s (S x')/\μ x'<μ x) AQ)):AWC P N (.loop c) st AQ:=by
 intro cx E a w hR b k cs
 have key:∀n x,μ x=n->I x->∀E a w,Rel N cx E (S x) a w->
  ∃e a' w',E9 N cx AQ e a' w'/\Arrives P (lone (b.at a (.code c:: .inLoop c::k)) cs w) b k cs e a' w':=by
  intro n
  induction n using aa6 with
  |_ n ih=>
   intro x hn hI E a w hR
   obtain⟨e,a₁,w₁,⟨E₁,s₁,hR₁,hq⟩,harr⟩:=round x hI cx E a w hR b (.inLoop c::k) cs
   cases e with
   |normal=>
    obtain⟨x',hI',hW,hlt⟩:=hq
    obtain⟨E',hR'⟩:=hW cx E₁ a₁ w₁ hR₁
    obtain⟨e₂,a₂,w₂,hq₂,harr₂⟩:=ih (μ x') (hn▸hlt) x' rfl hI' E' a₁ w₁ hR'
    exact⟨e₂,a₂,w₂,hq₂,.of_steps (Steps.trans harr (.one step_inLoop)) harr₂⟩
   |exit id=>exact⟨_,a₁,w₁,⟨E₁,s₁,hR₁,hq⟩,.pass (x:=.inLoop c) rfl (λ_ _=>.inl (by simp)) harr⟩
   |goto l=>exact⟨_,a₁,w₁,⟨E₁,s₁,hR₁,hq⟩,.pass (x:=.inLoop c) rfl (λ_ _=>.inl (by simp)) harr⟩
   |ret=>exact⟨_,a₁,w₁,⟨E₁,s₁,hR₁,hq⟩,.pass (x:=.inLoop c) rfl (λ_ _=>.inl (by simp)) harr⟩
   |panic ch=>exact⟨_,a₁,w₁,⟨E₁,s₁,hR₁,hq⟩,.pass (x:=.inLoop c) rfl (λ_ _=>.inl (by simp)) harr⟩
   |outgrown=>exact⟨_,a₁,w₁,⟨E₁,s₁,hR₁,hq⟩,.pass (x:=.inLoop c) rfl (λ_ _=>.inl (by simp)) harr⟩
 obtain⟨E',hR'⟩:=h0 cx E a w hR
 obtain⟨e,a',w',hq,harr⟩:=key _ x0 rfl i0 E' a w hR'
 exact⟨e,a',w',hq,.of_steps (.one step_loop) harr⟩
end
class TyU (P:Program) (t:TypeId) (d:outParam TypeDesc):Prop where
 h:P.underlying t=some d
class TyI (P:Program) (t:TypeId) (z:outParam Value) (n:outParam Nat) (b:outParam Nat):Prop where
 h:(P.info? t).map (λi=>(i.zero,i.size,i.bytes))=some (some z,n,b)
class jw (P:Program) (t:TypeId):Prop where
 h:∀w,(isAgg t).run P w= .ok false w
 n:∃i,P.info? t=some i/\i.size=1
class g7 (P:Program) (t:TypeId) (n:outParam Nat):Prop where
 h:∀w,(isAgg t).run P w= .ok true w
 n:∃i,P.info? t=some i/\i.size=n
class ei (P:Program) (t:TypeId) (e:outParam TypeId) (sz:outParam Nat) (by_:outParam Nat):Prop where
 u:P.underlying t=some (.slice e)
 i:∃i z,P.info? e=some i/\i.size=sz/\i.bytes=by_/\i.zero=some z/\z.cells.size=sz
 p:0<sz
class TyF (P:Program) (t:TypeId) (f:Nat) (off:outParam Nat) (ft:outParam TypeId):Prop where
 h:∃fs fd,P.underlying t=some (.struct fs)/\fs[f]?=some fd/\fd.offset=off/\fd.type=ft/\∃i,P.info? ft=some i/\i.size≠0
class TyZ (P:Program) (t:TypeId) (zs:outParam (List C)):Prop where
 h:∃i z,P.info? t=some i/\i.zero=some z/\z.cells.toList.map z7=zs
theorem eW {i:TypeInfo} (h:P.info? t=some i) (w:World):(sizeOf t).run P w= .ok i.size w:=by
 simp[sizeOf,typeInfo,h]
section
variable {P:Program} {d:Option Tmp} {ty:TypeId} {ps:String} {af:Array Edge} {gd:Option (Nat×Bool)} {x y z:Operand}
theorem Nq {t:T}:AWN P ⟨d,.move x,ty,ps,af,gd⟩ [(x,t)] [] t []:=
 cE λE a w hn _=>⟨a.eval x,by simp[execOp],hn x t (.head _)⟩
theorem Ff {t:T}:AWN P ⟨d,.assign x,ty,ps,af,gd⟩ [(x,t)] [] t []:=
 cE λE a w hn _=>⟨a.eval x,by simp[execOp],hn x t (.head _)⟩
theorem iI {k:IntKind} {n:Int} (h:cvT E w (.v (.c (.d g (.i k n)))) u):u= .int k n:=by simpa [cvT,cvV,cvC,rdD] using h
theorem vY (h:cvT E w (.v (.c (.d g (.b b)))) u):u= .bool b:=by simpa [cvT,cvV,cvC,rdD] using h
theorem Em {s:ByteArray} (h:cvT E w (.v (.c (.d g (.str s)))) u):u= .string s:=by simpa [cvT,cvV,cvC,rdD] using h
theorem Lt {t:T}:AWN P ⟨d,.pick x y z,ty,ps,af,gd⟩ [(x,.v (.c (.d g (.b true)))),(y,t)] [] t []:=
 cE λE a w hn _=>⟨a.eval y,by
  have h:=vY (hn x _ (.head _))
  simp[execOp,asBool,h],hn y t (.tail _ (.head _))⟩
theorem Jt {t:T}:AWN P ⟨d,.pick x y z,ty,ps,af,gd⟩ [(x,.v (.c (.d g (.b false)))),(z,t)] [] t []:=
 cE λE a w hn _=>⟨a.eval z,by
  have h:=vY (hn x _ (.head _))
  simp[execOp,asBool,h],hn z t (.tail _ (.head _))⟩
@[irreducible] def ltB (a b:Int):Bool:=decide (a<b)
@[irreducible] def leB (a b:Int):Bool:=decide (a<=b)
@[irreducible] def eqB (a b:Int):Bool:=decide (a=b)
@[irreducible] def strB (a b:ByteArray):Bool:=a.toList==b.toList
@[simp] theorem ltB_t {a b:Int}:ltB a b=true↔a<b:=by simp[ltB]
@[simp] theorem ltB_f {a b:Int}:ltB a b=false↔b<=a:=by simp[ltB]
@[simp] theorem leB_t {a b:Int}:leB a b=true↔a<=b:=by simp[leB]
@[simp] theorem leB_f {a b:Int}:leB a b=false↔b<a:=by simp[leB]
@[simp] theorem eqB_t {a b:Int}:eqB a b=true↔a=b:=by simp[eqB]
@[simp] theorem eqB_f {a b:Int}:eqB a b=false↔a≠b:=by simp[eqB]
theorem Of {a b:ByteArray} (h:a.toList=b.toList):a=b:=by
 have:=congrArg List.toArray h
 simp only[ByteArray.toList_eq,aaU] at this
 exact ByteArray.ext this
@[simp] theorem strB_t {a b:ByteArray}:strB a b=true↔a=b:=by simp[strB];exact⟨Of,λh=>by rw[h]⟩
@[simp] theorem strB_f {a b:ByteArray}:strB a b=false↔a≠b:=by
 rw[<-Bool.not_eq_true,strB_t]
theorem lt_dec (a b:Int):decide (a<b)=ltB a b:=by simp[ltB]
theorem Z7 (a b:Int):decide (a<=b)=leB a b:=by simp[leB]
theorem ZM (a b:Int):decide (a=b)=eqB a b:=by simp[eqB]
theorem OC (a b:Int):(a==b)=eqB a b:=by rw[<-ZM];rfl
def Uo (op:BinOp) (k:IntKind) (a b:Int):Option D:=
 match op with
 | .add=>some (.i k (k.wrap (a+b)))
 | .sub=>some (.i k (k.wrap (a-b)))
 | .mul=>some (.i k (k.wrap (a*b)))
 | .eql=>some (.b (eqB a b))
 | .neq=>some (.b (!eqB a b))
 | .lss=>some (.b (ltB a b))
 | .leq=>some (.b (leB a b))
 | .gtr=>some (.b (ltB b a))
 | .geq=>some (.b (leB b a))
 |_=>none
theorem n_int {op:BinOp} {k:IntKind} {a b:Int} {r:D} (h:Uo op k a b=some r):
 AWN P ⟨d,.binOp op t x y t',ty,ps,af,gd⟩ [(x,.v (.c (.d g (.i k a)))),(y,.v (.c (.d g' (.i k b))))] [] (.v (.c (.d false r))) []:=
 cE λE ac w hn _=>by
  have h1:=iI (hn x _ (.head _))
  have h2:=iI (hn y _ (.tail _ (.head _)))
  cases op<;>simp only[Uo,Option.some.injEq,reduceCtorEq] at h<;>subst h<;>
   exact⟨_,by simp[execOp,h1,h2,eqGuard,binOp,Op.intArith,Op.intCmp];rfl,by simp[cvT,cvV,cvC,rdD,bne,OC,lt_dec,Z7]⟩
theorem n_rem {k:IntKind} {a b:Int} (h:b≠0):
 AWN P ⟨d,.binOp .rem t x y t',ty,ps,af,gd⟩ [(x,.v (.c (.d g (.i k a)))),(y,.v (.c (.d g' (.i k b))))] [] (.v (.c (.d false (.i k (a.tmod b))))) []:=
 cE λE ac w hn _=>by
  have h1:=iI (hn x _ (.head _))
  have h2:=iI (hn y _ (.tail _ (.head _)))
  exact⟨_,by simp[execOp,h1,h2,eqGuard,binOp,Op.intDiv,h];rfl,by rfl⟩
theorem n_quo {k:IntKind} {a b:Int} (h:b≠0):
 AWN P ⟨d,.binOp .quo t x y t',ty,ps,af,gd⟩ [(x,.v (.c (.d g (.i k a)))),(y,.v (.c (.d g' (.i k b))))] [] (.v (.c (.d false (.i k (k.wrap (a.tdiv b)))))) []:=
 cE λE ac w hn _=>by
  have h1:=iI (hn x _ (.head _))
  have h2:=iI (hn y _ (.tail _ (.head _)))
  exact⟨_,by simp[execOp,h1,h2,eqGuard,binOp,Op.intDiv,h];rfl,by rfl⟩
theorem UQ {a b:ByteArray}:
 AWN P ⟨d,.binOp .eql t x y t',ty,ps,af,gd⟩ [(x,.v (.c (.d g (.str a)))),(y,.v (.c (.d g' (.str b))))] [] (.v (.c (.d false (.b (strB a b))))) []:=
 cE λE ac w hn _=>by
  have h1:=Em (hn x _ (.head _))
  have h2:=Em (hn y _ (.tail _ (.head _)))
  exact⟨_,by simp[execOp,h1,h2,eqGuard,binOp,Op.stringOp];rfl,by simp[cvT,cvV,cvC,rdD,strB]⟩
theorem UR {a b:ByteArray}:
 AWN P ⟨d,.binOp .neq t x y t',ty,ps,af,gd⟩ [(x,.v (.c (.d g (.str a)))),(y,.v (.c (.d g' (.str b))))] [] (.v (.c (.d false (.b (!strB a b))))) []:=
 cE λE ac w hn _=>by
  have h1:=Em (hn x _ (.head _))
  have h2:=Em (hn y _ (.tail _ (.head _)))
  exact⟨_,by simp[execOp,h1,h2,eqGuard,binOp,Op.stringOp];rfl,by simp[cvT,cvV,cvC,rdD,strB]⟩
theorem n_not:AWN P ⟨d,.unOp .not t x,ty,ps,af,gd⟩ [(x,.v (.c (.d g (.b b))))] [] (.v (.c (.d false (.b (!b))))) []:=
 cE λE ac w hn _=>by
  have h1:=vY (hn x _ (.head _))
  exact⟨_,by simp[execOp,h1,Op.unary];rfl,by rfl⟩
theorem n_neg {k:IntKind} {n:Int}:AWN P ⟨d,.unOp .neg t x,ty,ps,af,gd⟩ [(x,.v (.c (.d g (.i k n))))] [] (.v (.c (.d false (.i k (k.wrap (0-n)))))) []:=
 cE λE ac w hn _=>by
  have h1:=iI (hn x _ (.head _))
  exact⟨_,by simp[execOp,h1,Op.unary,Op.intArith];rfl,by simp[cvT,cvV,cvC,rdD]⟩
theorem n_conv {ds:TypeDesc} {k k':IntKind} {n:Int} [hs:TyU P t ds] [hd:TyU P t' (.int k')]:
 AWN P ⟨d,.convert t t' x,ty,ps,af,gd⟩ [(x,.v (.c (.d g (.i k n))))] [] (.v (.c (.d false (.i k' (k'.wrap n))))) []:=
 cE λE ac w hn _=>by
  have h1:=iI (hn x _ (.head _))
  refine⟨.int k' (k'.wrap n),?_,by rfl⟩
  simp only[execOp,h1,convert]
  simp[underlying,hs.h,hd.h,Conv.intToInt]
theorem Q6 {ts:List V} {v:V} (h:ts[i]?=some v):AWN P ⟨d,.extract x i,ty,ps,af,gd⟩ [(x,.tup ts)] [] (.v v) []:=
 cE λE ac w hn _=>by
  obtain⟨arr,h1,h2⟩:=hn x _ (.head _)
  have key:∀(ts:List V) (us:Lae) (i:Nat),VV E w ts us->ts[i]?=some v->∃u,us[i]?=some u/\cvV E w v u:=by
   intro ts
   induction ts with
   |nil=>simp_all
   |cons t ts ih=>
    intro us i h9 hi
    cases us with
    |nil=>exact h9.elim
    |cons u us=>
     cases i with
     |zero=>simp at hi;subst hi;exact⟨u,rfl,h9.1⟩
     |succ i=>exact ih us i h9.2 (by simp_all)
  obtain⟨u,hu,hv⟩:=key ts arr.toList i h2 h
  exact⟨u,by simp[execOp,h1,Instr.extract,show arr[i]?=some u by simp_all],hv⟩
theorem Js {o:Nat}:AWN P ⟨d,.nilCheck x,ty,ps,af,gd⟩ [(x,.v (.c (.p o k)))] [] (.v (.c (.p o k))) []:=
 cE λE ac w hn _=>by
  have h:=hn x _ (.head _)
  obtain⟨b,c,hr,hu⟩:=h
  exact⟨.pointer (some ⟨b,k,none⟩),by simp[execOp,hu],b,c,hr,rfl⟩
theorem XP {o:Nat} [ht:ei P t e sz by_]:AWN P ⟨d,.call ⟨.builtin .len,#[x],#[t]⟩,ty,ps,af,gd⟩ [(x,.v (.c (.w o n)))] [] (tI n) []:=
 cE λE ac w hn _=>by
  obtain⟨b,c,hr,hu⟩:=hn x _ (.head _)
  exact⟨_,by simp[execOp,resolve,invoke,builtin,hu,Builtin.len_,underlying,ht.u,goInt];rfl,by rfl⟩
theorem XO {o z:Nat} [ht:ei P t e sz by_]:AWN P ⟨d,.call ⟨.builtin .len,#[x],#[t]⟩,ty,ps,af,gd⟩ [(x,.v (.c (.s o z off n)))] [] (tI n) []:=
 cE λE ac w hn _=>by
  obtain⟨A,c,b,k,hr,hu,_⟩:=hn x _ (.head _)
  exact⟨_,by simp[execOp,resolve,invoke,builtin,hu,Builtin.len_,underlying,ht.u,goInt];rfl,by rfl⟩
theorem XN {xs:Lad} [ht:ei P t e sz by_]:AWN P ⟨d,.call ⟨.builtin .len,#[x],#[t]⟩,ty,ps,af,gd⟩ [(x,.v (.c (.d g (.l xs))))] [] (tI xs.length) []:=
 cE λE ac w hn _=>by
  have h:=hn x _ (.head _)
  simp only[cvT,cvV,cvC,rdD] at h
  obtain⟨A,c,hu,_⟩:=h
  exact⟨_,by simp[execOp,resolve,invoke,builtin,hu,Builtin.len_,underlying,ht.u,goInt];rfl,by rfl⟩
theorem Rd [ht:ei P t e sz by_]:AWN P ⟨d,.call ⟨.builtin .len,#[x],#[t]⟩,ty,ps,af,gd⟩ [(x,.v (.c .nil))] [] (tI 0) []:=
 cE λE ac w hn _=>by
  have hu:ac.eval x= .slice none 0 0:=hn x _ (.head _)
  exact⟨_,by simp[execOp,resolve,invoke,builtin,hu,Builtin.len_,underlying,ht.u,goInt];rfl,by rfl⟩
theorem Re {s:ByteArray} [ht:TyU P t .string]:AWN P ⟨d,.call ⟨.builtin .len,#[x],#[t]⟩,ty,ps,af,gd⟩ [(x,.v (.c (.d g (.str s))))] [] (tI s.size) []:=
 cE λE ac w hn _=>by
  have hu:=Em (hn x _ (.head _))
  exact⟨_,by simp[execOp,resolve,invoke,builtin,hu,Builtin.len_,underlying,ht.h,goInt];rfl,by rfl⟩
theorem vQ (b k j:Nat):(⟨b,k,none⟩:Addr).add j=⟨b,k+j,none⟩:=by
 unfold Addr.add;simp_all
theorem tK [h:TyF P t f off ft] (b k:Nat) (w:World):(Instr.fieldAt t (.pointer (some ⟨b,k,none⟩)) f).run P w= .ok (.pointer (some ⟨b,k+off,none⟩)) w:=by
 obtain⟨fs,fd,h1,h2,rfl,rfl,i,h3,h4⟩:=h.h
 simp[Instr.fieldAt,underlying,h1,h2,Instr.sureAddr,fieldPlace,eW h3,h4,vQ]
theorem Q8 {o:Nat} [h:TyF P t f off ft]:AWN P ⟨d,.fieldAddr t x f,ty,ps,af,gd⟩ [(x,.v (.c (.p o k)))] [] (.v (.c (.p o (k+off)))) []:=
 cE λE ac w hn _=>by
  obtain⟨b,c,hr,hu⟩:=hn x _ (.head _)
  exact⟨.pointer (some ⟨b,k+off,none⟩),by simp[execOp,hu,tK],b,c,hr,rfl⟩
theorem Q7 {o:Nat} [h:TyF P t f off ft]:AWN P ⟨d,.fieldAddr t x f,ty,ps,af,gd⟩ [(x,.v (.c (.e o sz i j)))] [] (.v (.c (.e o sz i (j+off)))) []:=
 cE λE ac w hn _=>by
  obtain⟨b,c,hr,hu⟩:=hn x _ (.head _)
  exact⟨_,by simp[execOp,hu,tK];rfl,b,c,hr,by grind⟩
theorem Q9 {e:List D} [h:TyF P t f off ft]:AWN P ⟨d,.fieldAddr t x f,ty,ps,af,gd⟩ [(x,.v (.c (.q g e j)))] [] (.v (.c (.q g e (j+off)))) []:=
 cE λE ac w hn _=>by
  obtain⟨b,k,hu,hr⟩:=hn x _ (.head _)
  exact⟨_,by simp[execOp,hu,tK];rfl,b,k,by grind,hr⟩
theorem xV [ht:ei P t e sz by_] {b len cap:Nat} {i:Int} (h0:0<=i) (h1:i<len) (w:World):
 (Instr.indexAt t (.slice (some ⟨b,k,none⟩) len cap) (.int kd i)).run P w= .ok (.pointer (some ⟨b,k+i.toNat*sz,none⟩)) w:=by
 obtain⟨ii,z,h2,h3,_⟩:=ht.i
 have:=eW h2 w
 simp[Instr.indexAt,asIntOf,underlying,ht.u,h0,h1,this,h3,vQ]
theorem HD {o:Nat} {i:Int} [ht:ei P t e sz by_] (h0:0<=i) (h1:i<n):
 AWN P ⟨d,.indexAddr t x y,ty,ps,af,gd⟩ [(x,.v (.c (.w o n))),(y,.v (.c (.d g (.i kd i))))] [] (.v (.c (.e o sz i.toNat 0))) []:=
 cE λE ac w hn _=>by
  obtain⟨b,c,hr,hu⟩:=hn x _ (.head _)
  have h2:=iI (hn y _ (.tail _ (.head _)))
  exact⟨_,by simp[execOp,hu,h2,xV h0 h1];rfl,b,c,hr,by simp⟩
theorem Rc {o:Nat} {i:Int} [ht:ei P t e sz by_] (h0:0<=i) (h1:i<n):
 AWN P ⟨d,.indexAddr t x y,ty,ps,af,gd⟩ [(x,.v (.c (.s o sz off n))),(y,.v (.c (.d g (.i kd i))))] [] (.v (.c (.e o sz (off+i.toNat) 0))) []:=
 cE λE ac w hn _=>by
  obtain⟨A,c,b,k,hr,hu,_,hA⟩:=hn x _ (.head _)
  have h2:=iI (hn y _ (.tail _ (.head _)))
  obtain rfl:A=some ⟨b,off*sz,none⟩:=hA.resolve_left oaa
  exact⟨_,by simp[execOp,hu,h2,xV h0 h1];rfl,b,k,hr,by grind⟩
theorem Rb {xs:Lad} {i:Int} [ht:ei P t e sz by_] (h0:0<=i) (he:xs[i.toNat]?=some el) (hs:∀e∈xs,e.length=sz):
 AWN P ⟨d,.indexAddr t x y,ty,ps,af,gd⟩ [(x,.v (.c (.d g (.l xs)))),(y,.v (.c (.d g' (.i kd i))))] [] (.v (.c (.q g el 0))) []:=
 cE λE ac w hn _=>by
  have h:=hn x _ (.head _)
  simp only[cvT,cvV,cvC,rdD] at h
  obtain⟨A,c,hu,_,h⟩:=h
  have h2:=iI (hn y _ (.tail _ (.head _)))
  have hl:i.toNat<xs.length:=(aaa.1 he).1
  rcases h with h|⟨b,off,rfl,hb,h⟩
  .simp_all
  exact⟨_,by simp[execOp,hu,h2,xV (kd:=kd) h0 (by omega:i<(xs.length:Int))];rfl,b,off+i.toNat*sz,by simp,hb,rL h hs he⟩
def ldC (g:Bool):D->C
 | .l xs=>.d g (.l xs)
 |x=>.d false x
theorem E8 {x:D} (h:rdD w (E.H g) x u):cvC E w (ldC g x) u:=by
 cases x<;>simp only[ldC,cvC]<;>first|exact h|(simp only[rdD] at h ⊢;exact h)
theorem nm [h:jw P t] {b:Nat} (hc:w.cell? ⟨b,k,none⟩=some u):(Instr.loadAt t (.pointer (some ⟨b,k,none⟩))).run P w= .ok u w:=by
 simp[Instr.loadAt,Instr.sureAddr,loadVar,h.h,load,Sem.run,hc]
theorem lc {b k:Nat} {w:World}:∀(us:Lae) (i:Nat) (acc:Array Value),(∀j u,us[j]?=some u->w.cell? ⟨b,k+(i+j),none⟩=some u)->
 (loadCellsFrom ⟨b,k,none⟩ i us.length acc).run P w= .ok (acc++us.toArray) w
 |[],i,acc,_=>by rfl
 |u::us,i,acc,h=>by
  have h0:=h 0 u rfl
  have ih:=lc us (i+1) (acc.push u) (λj v hj=>by have:=h (j+1) v (by simp_all);rwa [show i+1+j=i+(j+1) from by omega])
  simp only[aak,loadCellsFrom,load,vQ]
  simp[Sem.run,show w.cell? ⟨b,k+i,none⟩=some u by omega,ih]
theorem sX [h:g7 P t n] {b:Nat} {us:Lae} (hl:us.length=n) (hc:∀j u,us[j]?=some u->w.cell? ⟨b,k+j,none⟩=some u):
 (Instr.loadAt t (.pointer (some ⟨b,k,none⟩))).run P w= .ok (.agg us.toArray) w:=by
 obtain⟨i,hi,hn⟩:=h.n
 have:=lc (P:=P) (b:=b) (k:=k) (w:=w) us 0 #[] (λj u hj=>by simp_all)
 simp[Instr.loadAt,Instr.sureAddr,loadVar,h.h,eW hi,hn,<-hl,loadCells,this]
theorem Hb {E:Env} {w:World}:∀{cs:List C} {us:Lae} {k:Nat} {c:C},CV E w cs us->cs[k]?=some c->∃u,us[k]?=some u/\cvC E w c u
 |c::cs,u::us,0,c',h,hk=>by simp at hk;subst hk;exact⟨u,rfl,h.1⟩
 |c::cs,u::us,k+1,c',h,hk=>by
  obtain⟨v,hv,h'⟩:=Hb (k:=k) h.2 (by simpa using hk)
  simp_all
 |[],_,_,_,_,hk=>by simp at hk
 |_::_,[],_,_,h,_=>h.elim
theorem jt {E:Env} {w:World}:∀{cs:List C} {us:Lae},CV E w cs us->us.length=cs.length
 |[],[],_=>rfl
 |c::cs,u::us,h=>by simp[jt h.2]
 |[],_::_,h=>h.elim
 |_::_,[],h=>h.elim
theorem Ie {E:Env} {w:World}:∀{cs:List C} {us:Lae} (k:Nat),CV E w cs us->CV E w (cs.drop k) (us.drop k)
 |cs,us,0,h=>by simpa using h
 |[],[],k+1,h=>by simpa using h
 |c::cs,u::us,k+1,h=>by simpa using Ie k h.2
 |[],_::_,_+1,h=>h.elim
 |_::_,[],_+1,h=>h.elim
theorem Ih {E:Env} {w:World}:∀{cs:List C} {us:Lae} (k:Nat),CV E w cs us->CV E w (cs.take k) (us.take k)
 |cs,us,0,h=>by simp[CV]
 |[],[],k+1,h=>by simp[CV]
 |c::cs,u::us,k+1,h=>by rw[aaD,aaD];exact⟨h.1,Ih k h.2⟩
 |[],_::_,_+1,h=>h.elim
 |_::_,[],_+1,h=>h.elim
theorem eS {b:Nat} {arr:Array Value} {ty':TypeId} (h:w.heap[b]?=some (.cells arr ty' (0,0))):w.cell? ⟨b,k,none⟩=arr[k]?:=by
 simp[World.cell?,h]
theorem UN {o:Nat} {c:C} [ht:jw P t] (hc:cs[k]?=some c):
 AWN P ⟨d,.load t x,ty,ps,af,gd⟩ [(x,.v (.c (.p o k)))] [(o,.var vt cs)] (.v (.c c)) []:=
 cE λE ac w hn hb=>by
  obtain⟨b,c',hr,hu⟩:=hn x _ (.head _)
  obtain⟨b',c'',arr,hr',hh,hcv,_⟩:=hb o _ (.head _)
  rw[hr] at hr';cases hr'
  obtain⟨u,hu',hcu⟩:=Hb hcv hc
  exact⟨u,by simp[execOp,hu,nm (P:=P) (show w.cell? ⟨b,k,none⟩=some u by rw[eS hh];simp_all)],hcu⟩
theorem Jp {o:Nat} [ht:g7 P t n] (hk:k+n<=cs.length):
 AWN P ⟨d,.load t x,ty,ps,af,gd⟩ [(x,.v (.c (.p o k)))] [(o,.var vt cs)] (.v (.agg ((cs.drop k).take n))) []:=
 cE λE ac w hn hb=>by
  obtain⟨b,c',hr,hu⟩:=hn x _ (.head _)
  obtain⟨b',c'',arr,hr',hh,hcv,_⟩:=hb o _ (.head _)
  rw[hr] at hr';cases hr'
  have hl:=jt hcv
  refine⟨.agg ((arr.toList.drop k).take n).toArray,by
   simp[execOp,hu,sX (P:=P) (t:=t) (n:=n) (b:=b) (k:=k) (us:=(arr.toList.drop k).take n) (w:=w) (by grind) (λj u hj=>by
    rw[eS hh]
    grind)],_,rfl,Ih n (Ie k hcv)⟩
theorem UO {e:List D} {xd:D} [ht:jw P t] (hc:e[j]?=some xd):AWN P ⟨d,.load t x,ty,ps,af,gd⟩ [(x,.v (.c (.q g e j)))] [] (.v (.c (ldC g xd))) []:=
 cE λE ac w hn hb=>by
  obtain⟨b,k,hu,hF,hr⟩:=hn x _ (.head _)
  obtain⟨u,hc,hd⟩:=nq hr hc
  exact⟨u,by simp[execOp,hu,nm (P:=P) hc],E8 hd⟩
theorem Bt {w:World} {F:Nat->Prop}:∀{e:List D} {b k:Nat},rdL w F e b k->∃us:Lae,us.length=e.length/\(∀(j:Nat) (u:Value),us[j]?=some u->w.cell? ⟨b,k+j,none⟩=some u)/\∀(j:Nat) (xd:D),e[j]?=some xd->∃u,us[j]?=some u/\rdD w F xd u
 |[],b,k,_=>⟨[],rfl,by simp,by simp⟩
 |x::e,b,k,h=>by
  rw[rdL] at h
  obtain⟨⟨u,hc,hd⟩,h⟩:=h
  obtain⟨us,h1,h2,h3⟩:=Bt h
  refine⟨u::us,by simp[h1],λj v hj=>?_,λj xd hj=>?_⟩
  .grind
  grind
theorem BT {E:Env} {w:World} {g:Bool}:∀{e:List D} {us:Lae},us.length=e.length->(∀(j:Nat) (xd:D),e[j]?=some xd->∃u,us[j]?=some u/\rdD w (E.H g) xd u)->CV E w (e.map (ldC g)) us
 |[],[],_,_=>trivial
 |x::e,u::us,hl,h=>by
  obtain⟨v,h1,h2⟩:=h 0 x rfl
  simp at h1;subst h1
  exact⟨E8 h2,BT (by simp_all) λj xd hj=>by
   obtain⟨v,h3,h4⟩:=h (j+1) xd (by simp_all)
   simp_all⟩
 |[],_::_,hl,_=>by simp at hl
 |_::_,[],hl,_=>by simp at hl
theorem LK {F:Nat->Prop} {e:List D} {b:Nat} (h:rdL w F e b k) (j n:Nat):rdL w F ((e.drop j).take n) b (k+j):=
 oI λi xd hi=>by
  rw[aaH] at hi
  split at hi
  .rw[aaP] at hi
   have:=nq h hi
   grind
  cases hi
theorem Jq {e:List D} [ht:g7 P t n] (hj:j+n<=e.length):
 AWN P ⟨d,.load t x,ty,ps,af,gd⟩ [(x,.v (.c (.q g e j)))] [] (.v (.agg (((e.drop j).take n).map (ldC g)))) []:=
 cE λE ac w hn hb=>by
  obtain⟨b,k,hu,hF,hr⟩:=hn x _ (.head _)
  obtain⟨us,h1,h2,h3⟩:=Bt (LK hr j n)
  exact⟨.agg us.toArray,by simp[execOp,hu,sX (P:=P) (t:=t) (n:=n) (us:=us) (by grind) h2],_,rfl,BT h1 h3⟩
theorem UM {o:Nat} {rt:TypeId} {xd:D} [ht:jw P t] (he:els[i]?=some el) (hc:el[j]?=some xd):
 AWN P ⟨d,.load t x,ty,ps,af,gd⟩ [(x,.v (.c (.e o sz i j)))] [(o,.row rt sz els g m)] (.v (.c (ldC g xd))) []:=
 cE λE ac w hn hb=>by
  obtain⟨b,c',hr,hu⟩:=hn x _ (.head _)
  obtain⟨b',c'',arr,hr',hh,h1,h2,h3,h4,h5,_⟩:=hb o _ (.head _)
  rw[hr] at hr';cases hr'
  obtain⟨u,hc,hd⟩:=nq (rL h5 h4 he) hc
  exact⟨u,by simp[execOp,hu,nm (P:=P) (t:=t) (show w.cell? ⟨b,i*sz+j,none⟩=some u by simp_all)],E8 hd⟩
theorem Jo {o:Nat} {rt:TypeId} [ht:g7 P t n] (he:els[i]?=some el) (hj:j+n<=el.length):
 AWN P ⟨d,.load t x,ty,ps,af,gd⟩ [(x,.v (.c (.e o sz i j)))] [(o,.row rt sz els g m)] (.v (.agg (((el.drop j).take n).map (ldC g)))) []:=
 cE λE ac w hn hb=>by
  obtain⟨b,c',hr,hu⟩:=hn x _ (.head _)
  obtain⟨b',c'',arr,hr',hh,h1,h2,h3,h4,h5,_⟩:=hb o _ (.head _)
  rw[hr] at hr';cases hr'
  obtain⟨us,h6,h7,h8⟩:=Bt (LK (rL h5 h4 he) j n)
  exact⟨.agg us.toArray,by simp[execOp,hu,sX (P:=P) (t:=t) (n:=n) (b:=b) (k:=i*sz+j) (us:=us) (by grind) (λj' u hj'=>by have:=h7 j' u hj';simpa using this)],_,rfl,BT h6 h8⟩
theorem UK {c:C} [h:TyF P t f off ft] [ht:jw P ft] (hc:cs[off]?=some c):AWN P ⟨d,.field t x f,ty,ps,af,gd⟩ [(x,.v (.agg cs))] [] (.v (.c c)) []:=
 cE λE ac w hn hb=>by
  obtain⟨arr,hu,hcv⟩:=hn x _ (.head _)
  obtain⟨u,hu',hcu⟩:=Hb hcv hc
  obtain⟨fs,fd,h1,h2,rfl,rfl,i,h3,h4⟩:=h.h
  exact⟨u,by simp[execOp,hu,Instr.field,underlying,h1,h2,asAgg,part,ht.h,show arr[fd.offset]?=some u by simp_all],hcu⟩
theorem Jn [h:TyF P t f off ft] [ht:g7 P ft n]:AWN P ⟨d,.field t x f,ty,ps,af,gd⟩ [(x,.v (.agg cs))] [] (.v (.agg ((cs.drop off).take n))) []:=
 cE λE ac w hn hb=>by
  obtain⟨arr,hu,hcv⟩:=hn x _ (.head _)
  obtain⟨fs,fd,h1,h2,rfl,rfl,i,h3,h4⟩:=h.h
  obtain⟨i',h5,h6⟩:=ht.n
  refine⟨.agg (arr.extract fd.offset (fd.offset+n)),by simp[execOp,hu,Instr.field,underlying,h1,h2,asAgg,part,ht.h,eW h5,h6],_,rfl,?_⟩
  have:=Ih n (Ie fd.offset hcv)
  simp_all
end
def tkO {α:Type}:Nat->List α->Option (List α)
 |0,_=>some []
 |n+1,x::xs=>match tkO n xs with|some r=>some (x::r)|none=>none
 |_+1,[]=>none
def drO {α:Type}:Nat->List α->Option (List α)
 |0,xs=>some xs
 |n+1,_::xs=>drO n xs
 |_+1,[]=>none
def Bo (k n:Nat) (xs:List α):Option (List α):=match drO k xs with|some r=>tkO n r|none=>none
def u5 {α:Type}:Nat->List α->List α->Option (List α)
 |0,[],cs=>some cs
 |0,n::ns,_::cs=>match u5 0 ns cs with|some r=>some (n::r)|none=>none
 |0,_::_,[]=>none
 |k+1,ns,c::cs=>match u5 k ns cs with|some r=>some (c::r)|none=>none
 |_+1,_,[]=>none
theorem Wa {α:Type}:∀{n:Nat} {xs r:List α},tkO n xs=some r->r=xs.take n/\n<=xs.length
 |0,xs,r,h=>by simp[tkO] at h;subst h;simp
 |n+1,[],r,h=>by simp[tkO] at h
 |n+1,x::xs,r,h=>by
  simp only[tkO] at h
  cases h1:tkO n xs with
  |none=>simp_all
  |some s=>simp[h1] at h;obtain⟨h2,h3⟩:=Wa h1;simp_all
theorem TG {α:Type}:∀{n:Nat} {xs r:List α},drO n xs=some r->r=xs.drop n/\n<=xs.length
 |0,xs,r,h=>by simp[drO] at h;subst h;simp
 |n+1,[],r,h=>by simp[drO] at h
 |n+1,x::xs,r,h=>by simp only[drO] at h;obtain⟨h2,h3⟩:=TG h;simp_all
theorem Bp {xs r:List α} (h:Bo k n xs=some r):r=(xs.drop k).take n/\k+n<=xs.length:=by
 unfold Bo at h
 cases h1:drO k xs with
 |none=>simp_all
 |some s=>
  simp[h1] at h
  obtain⟨h2,h3⟩:=TG h1
  obtain⟨h4,h5⟩:=Wa h
  grind
theorem uC {α:Type}:∀{k:Nat} {ns cs r:List α},u5 k ns cs=some r->r=cs.take k++ns++cs.drop (k+ns.length)/\k+ns.length<=cs.length
 |0,[],cs,r,h=>by simp[u5] at h;subst h;simp
 |0,n::ns,[],r,h=>by simp[u5] at h
 |0,n::ns,c::cs,r,h=>by
  simp only[u5] at h
  cases h1:u5 0 ns cs with
  |none=>simp_all
  |some s=>simp[h1] at h;obtain⟨h2,h3⟩:=uC h1;simp_all
 |k+1,ns,[],r,h=>by cases ns<;>simp[u5] at h
 |k+1,ns,c::cs,r,h=>by
  have h':(match u5 k ns cs with|some r=>some (c::r)|none=>none)=some r:=by cases ns<;>simpa [u5] using h
  cases h1:u5 k ns cs with
  |none=>simp_all
  |some s=>
   simp[h1] at h';obtain⟨h2,h3⟩:=uC h1;grind
theorem Mg {ns cs r:List α} (h:u5 k ns cs=some r) (i:Nat):r[i]?=if k<=i/\i<k+ns.length then ns[i-k]? else cs[i]?:=by
 obtain⟨h1,h2⟩:=uC h
 subst h1
 have hk:(cs.take k).length=k:=by simp;omega
 grind
theorem YM {E:Env} {w:World}:∀{cs:List C} {us:Lae},us.length=cs.length->(∀(k:Nat) (c:C),cs[k]?=some c->∃u,us[k]?=some u/\cvC E w c u)->CV E w cs us
 |[],[],_,_=>trivial
 |c::cs,u::us,hl,h=>by
  obtain⟨v,h1,h2⟩:=h 0 c rfl
  simp at h1;subst h1
  exact⟨h2,YM (by simp_all) λk c' hk=>by
   obtain⟨v,h3,h4⟩:=h (k+1) c' (by simp_all)
   simp_all⟩
 |[],_::_,hl,_=>by simp at hl
 |_::_,[],hl,_=>by simp at hl
section
variable {P:Program} {N:Nat} {d:Option Tmp} {ty:TypeId} {ps:String} {af:Array Edge} {gd:Option (Nat×Bool)} {x y z:Operand}
theorem GP {o:Nat} {r:List C} [ht:g7 P t n] (hk:Bo k n cs=some r):
 AWN P ⟨d,.load t x,ty,ps,af,gd⟩ [(x,.v (.c (.p o k)))] [(o,.var vt cs)] (.v (.agg r)) []:=by
 obtain⟨h1,h2⟩:=Bp hk
 subst h1
 exact Jp h2
def ldO (g:Bool):List D->Option (List C)
 |[]=>some []
 | .i k n::r=>match ldO g r with|some cs=>some (.d false (.i k n)::cs)|none=>none
 | .b x::r=>match ldO g r with|some cs=>some (.d false (.b x)::cs)|none=>none
 | .str s::r=>match ldO g r with|some cs=>some (.d false (.str s)::cs)|none=>none
 | .l xs::r=>match ldO g r with|some cs=>some (.d g (.l xs)::cs)|none=>none
 | .k A n c::r=>match ldO g r with|some cs=>some (.d false (.k A n c)::cs)|none=>none
theorem Jc {g:Bool}:∀{xs:List D} {cs:List C},ldO g xs=some cs->cs=xs.map (ldC g)
 |[],cs,h=>by simp[ldO] at h;subst h;rfl
 |x::xs,cs,h=>by
  cases h1:ldO g xs with
  |none=>cases x<;>simp[ldO,h1] at h
  |some r=>have:=Jc h1;subst this;cases x<;>simp[ldO,h1] at h<;>subst h<;>rfl
def GL (g:Bool) (j n:Nat) (e:List D):Option (List C):=match Bo j n e with|some r=>ldO g r|none=>none
theorem Jd {e:List D} (h:GL g j n e=some cs):cs=((e.drop j).take n).map (ldC g)/\j+n<=e.length:=by
 unfold GL at h
 cases h1:Bo j n e with
 |none=>simp_all
 |some r=>simp[h1] at h;obtain⟨h2,h3⟩:=Bp h1;subst h2;exact⟨Jc h,h3⟩
def ld1 (g:Bool) (j:Nat) (e:List D):Option C:=match GL g j 1 e with|some [c]=>some c|_=>none
theorem Uy {e:List D} {c:C} (h:ld1 g j e=some c):∃xd,e[j]?=some xd/\c=ldC g xd:=by
 unfold ld1 at h
 split at h
 .rename_i c' h1
  simp at h;subst h
  obtain⟨h2,h3⟩:=Jd h1
  have hj:j<e.length:=by omega
  refine⟨e[j],v0 hj,?_⟩
  rw[aaX hj,aaD] at h2
  injection h2
 cases h
theorem GQ {e:List D} [ht:g7 P t n] (hj:GL g j n e=some cs):
 AWN P ⟨d,.load t x,ty,ps,af,gd⟩ [(x,.v (.c (.q g e j)))] [] (.v (.agg cs)) []:=by
 obtain⟨h1,h2⟩:=Jd hj
 subst h1
 exact Jq h2
theorem Rh {e:List D} {c:C} [ht:jw P t] (hc:ld1 g j e=some c):AWN P ⟨d,.load t x,ty,ps,af,gd⟩ [(x,.v (.c (.q g e j)))] [] (.v (.c c)) []:=by
 obtain⟨xd,h1,rfl⟩:=Uy hc
 exact UO h1
theorem HE {o:Nat} {rt:TypeId} {c:C} [ht:jw P t] (he:els[i]?=some el) (hc:ld1 g j el=some c):
 AWN P ⟨d,.load t x,ty,ps,af,gd⟩ [(x,.v (.c (.e o sz i j)))] [(o,.row rt sz els g m)] (.v (.c c)) []:=by
 obtain⟨xd,h1,rfl⟩:=Uy hc
 exact UM he h1
theorem zM {o:Nat} {rt:TypeId} [ht:g7 P t n] (he:els[i]?=some el) (hj:GL g j n el=some cs):
 AWN P ⟨d,.load t x,ty,ps,af,gd⟩ [(x,.v (.c (.e o sz i j)))] [(o,.row rt sz els g m)] (.v (.agg cs)) []:=by
 obtain⟨h1,h2⟩:=Jd hj
 subst h1
 exact Jo he h2
theorem GN {r:List C} [h:TyF P t f off ft] [ht:g7 P ft n] (hr:Bo off n cs=some r):AWN P ⟨d,.field t x f,ty,ps,af,gd⟩ [(x,.v (.agg cs))] [] (.v (.agg r)) []:=by
 obtain⟨h1,h2⟩:=Bp hr
 subst h1
 exact Jn
def Env.new (E:Env) (l b c:Nat):Env:={E with r:=λo=>if o=l then some (b,c) else E.r o}
theorem Xk {cx:Cx} (ok:dJ cx E w) (hl:E.r l=none) (hv:rsv l=false) (o:Obj) (c:Nat):
 dJ cx (E.new l w.heap.size c) (w.alloc o)/\Ext E w (E.new l w.heap.size c) (w.alloc o):=by
 have hne:∀o' x,E.r o'=some x->o'≠l:=λo' x h e=>by simp_all
 refine⟨⟨λb hb=>?_,ok.gf,ok.gn,λo' b c' h=>?_,λo1 o2 b c1 c2 h1 h2=>?_,ok.os,ok.tape,ok.output,?_,λb hb hW=>?_,λo' x hx h=>?_,ok.ff,λb h h'=>(ok.gc b h h').of_eq (Below.heap_alloc w o b (ok.fb b h)),ok.sf.grow rfl rfl (λ_ h=>.inl h) (λo' b c' h=>?_) (by simp) (λb hb=>Below.heap_alloc w o b hb)⟩,⟨λo' x h=>?_,λ_ h=>h,λ_ h=>h,λ_ h=>.inl h,λb hb=>Below.heap_alloc w o b hb,rfl,rfl,rfl⟩⟩
 .have:=ok.fb b hb;simp;omega
 .simp only[Env.new] at h
  split at h
  .cases h;have:=ok.size;simp;omega
  obtain⟨h3,h4⟩:=ok.rb o' b c' h;exact⟨by simp;omega,h4⟩
 .simp only[Env.new] at h1 h2
  split at h1<;>split at h2
  .omega
  .cases h1;have:=ok.rb o2 _ _ h2;omega
  .cases h2;have:=ok.rb o1 _ _ h1;omega
  exact ok.inj o1 o2 b c1 c2 h1 h2
 .have:=ok.size;simp;omega
 .have:=ok.size;rw[Below.heap_alloc w o b oaa];exact ok.block b hb hW
 .simp only[Env.new] at h
  split at h
  .rename_i e;subst e;rw[rN hv] at hx;cases hx
  exact ok.pin o' x hx h
 .simp only[Env.new] at h
  grind
 simp only[Env.new];grind
theorem IL {cx:Cx} (ok:dJ cx E w) (hl:E.r l=none) (o:Obj) (c:Nat):Ext E w (E.new l w.heap.size c) (w.alloc o):=
 ⟨λo' x h=>by
  have hne:o'≠l:=λe=>by simp_all
  simp only[Env.new];simp_all,λ_ h=>h,λ_ h=>h,λ_ h=>.inl h,λb hb=>Below.heap_alloc w o b hb,rfl,rfl,rfl⟩
theorem zN (E:Env) (l b c:Nat):(E.new l b c).r l=some (b,c):=by simp[Env.new]
theorem s3 (w:World) (o:Obj):(w.alloc o).heap[w.heap.size]?=some o:=heap_alloc_new w o
theorem AL {o:Oper} {needs:List (Operand×T)} {nb:Ob}
 (h:∀(cx:Cx) (E:Env) (a:Act) (w:World),dJ cx E w->(∀x t,(x,t)∈needs->cvT E w t (a.eval x))->(∀l ob,(l,ob)∈nob->df E w l ob)->E.r l=none->
 ∃v ob c,(execOp a.eval o).run P w= .ok (.value v) (w.alloc ob)/\cvT (E.new l w.heap.size c) (w.alloc ob) out v/\df (E.new l w.heap.size c) (w.alloc ob) l nb):AWN P o needs nob out [(l,nb)]:=by
 intro cx E a w ok hn hb hl
 obtain⟨v,ob,c,hr,hv,ho⟩:=h cx E a w ok hn hb (hl l nb (by simp)).1
 obtain⟨ok',ext⟩:=Xk ok (hl l nb (by simp)).1 (hl l nb (by simp)).2 ob c
 unfold Oper.wp
 rw[hr]
 refine⟨v,_,rfl,ok',ext,hv,λl' ob' hm=>?_,λl' x hx=>?_⟩
 .simp_all
 simp only[Env.new] at hx
 grind
theorem yg {cx:Cx} (ok:dJ cx E w) (l c:Nat):¬(E.new l w.heap.size c).F w.heap.size:=λh=>by have:=ok.fb _ h;omega
theorem XK {zs:List C} [hz:TyZ P t zs]:AWN P ⟨d,.alloc t,ty,ps,af,gd⟩ [] [] (.v (.c (.p l 0))) [(l,.var t zs)]:=
 AL λcx E a w ok _ _ hl=>by
  obtain⟨i,z,h1,h2,h3⟩:=hz.h
  refine⟨.pointer (some ⟨w.heap.size,0,none⟩),.cells z.cells t,0,by simp[execOp,Instr.alloc,zeroValue,typeInfo,h1,h2,newVar,newRow],?_,?_⟩
  .exact⟨_,_,zN _ _ _ _,rfl⟩
  refine⟨_,_,z.cells,zN _ _ _ _,s3 _ _,?_,yg ok _ _⟩
  rw[<-h3];exact u9 _ _ _
theorem Q5:AWN P ⟨d,.box t x,ty,ps,af,gd⟩ [(x,.v (.agg cs))] [] (.v (.c (.p l 0))) [(l,.var t cs)]:=
 AL λcx E a w ok hn _ hl=>by
  obtain⟨arr,hu,hcv⟩:=hn x _ (.head _)
  refine⟨.pointer (some ⟨w.heap.size,0,none⟩),.cells arr t,0,by simp[execOp,Instr.box,hu,newVar,newRow,Value.cells],⟨_,_,zN _ _ _ _,rfl⟩,?_⟩
  exact⟨_,_,arr,zN _ _ _ _,s3 _ _,sC (.of_ext ok (IL ok hl _ 0)) hcv,yg ok _ _⟩
def C.sto:C->Bool
 | .any=>false
 |_=>true
theorem Od {c:C} (hs:c.sto=true) (h:cvC E w c u):u.oneCell'=true/\u.cells= #[u]:=by
 cases c with
 |d g x=>exact⟨wu h,Co h⟩
 |w o n=>obtain⟨b,c,_,rfl⟩:=h;exact⟨rfl,rfl⟩
 |wn o n=>
  rcases h with⟨_,_,rfl⟩|⟨_,b,c,_,rfl⟩
  .exact⟨rfl,rfl⟩
  exact⟨rfl,rfl⟩
 |s o sz off len=>obtain⟨A,c,b,k,_,rfl,_⟩:=h;exact⟨rfl,rfl⟩
 |p o k=>obtain⟨b,c,_,rfl⟩:=h;exact⟨rfl,rfl⟩
 |e o sz i j=>obtain⟨b,c,_,rfl⟩:=h;exact⟨rfl,rfl⟩
 |q g x j=>obtain⟨b,k,rfl,_⟩:=h;exact⟨rfl,rfl⟩
 |fn f=>subst h;exact⟨rfl,rfl⟩
 |nil=>subst h;exact⟨rfl,rfl⟩
 |any=>cases hs
 |r l x=>exact⟨wu h,Co h⟩
 |z x=>exact NF h
 |zq x j=>obtain⟨b,k,rfl,_⟩:=h;exact⟨rfl,rfl⟩
theorem XL {c:C} (hs:c.sto=true):AWN P ⟨d,.box t x,ty,ps,af,gd⟩ [(x,.v (.c c))] [] (.v (.c (.p l 0))) [(l,.var t [c])]:=
 AL λcx E a w ok hn _ hl=>by
  have hu:cvC E w c (a.eval x):=hn x _ (.head _)
  obtain⟨h1,h2⟩:=Od hs hu
  refine⟨.pointer (some ⟨w.heap.size,0,none⟩),.cells #[a.eval x] t,0,by simp[execOp,Instr.box,h2,newVar,newRow],⟨_,_,zN _ _ _ _,rfl⟩,?_⟩
  exact⟨_,_,#[a.eval x],zN _ _ _ _,s3 _ _,⟨vc (.of_ext ok (IL ok hl _ 0)) hu,trivial⟩,yg ok _ _⟩
def cD:C->Option (D×Bool)
 | .d g (.l xs)=>some (.l xs,g)
 | .d _ (.i k n)=>some (.i k n,true)
 | .d _ (.b b)=>some (.b b,true)
 | .d _ (.str s)=>some (.str s,true)
 | .d _ (.k A n c)=>some (.k A n c,true)
 | .nil=>some (.l [],true)
 |_=>none
def csD:List C->Option (List D×Bool)
 |[]=>some ([],true)
 |c::cs=>match cD c,csD cs with
  |some (x,g),some (xs,g')=>some (x::xs,g&&g')
  |_,_=>none
def vD:V->Option (List D×Bool)
 | .c c=>match cD c with
  |some (x,g)=>some ([x],g)
  |none=>none
 | .agg cs=>csD cs
theorem YS {cx:Cx} (ok:dJ cx E w) {c:C} {x:D} (h:cD c=some (x,g)) (hc:cvC E w c u):rdD w (E.H g) x u/\u.oneCell'=true/\u.cells= #[u]:=by
 cases c with
 |d g' x'=>
  refine⟨?_,wu hc,Co hc⟩
  cases x'<;>simp[cD] at h<;>obtain⟨rfl,rfl⟩:=h<;>first|exact hc|(simp only[cvC,rdD] at hc ⊢;exact hc)
 |nil=>
  simp[cD] at h
  obtain⟨rfl,rfl⟩:=h
  have hu:u= .slice none 0 0:=hc
  subst hu
  exact⟨by rw[rdD];simp_all,rfl,rfl⟩
 |_=>simp[cD] at h
theorem pj {cx:Cx} (ok:dJ cx E w) {x:D} (h:rdD w (E.H (g)) x u) (hg:g'=true->g=true):rdD w (E.H g') x u:=by
 cases g' with
 |true=>simp_all
 |false=>
  cases g with
  |false=>exact h
  |true=>exact cS (λ_ _=>rfl) (λb hb=>ok.gf b hb) x u h
theorem To {cx:Cx} {E:Env} {w:World} (ok:dJ cx E w):∀{cs:List C} {xs:List D} {g:Bool} {us:Lae},csD cs=some (xs,g)->CV E w cs us->
 xs.length=us.length/\(∀u∈us,u.oneCell'=true)/\∀(j:Nat) (xd:D),xs[j]?=some xd->∃u,us[j]?=some u/\rdD w (E.H g) xd u
 |[],xs,g,us,h,hc=>by
  simp[csD] at h;obtain⟨rfl,rfl⟩:=h
  cases us with
  |nil=>simp_all
  |cons _ _=>exact hc.elim
 |c::cs,xs,g,us,h,hc=>by
  cases us with
  |nil=>exact hc.elim
  |cons u us=>
   cases h1:cD c with
   |none=>simp[csD,h1] at h
   |some p=>
    obtain⟨x,g1⟩:=p
    cases h2:csD cs with
    |none=>simp[csD,h1,h2] at h
    |some p=>
     obtain⟨xs',g2⟩:=p
     simp[csD,h1,h2] at h
     obtain⟨rfl,rfl⟩:=h
     obtain⟨k1,k2,k3⟩:=YS ok h1 hc.1
     obtain⟨m1,m2,m3⟩:=To ok h2 hc.2
     refine⟨by simp[m1],by simp_all,λj xd hj=>?_⟩
     cases j with
     |zero=>simp at hj;subst hj;exact⟨u,rfl,pj ok k1 (by simp_all)⟩
     |succ j=>
      obtain⟨v,n1,n2⟩:=m3 j xd (by simp_all)
      exact⟨v,by simp_all,pj ok n2 (by simp)⟩
theorem Wk {cx:Cx} (ok:dJ cx E w) {v:V} {xs:List D} (h:vD v=some (xs,g)) (hv:cvV E w v u):
 u.cells.size=xs.length/\(∀c∈u.cells.toList,c.oneCell'=true)/\∀(j:Nat) (xd:D),xs[j]?=some xd->∃c,u.cells[j]?=some c/\rdD w (E.H g) xd c:=by
 cases v with
 |c c=>
  cases h1:cD c with
  |none=>simp[vD,h1] at h
  |some p=>
   obtain⟨x,g1⟩:=p
   simp[vD,h1] at h
   obtain⟨rfl,rfl⟩:=h
   obtain⟨k1,k2,k3⟩:=YS ok h1 hv
   grind
 |agg cs=>
  obtain⟨arr,rfl,hc⟩:=hv
  obtain⟨m1,m2,m3⟩:=To ok h hc
  refine⟨by simpa [Value.cells] using m1.symm,by simpa [Value.cells] using m2,λj xd hj=>?_⟩
  obtain⟨c,n1,n2⟩:=m3 j xd hj
  exact⟨c,by simpa [Value.cells] using n1,n2⟩
end
class TyB (P:Program) (t:TypeId) (pl:outParam Lac):Prop where
 h:∃fs,P.underlying t=some (.struct fs)/\∀w,(fs.mapM (λf=>Prod.mk f.offset<$>sizeOf f.type):Sem (Array (Nat×Nat))).run P w= .ok pl.toArray w
def rv:Lae->Option (List D)
 |[]=>some []
 | .int k n::r=>match rv r with|some xs=>some (.i k n::xs)|none=>none
 | .bool b::r=>match rv r with|some xs=>some (.b b::xs)|none=>none
 | .string s::r=>match rv r with|some xs=>some (.str s::xs)|none=>none
 | .slice none 0 0::r=>match rv r with|some xs=>some (.l []::xs)|none=>none
 |_=>none
class TyE (P:Program) (e:TypeId) (zd:outParam (List D)):Prop where
 h:∃i z,P.info? e=some i/\i.zero=some z/\rv z.cells.toList=some zd
theorem z8 {w:World} {F:Nat->Prop}:∀{us:Lae} {xs:List D},rv us=some xs->us.length=xs.length/\∀(j:Nat) (xd:D),xs[j]?=some xd->∃u,us[j]?=some u/\rdD w F xd u
 |[],xs,h=>by simp[rv] at h;simp_all
 |u::us,xs,h=>by
  have key:∃x xs',xs=x::xs'/\rv us=some xs'/\rdD w F x u:=by
   unfold rv at h
   split at h
   .simp at*
   .rename_i e;injection e with e1 e2;subst e1;subst e2;split at h
    .rename_i r h1;simp at h;exact⟨_,r,h.symm,h1,by simp[rdD]⟩
    cases h
   .rename_i e;injection e with e1 e2;subst e1;subst e2;split at h
    .rename_i r h1;simp at h;exact⟨_,r,h.symm,h1,by simp[rdD]⟩
    cases h
   .rename_i e;injection e with e1 e2;subst e1;subst e2;split at h
    .rename_i r h1;simp at h;exact⟨_,r,h.symm,h1,by simp[rdD]⟩
    cases h
   .rename_i e;injection e with e1 e2;subst e1;subst e2;split at h
    .rename_i r h1;simp at h;exact⟨_,r,h.symm,h1,by rw[rdD];simp_all⟩
    cases h
   cases h
  obtain⟨x,xs',rfl,h1,h2⟩:=key
  obtain⟨k1,k2⟩:=z8 (w:=w) (F:=F) h1
  grind
def vcs:V->Option (List C)
 | .c c=>match c.sto with|true=>some [c]|false=>none
 | .agg cs=>some cs
theorem J8 {v:V} (h:vcs v=some cs) (hv:cvV E w v u):CV E w cs u.cells.toList:=by
 cases v with
 |c c=>
  simp only[vcs] at h
  cases hs:c.sto with
  |false=>simp_all
  |true=>simp[hs] at h;subst h;obtain⟨_,h2⟩:=Od hs hv;rw[h2];exact⟨hv,trivial⟩
 |agg cs'=>simp[vcs] at h;subst h;obtain⟨arr,rfl,hc⟩:=hv;exact hc
def Ed (pl:Lac):List C->List (Nat×V)->Option (List C)
 |cs,[]=>some cs
 |cs,(i,v)::r=>match pl[i]?,vcs v with
  |some (off,n),some ns=>match d0 ns.length n,u5 off ns cs with
   |true,some cs'=>Ed pl cs' r
   |_,_=>none
  |_,_=>none
def PV (E:Env) (w:World):List (Nat×V)->List (Nat×Value)->Prop
 |[],[]=>True
 |(i,v)::r,(j,u)::s=>i=j/\cvV E w v u/\PV E w r s
 |_,_=>False
theorem BU {ns r:List C} {us vs ws:Lae} (h:u5 off ns cs=some r) (hn:CV E w ns us) (hc:CV E w cs vs) (hl:ws.length=vs.length)
 (hw:∀k,ws[k]?=if off<=k/\k<off+us.length then us[k-off]? else vs[k]?):CV E w r ws:=by
 have hln:=jt hn
 have hlc:=jt hc
 refine YM ?_ λk c hk=>?_
 .obtain⟨h1,h2⟩:=uC h;grind
 rw[Mg h k] at hk
 rw[hw k,hln]
 split at hk
 .rename_i hi;rw[if_pos hi];exact Hb hn hk
 rename_i hi;rw[if_neg hi];exact Hb hc hk
theorem OO {E:Env} {w:World} {pl:Lac}:∀{ps:List (Nat×V)} {us:List (Nat×Value)} {cs r:List C} {arr:Array Value},PV E w ps us->CV E w cs arr.toList->Ed pl cs ps=some r->
 ∃arr',Instr.fill (pl.toArray[·]?) arr us=some arr'/\CV E w r arr'.toList
 |[],[],cs,r,arr,_,hc,h=>by simp[Ed] at h;subst h;exact⟨arr,rfl,hc⟩
 |(i,v)::ps,(j,u)::us,cs,r,arr,hp,hc,h=>by
  obtain⟨rfl,hv,hp⟩:=hp
  simp only[Ed] at h
  split at h
  .rename_i off n ns h1 h2
   split at h
   .rename_i cs' h3 h4
    have h3':=aad h3
    have hcn:=J8 h2 hv
    have hl:=jt hcn
    have hlc:=jt hc
    obtain⟨g1,g2⟩:=Go.Great.foldl_set off u.cells.toList 0 arr
    have hsz:u.cells.size=n:=by simp at hl;omega
    have hle:=(uC h4).2
    have hsp:CV E w cs' ((u.cells.toList.zipIdx 0).foldl (λcs (x:Value×Nat)=>cs.setIfInBounds (off+x.2) x.1) arr).toList:=by
     refine BU h4 hcn hc (by simp[g1]) λk=>?_
     rw[Array.getElem?_toList,g2 k]
     simp only[aaR]
     by_cases hk:off<=k/\k<off+u.cells.toList.length
     .grind
     grind
    obtain⟨arr',k1,k2⟩:=OO (pl:=pl) hp hsp h
    refine⟨arr',?_,k2⟩
    rw[<-k1]
    conv=>lhs;unfold Instr.fill
    have hpl:pl.toArray[i]?=some (off,n):=by simpa using h1
    simp only[hpl]
    rw[if_neg (by simp_all)]
    congr 1
    rw[<-Array.foldl_toList,Array.toList_zipIdx]
   cases h
  cases h
 |[],_::_,_,_,_,hp,_,_=>hp.elim
 |_::_,[],_,_,_,hp,_,_=>hp.elim
section
variable {P:Program} {N:Nat} {d:Option Tmp} {ty:TypeId} {ps:String} {af:Array Edge} {gd:Option (Nat×Bool)} {x y z:Operand}
theorem SM {E:Env} {a:Act} {w:World}:∀{parts:List (Nat×Operand)} {vs:List V},vs.length=parts.length->(∀x t,(x,t)∈(parts.map (·.2)).zip (vs.map T.v)->cvT E w t (a.eval x))->
 PV E w ((parts.map (·.1)).zip vs) (parts.map λp=>(p.1,a.eval p.2))
 |[],[],_,_=>trivial
 |(i,x)::ps,v::vs,hl,h=>⟨rfl,h x (.v v) (by simp),SM (by simp_all) λx t hm=>h x t (by simp_all)⟩
 |[],_::_,hl,_=>by simp at hl
 |_::_,[],hl,_=>by simp at hl
theorem Pp {zs:List C} {pl:Lac} {parts:List (Nat×Operand)} [hz:TyZ P t zs] [hb:TyB P t pl] (hv:vs.length=parts.length)
 (h:Ed pl zs ((parts.map (·.1)).zip vs)=some cs):AWN P ⟨d,.build t parts.toArray,ty,ps,af,gd⟩ ((parts.map (·.2)).zip (vs.map T.v)) [] (.v (.agg cs)) []:=
 cE λE a w hn _=>by
  obtain⟨i,z,h1,h2,h3⟩:=hz.h
  obtain⟨fs,h4,h5⟩:=hb.h
  obtain⟨arr',k1,k2⟩:=OO (arr:=z.cells) (SM hv hn) (by rw[<-h3];exact u9 _ _ _) h
  refine⟨.agg arr',?_,arr',rfl,k2⟩
  have k1':Instr.fill (λx=>pl[x]?) z.cells (List.map (λp=>(p.fst,a.eval p.snd)) parts)=some arr':=by simpa using k1
  simp[execOp,Instr.build,zeroValue,typeInfo,h1,h2,underlying,h4,h5,k1']
def vsD:List V->Option (Lad×Bool)
 |[]=>some ([],true)
 |v::vs=>match vD v,vsD vs with
  |some (e,g),some (es,g')=>some (e::es,g&&g')
  |_,_=>none
theorem Wl {cx:Cx} {E:Env} {w:World} (ok:dJ cx E w):∀{vs:List V} {els:Lad} {g:Bool},vsD vs=some (els,g)->els.length=vs.length/\
 ∀(i:Nat) (e:List D),els[i]?=some e->∃v g',vs[i]?=some v/\vD v=some (e,g')/\(g=true->g'=true)
 |[],els,g,h=>by simp[vsD] at h;simp_all
 |v::vs,els,g,h=>by
  cases h1:vD v with
  |none=>simp[vsD,h1] at h
  |some p=>
   obtain⟨e,g1⟩:=p
   cases h2:vsD vs with
   |none=>simp[vsD,h1,h2] at h
   |some p=>
    obtain⟨es,g2⟩:=p
    simp[vsD,h1,h2] at h
    obtain⟨rfl,rfl⟩:=h
    obtain⟨k1,k2⟩:=Wl ok h2
    grind
def Uz (sz:Nat):Lad->Bool
 |[]=>true
 |e::es=>d0 e.length sz&&Uz sz es
theorem Pe {sz:Nat}:∀{els:Lad},Uz sz els=true->∀e∈els,e.length=sz
 |e::es,h,e',hm=>by
  simp only[Uz,hV] at h
  rcases aaf.1 hm with rfl|hm
  .simp_all
  exact Pe h.2 e' hm
theorem Jm {len:Nat} {parts:List (Nat×Operand)} [ht:ei P t e sz by_] (hlen:len=parts.length) (hv:vs.length=parts.length)
 (hi:parts.map (·.1)=f5 len) (he:vsD vs=some (els,g)) (hs:Uz sz els=true) (h24:len*sz<=16777216):
 AWN P ⟨d,.buildSlice t len parts.toArray,ty,ps,af,gd⟩ ((parts.map (·.2)).zip (vs.map T.v)) [] (.v (.c (.w l len))) [(l,.row e sz els g true)]:=
 AL λcx E a w ok hn _ hl=>by
  subst hlen
  have hsz:=Pe hs
  obtain⟨ii,zz,i1,i2,i3,i4,i5⟩:=ht.i
  obtain⟨m1,m2⟩:=Wl ok he
  have hval:∀(i:Nat) (v:V),vs[i]?=some v->∃p,parts[i]?=some p/\cvV E w v (a.eval p.2):=by
   intro i v hi
   have hlt:i<vs.length:=(aaa.1 hi).1
   have hp:i<parts.length:=by omega
   refine⟨parts[i],v0 hp,hn parts[i].2 (.v v) ?_⟩
   refine aab (i:=i) ?_
   rw[List.getElem?_zip_eq_some]
   simp[hi,hp]
  have hcell:∀p∈parts,(a.eval p.2).cells.size=sz:=by
   intro p hp
   obtain⟨i,hi⟩:=aal hp
   have hlt:i<parts.length:=(aaa.1 hi).1
   obtain⟨v,hv'⟩:∃v,vs[i]?=some v:=⟨_,v0 oaa⟩
   obtain⟨e',he'⟩:∃e',els[i]?=some e':=⟨_,v0 oaa⟩
   obtain⟨v2,g',n1,n2,n3⟩:=m2 i e' he'
   rw[hv'] at n1;cases n1
   obtain⟨p',q1,q2⟩:=hval i v hv'
   rw[hi] at q1;cases q1
   rw[(Wk ok n2 q2).1];exact hsz e' (aab he')
  have hparts:(parts.map λp=>(p.1,a.eval p.2))=(((parts.map λp=>a.eval p.2).zipIdx 0).map λx=>(x.2,x.1)):=by
   apply List.ext_getElem?
   intro i
   simp only[aaN,List.getElem?_zipIdx]
   cases hp:parts[i]? with
   |none=>simp
   |some p=>
    have:(parts.map (·.1))[i]?=some p.1:=by simp[hp]
    grind
  obtain⟨r,f1,f2,f3⟩:=Go.Great.fill_dense (s:=sz) ht.p (parts.map λp=>a.eval p.2) 0 ((Array.range (parts.length*sz)).map ((if parts.length*sz=0 then #[] else zz.cells)[· %(if parts.length*sz=0 then #[] else zz.cells).size]!))
   (by grind) (by simp)
  refine⟨.slice (some ⟨w.heap.size,0,none⟩) parts.length parts.length,.cells r e,parts.length,?_,⟨_,_,zN _ _ _ _,rfl⟩,?_⟩
  .have hroom:¬parts.length*ii.size>2^24:=by rw[i2];omega
   by_cases h0:parts.length*sz=0
   .simp only[execOp,Instr.buildSlice]
    simp[underlying,ht.u,eW i1,i2,h0,newRow]
    simp_all
   simp only[execOp,Instr.buildSlice]
   have hroom':¬16777216<parts.length*sz:=by omega
   simp only[h0,if_false] at f1
   rw[<-hparts] at f1
   simp[underlying,ht.u,eW i1,i2,h0,hroom',newRow,zeroValue,typeInfo,i1,i4,f1]
  refine⟨_,_,r,zN _ _ _ _,s3 _ _,by simp[f2],by omega,?_,hsz,?_,λ_=>yg ok _ _,λh=>by cases h⟩
  .have:=ht.p
   have:parts.length<=parts.length*sz:=Nat.le_mul_of_pos_right _ this
   unfold maxLen;omega
  refine wv hsz λi e' hi'=>oI λj xd hj=>?_
  obtain⟨v,g',n1,n2,n3⟩:=m2 i e' hi'
  obtain⟨p,q1,q2⟩:=hval i v n1
  obtain⟨r1,r2,r3⟩:=Wk ok n2 q2
  obtain⟨c,s1,s2⟩:=r3 j xd hj
  have hjs:j<sz:=by rw[<-hsz e' (aab hi')];exact(aaa.1 hj).1
  have hil:i<parts.length:=(aaa.1 q1).1
  refine⟨c,?_,?_⟩
  .rw[eS (s3 w _),f3]
   have hlt:0+i*sz+j<(0+(parts.map λp=>a.eval p.2).length)*sz:=by
    simp only[aaI,aaj]
    calc i*sz+j<i*sz+sz:=by omega
     _=(i+1)*sz:=by grind
     _<=parts.length*sz:=aaO _ hil
   rw[if_pos ⟨by simp,hlt⟩]
   have hdiv:(0+i*sz+j)/sz=i:=by
    rw[aaj,aa5,Nat.add_mul_div_right _ _ ht.p,Nat.div_eq_of_lt hjs];omega
   have hmod:(0+i*sz+j)%sz=j:=by
    rw[aaj,aa5,aa7];exact aa9 hjs
   simp_all
  have h9:=pj ok s2 n3
  exact cS (λb hb=>Below.heap_alloc _ _ b (ok.hb hb)) (λb hb=>(IL ok hl (.cells r e) parts.length).H hb) _ _ h9
theorem n_make {zd:List D} {k k':IntKind} {c:Int} [ht:ei P t e sz by_] [he:TyE P e zd] (hc:n<=c) (hb:(by_:Int)*c<=281474976710656) (h63:c<=9223372036854775807):
 AWN P ⟨d,.makeSlice t x y,ty,ps,af,gd⟩ [(x,.v (.c (.d g (.i k n)))),(y,.v (.c (.d g' (.i k' c))))] [] (.v (.c (.w l n))) [(l,.row e sz (aac n zd) true true)]:=
 AL λcx E a w ok hn _ hl=>by
  obtain⟨ii,zz,i1,i2,i3,i4,i5⟩:=ht.i
  obtain⟨i',z',j1,j2,j3⟩:=he.h
  rw[i1] at j1;cases j1
  rw[i4] at j2;cases j2
  have h1:=iI (hn x _ (.head _))
  have h2:=iI (hn y _ (.tail _ (.head _)))
  have hzl:=(z8 (w:=w) (F:=λ_=>True) j3).1
  have hzd:zd.length=sz:=by rw[<-hzl];simpa using i5
  have hsz:∀x∈aac n zd,x.length=sz:=λx hx=>by simp_all
  refine⟨.slice (some ⟨w.heap.size,0,none⟩) n c.toNat,.cells (madeCells zz.cells (c.toNat*sz)) e,c.toNat,?_,⟨_,_,zN _ _ _ _,rfl⟩,?_⟩
  .have:=run_make (P:=P) w t e ii zz ht.u i1 i4 k k' n c oaa hc (by simp_all) h63
   simp[execOp,h1,h2,this,i2]
  refine⟨_,_,_,zN _ _ _ _,s3 _ _,by simp[size_madeCells],by simp;omega,by unfold maxLen;omega,hsz,?_,λ_=>yg ok _ _,λh=>by cases h⟩
  refine wv hsz λi e' hi'=>oI λj xd hj=>?_
  have hin:i<n:=by simpa using(aaa.1 hi').1
  have he':e'=zd:=List.eq_of_mem_replicate (aab hi')
  subst he'
  obtain⟨u,u1,u2⟩:=(z8 (w:=w.alloc (.cells (madeCells zz.cells (c.toNat*sz)) e)) (F:=(E.new l w.heap.size c.toNat).H true) j3).2 j xd hj
  have hjs:j<sz:=by rw[<-hzd];exact(aaa.1 hj).1
  refine⟨u,?_,u2⟩
  rw[eS (s3 w _)]
  have hlt:0+i*sz+j<c.toNat*sz:=by
   calc 0+i*sz+j<i*sz+sz:=by omega
    _=(i+1)*sz:=by grind
    _<=c.toNat*sz:=aaO _ oaa
  have hmod:(0+i*sz+j)%zz.cells.size=j:=by
   rw[i5,aaj,aa5,aa7];exact aa9 hjs
  have hzj:zz.cells[j]?=some u:=by simpa using u1
  have hzs:j<zz.cells.size:=by rw[i5];exact hjs
  simp only[madeCells,Array.getElem?_map,Array.getElem?_range,if_pos hlt,Option.map_some,hmod]
  simp_all
end
class TyN (P:Program) (t:TypeId) (n:outParam Nat):Prop where
 n:∃i,P.info? t=some i/\i.size=n
theorem d5 (w:World) (b k:Nat) (cs:Array Value) (h:k≠b):(w.setRow b cs).heap[k]?=w.heap[k]?:=by
 simp only[World.setRow,Array.getElem?_modify]
 grind
theorem i7 {b:Nat} {arr:Array Value} (cs:Array Value) (h:w.heap[b]?=some (.cells arr t (0,0))):(w.setRow b cs).heap[b]?=some (.cells cs t (0,0)):=
 setRow_heap w b arr cs t (0,0) h
section
variable {P:Program} {N:Nat} {d:Option Tmp} {ty:TypeId} {ps:String} {af:Array Edge} {gd:Option (Nat×Bool)} {x y z:Operand} {st:St}
theorem kc {cx:Cx} {o b c:Nat} {cs:Array Value} (ok:dJ cx E w) (hr:E.r o=some (b,c)) (hF:¬E.F b):kQ E w E (w.setRow b cs):=
 ⟨λ_ _ h=>h,λ_ _ h=>h,λg k hk=>d5 w b k cs (λe=>by
  subst e
  cases g
  .exact hF hk
  .exact hF (ok.gf _ hk)),λl k hk=>⟨hk,d5 w b k cs (λe=>by subst e;exact(ok.sf.tb l k hk).2.2.1 o c hr)⟩,
  λk hk=>⟨hk,.of_eq (d5 w b k cs (λe=>by subst e;exact(ok.sf.zb k hk).2.2.1 o c hr))⟩,rfl⟩
theorem Dd.setRow {cx:Cx} {o b c:Nat} {cs:Array Value} (s:Dd cx E w) (hr:E.r o=some (b,c)):Dd cx E (w.setRow b cs):=by
 have hsz:(w.setRow b cs).heap.size=w.heap.size:=by simp
 refine⟨λl k h=>?_,s.tt,λk h=>?_,λk h=>?_,s.ze⟩
 .obtain⟨h1,h2,h3,h4⟩:=s.tb l k h
  exact⟨by omega,h2,h3,h4.of_eq (d5 w b k cs (λe=>by simp_all))⟩
 .obtain⟨h1,h2,h3,h4⟩:=s.zc k h
  exact⟨by simp_all,h2,h3,h4.of_eq (d5 w b k cs (λe=>by simp_all))⟩
 obtain⟨h1,h2,h3,h4⟩:=s.zc k h
 exact(s.zs k h).trans (.of_eq (d5 w b k cs (λe=>by simp_all)))
theorem ww {cx:Cx} {o b c:Nat} {ob':Ob} {cs:Array Value} (hR:Rel N cx E st a w) (hr:E.r o=some (b,c)) (hF:¬E.F b)
 (h':df E (w.setRow b cs) o ob'):Rel N cx E ⟨st.sl,(o,ob')::st.ob,st.nx⟩ a (w.setRow b cs):=by
 have hk:=kc (cs:=cs) (w:=w) hR.ok hr hF
 have hsz:(w.setRow b cs).heap.size=w.heap.size:=by simp
 refine⟨⟨λk hk=>by rw[hsz];exact hR.ok.fb k hk,hR.ok.gf,hR.ok.gn,λo b c h=>by rw[hsz];exact hR.ok.rb o b c h,hR.ok.inj,hR.ok.os,hR.ok.tape,hR.ok.output,by rw[hsz];exact hR.ok.size,λk hk hW=>?_,hR.ok.pin,hR.ok.ff,λk hg hk'=>(hR.ok.gc k hg hk').of_eq (d5 w b k cs (λe=>hF (by simp_all))),hR.ok.sf.setRow hr⟩,hR.dom,λl ob hl=>?_,λk=>kF hk (hR.sl k),hR.dfr,hR.size,hR.td⟩
 .rw[d5 _ _ _ _ (λe=>by
   subst e
   rcases(hR.ok.rb o k c hr).2 with h|h
   .omega
   simp_all)]
  exact hR.ok.block k hk hW
 by_cases ho:o=l
 .subst ho;rw[cI] at hl;simp_all
 rw[b7 _ _ ho] at hl
 exact gN hk (λb' c' h=>d5 _ _ _ _ (λe=>ho (by subst e;exact hR.ok.inj _ _ _ _ _ hr h))) (λ_ _ _ h=>h) (hR.obs l ob hl)
theorem uD {b:Nat} {arr:Array Value} [ht:TyN P t n] (hu:u.cells.size=n) (h1:∀c∈u.cells.toList,c.oneCell'=true) (hh:w.heap[b]?=some (.cells arr vt (0,0))) (hk:k+n<=arr.size):
 (Instr.storeAt t (.pointer (some ⟨b,k,none⟩)) u).run P w= .ok () (w.setRow b (arr.toList.take k++u.cells.toList++arr.toList.drop (k+n)).toArray):=by
 obtain⟨i,hi,hn⟩:=ht.n
 have:=run_storeCells_at (P:=P) b k vt u.cells.toList 0 arr w hh (by simp_all) h1
 simp only[aaR,Array.length_toList,hu] at this
 simp[Instr.storeAt,Instr.sureAddr,storeVar,eW hi,hn,hu,this]
theorem SJ {v:V} {ns:List C} (h:vcs v=some ns) (hs:ns.all C.sto=true) (hv:cvV E w v u):∀c∈u.cells.toList,c.oneCell'=true:=by
 have hc:=J8 h hv
 have key:∀(ns:List C) (us:Lae),ns.all C.sto=true->CV E w ns us->∀c∈us,c.oneCell'=true:=by
  intro ns
  induction ns with
  |nil=>intro us _ hc;cases us with
   |nil=>simp
   |cons _ _=>exact hc.elim
  |cons n ns ih=>
   intro us hs hc
   cases us with
   |nil=>exact hc.elim
   |cons u us=>
    simp only[aaE,hV] at hs
    intro c hm
    rcases aaf.1 hm with rfl|hm
    .exact(Od hs.1 hc.1).1
    exact ih us hs.2 hc.2 c hm
 grind
theorem mW {us vs:Lae} (hn:us.length=n) (hk:k+n<=vs.length) (i:Nat):(vs.take k++us++vs.drop (k+n))[i]?=if k<=i/\i<k+us.length then us[i-k]? else vs[i]?:=by
 subst hn
 have hk':(vs.take k).length=k:=by simp;omega
 grind
theorem Rl {o:Nat} {cs' ns:List C} {v:V} [ht:TyN P t n] (hx:opT st.sl x= .v (.c (.p o k))) (hy:opT st.sl y= .v v) (ho:go st.ob o=some (.var vt cs)) (hv:vcs v=some ns)
 (hn:d0 ns.length n=true) (hst:ns.all C.sto=true) (hs:u5 k ns cs=some cs'):AWO P N ⟨none,.store t x y,ty,ps,af,gd⟩ st ⟨st.sl,(o,.var vt cs')::st.ob,st.nx⟩:=by
 intro cx E a w hR
 have h1:=hR.op x;rw[hx] at h1
 have h2:=hR.op y;rw[hy] at h2
 obtain⟨b,c,hr,hu⟩:=h1
 obtain⟨b',c',arr,hr',hh,hcv,hF⟩:=hR.obs o _ ho
 rw[hr] at hr';cases hr'
 have hvc:=J8 hv h2
 have hl1:=jt hvc
 have hl2:=jt hcv
 have hnn:=aad hn
 have hle:=(uC hs).2
 have hsz:(a.eval y).cells.size=n:=by simp at hl1;omega
 have hrun:=uD (P:=P) (t:=t) (n:=n) (k:=k) hsz (SJ hv hst h2) hh (by simp_all)
 unfold Oper.wp
 simp only[execOp,hu,Sem.run_bind,hrun,Result.andThen_ok,Sem.run_pure,Oper.upon_skip,Act.put]
 refine⟨E,ww hR hr hF ⟨b,c,_,hr,i7 _ hh,?_,hF⟩⟩
 have hk:=kc (cs:=(arr.toList.take k++(a.eval y).cells.toList++arr.toList.drop (k+n)).toArray) (w:=w) hR.ok hr hF
 refine sC hk (BU hs hvc hcv ?_ λi=>?_)
 .grind
 rw[show(arr.toList.take k++(a.eval y).cells.toList++arr.toList.drop (k+n)).toArray.toList=arr.toList.take k++(a.eval y).cells.toList++arr.toList.drop (k+n) from rfl]
 exact mW oaa oaa i
theorem fw {w:World} {F:Nat->Prop}:∀{xs:Lad} {b k:Nat},rdLL w F xs b k↔rdL w F xs.flatten b k
 |[],b,k=>by rfl
 |e::es,b,k=>by
  rw[rdLL,fw,List.flatten_cons]
  constructor
  .rintro⟨h1,h2⟩
   refine oI λj d hj=>?_
   by_cases hje:j<e.length
   .rw[aaq hje] at hj;exact nq h1 hj
   rw[aao oaa] at hj
   have:=nq h2 hj
   grind
  intro h
  refine⟨oI λj d hj=>?_,oI λj d hj=>?_⟩
  .have hje:j<e.length:=(aaa.1 hj).1
   exact nq h (by grind)
  have:=nq (j:=e.length+j) h (by rw[aao oaa];simpa using hj)
  grind
theorem gE {xs:Lad} (h:∀e∈xs,e.length=sz):xs.flatten.length=xs.length*sz:=by
 rw[List.length_flatten];exact Qa h
theorem Rk {o:Nat} {rt:TypeId} {el' ns:List D} {v:V} [ht:TyN P t n] (hx:opT st.sl x= .v (.c (.e o sz i j))) (hy:opT st.sl y= .v v)
 (ho:go st.ob o=some (.row rt sz els g true)) (hv:vD v=some (ns,g')) (hn:d0 ns.length n=true) (he:els[i]?=some el) (hs:u5 j ns el=some el'):
 AWO P N ⟨none,.store t x y,ty,ps,af,gd⟩ st ⟨st.sl,(o,.row rt sz (els.set i el') (g&&g') true)::st.ob,st.nx⟩:=by
 intro cx E a w hR
 have h1:=hR.op x;rw[hx] at h1
 have h2:=hR.op y;rw[hy] at h2
 obtain⟨b,c,hr,hu⟩:=h1
 obtain⟨b',c',arr,hr',hh,ha,hlc,hmx,hes,hrd,hFm,_⟩:=hR.obs o _ ho
 rw[hr] at hr';cases hr'
 have hF:=hFm rfl
 obtain⟨v1,v2,v3⟩:=Wk hR.ok hv h2
 have hnn:=aad hn
 have hil:i<els.length:=(aaa.1 he).1
 have hel:el.length=sz:=hes el (aab he)
 obtain⟨hsp,hle⟩:=uC hs
 have hel':el'.length=sz:=by rw[hsp];simp;omega
 have hbound:i*sz+j+n<=arr.size:=by
  rw[ha]
  calc i*sz+j+n<=i*sz+sz:=by omega
   _=(i+1)*sz:=by grind
   _<=c*sz:=aaO _ oaa
 have hrun:=uD (P:=P) (t:=t) (n:=n) (k:=i*sz+j) oaa v2 hh hbound
 unfold Oper.wp
 simp only[execOp,hu,Sem.run_bind,hrun,Result.andThen_ok,Sem.run_pure,Oper.upon_skip,Act.put]
 have hk:=kc (cs:=(arr.toList.take (i*sz+j)++(a.eval y).cells.toList++arr.toList.drop (i*sz+j+n)).toArray) (w:=w) hR.ok hr hF
 have hes':∀e∈els.set i el',e.length=sz:=λe hm=>by
  grind
 refine⟨E,ww hR hr hF ⟨b,c,_,hr,i7 _ hh,?_,by simp_all,hmx,hes',?_,λ_=>hF,λh=>by cases h⟩⟩
 .grind
 refine wv hes' λi' e' hi'=>oI λj' xd hj'=>?_
 rw[eS (i7 _ hh)]
 have hj'l:j'<sz:=by rw[<-hes' e' (aab hi')];exact(aaa.1 hj').1
 rw[aaT,mW (by simp;omega) (by simp;omega)]
 have hlen:(a.eval y).cells.toList.length=n:=by simp;omega
 rw[hlen,aaj]
 rw[List.getElem?_set] at hi'
 by_cases hii:i=i'
 .subst hii
  rw[if_pos rfl,if_pos hil] at hi'
  cases hi'
  rw[Mg hs] at hj'
  by_cases hin:j<=j'/\j'<j+ns.length
  .rw[if_pos hin] at hj'
   obtain⟨u,u1,u2⟩:=v3 _ _ hj'
   refine⟨u,?_,?_⟩
   .grind
   exact cS (hk.heap _) (hk.H _) _ _ (pj hR.ok u2 (by simp))
  rw[if_neg hin] at hj'
  obtain⟨u,u1,u2⟩:=nq (rL hrd hes he) hj'
  refine⟨u,?_,?_⟩
  .rw[if_neg oaa];rw[eS hh] at u1;simp_all
  exact cS (hk.heap _) (hk.H _) _ _ (pj hR.ok u2 (by simp_all))
 rw[if_neg hii] at hi'
 obtain⟨u,u1,u2⟩:=nq (rL hrd hes hi') hj'
 refine⟨u,?_,?_⟩
 .have hel'':j'<sz:=hj'l
  rw[if_neg ?_]
  .rw[eS hh] at u1;simp_all
  rintro⟨k1,k2⟩
  rcases Nat.lt_or_gt_of_ne hii with h|h
  .have:(i+1)*sz<=i'*sz:=aaO _ h
   grind
  have:(i'+1)*sz<=i*sz:=aaO _ h
  grind
 exact cS (hk.heap _) (hk.H _) _ _ (pj hR.ok u2 (by simp_all))
end
def C.has (o:Nat):C->Bool
 | .w l _| .s l _ _ _| .p l _| .e l _ _ _| .wn l _=>d0 l o
 |_=>false
def CO (o:Nat):List C->Bool
 |[]=>false
 |c::cs=>c.has o||CO o cs
def V.has (o:Nat):V->Bool
 | .c x=>x.has o
 | .agg cs=>CO o cs
def Hy (o:Nat):List V->Bool
 |[]=>false
 |c::cs=>c.has o||Hy o cs
def T.has (o:Nat):T->Bool
 | .v x=>x.has o
 | .tup ts=>Hy o ts
 | .any=>false
def oF (o:Nat):Lab->Option Lab
 |[]=>some []
 |(k,t)::r=>match oF o r,t.has o with
  |some r',true=>some ((k,.any)::r')
  |some r',false=>some ((k,t)::r')
  |none,_=>none
def CT (o:Nat):List C->Option (List C)
 |[]=>some []
 |c::r=>match CT o r,c.has o with
  |some r',true=>some (.any::r')
  |some r',false=>some (c::r')
  |none,_=>none
def ml (o:Nat):Laa->Option Laa
 |[]=>some []
 |(k,.var t cs)::r=>match ml o r,CT o cs with
  |some r',some cs'=>some ((k,.var t cs')::r')
  |_,_=>none
 |(k,.row t sz els g m)::r=>match ml o r with
  |some r'=>some ((k,.row t sz els g m)::r')
  |none=>none
 |(k,.rown t sz els g)::r=>match ml o r with
  |some r'=>some ((k,.rown t sz els g)::r')
  |none=>none
 |(k,.abs l y)::r=>match ml o r with
  |some r'=>some ((k,.abs l y)::r')
  |none=>none
theorem yb {o:Nat}:∀{sl sl':Lab},oF o sl=some sl'->∀k,gt sl' k= .any\/(gt sl' k=gt sl k/\(gt sl k).has o=false)
 |[],sl',h,k=>by simp[oF] at h;subst h;exact .inl rfl
 |(j,t)::r,sl',h,k=>by
  simp only[oF] at h
  cases h1:oF o r with
  |none=>simp_all
  |some r'=>
   have ih:=yb h1 k
   cases h2:t.has o with
   |true=>
    simp[h1,h2] at h;subst h
    by_cases hj:j=k
    .subst hj;rw[dR];simp_all
    rw[c9 _ _ hj,c9 _ _ hj];exact ih
   |false=>
    simp[h1,h2] at h;subst h
    by_cases hj:j=k
    .subst hj;rw[dR,dR];simp_all
    rw[c9 _ _ hj,c9 _ _ hj];exact ih
def Env.upd (E:Env) (o b c:Nat):Env:={E with r:=λl=>if l=o then some (b,c) else E.r l}
structure nO (o:Nat) (E:Env) (w:World) (E':Env) (w':World):Prop where
 r:∀l x,l≠o->E.r l=some x->E'.r l=some x
 H:∀g b,E.H g b->E'.H g b
 heap:∀g b,E.H g b->w'.heap[b]?=w.heap[b]?
 T:∀l b,E.T l b->E'.T l b/\w'.heap[b]?=w.heap[b]?
 Z:∀b,E.Z b->E'.Z b/\sD w w' b
 n:∀l,l≠o->(E'.n l↔E.n l)
theorem Dd.turn {cx:Cx} (s:Dd cx E w) {o b c:Nat} (h0:E.r o=some (b,c)) (hT:E'.T=E.T) (hZ:E'.Z=E.Z) (hF:∀b,E'.F b->E.F b\/w.heap.size<=b) (hr:∀o b c,E'.r o=some (b,c)->(∃o' c',E.r o'=some (b,c'))\/w.heap.size<=b)
 (hs:w.heap.size<=w'.heap.size) (hh:∀k,k<w.heap.size->k≠b->w'.heap[k]?=w.heap[k]?):Dd cx E' w':=by
 refine⟨λl k h=>?_,λl l' k h h'=>?_,λk h=>?_,λk h=>?_,λk h=>s.ze k (hZ▸h)⟩
 .rw[hT] at h
  obtain⟨⟨h1,h2⟩,h3,h4,h5⟩:=s.tb l k h
  refine⟨⟨by omega,h2⟩,λhf=>?_,λo c ho=>?_,h5.of_eq (hh k h1 (λe=>by simp_all))⟩
  .grind
  grind
 .rw[hT] at h h';exact s.tt l l' k h h'
 .obtain⟨⟨h1,h2,h2'⟩,h3,h4,h5⟩:=s.zc k h
  refine⟨⟨h1,by omega,h2'⟩,λhf=>?_,λo c ho=>?_,h5.of_eq (hh k h2 (λe=>by simp_all))⟩
  .grind
  grind
 obtain⟨⟨h1,h2,h2'⟩,h3,h4,h5⟩:=s.zc k h
 exact(s.zs k h).trans (.of_eq (hh k h2 (λe=>by simp_all)))
theorem jl {o:Nat} (h:d0 l o=false):l≠o:=λe=>by simp_all
theorem IB {o:Nat} (x:nO o E w E' w'):∀{c:C} {u:Value},c.has o=false->cvC E w c u->cvC E' w' c u
 | .d g d,u,_,h=>cS (x.heap g) (x.H g) d u h
 | .w l n,u,hl,⟨b,c,h,hu⟩=>⟨b,c,x.r _ _ (jl hl) h,hu⟩
 | .s l sz off len,u,hl,⟨A,c,b,k,h,hu⟩=>⟨A,c,b,k,x.r _ _ (jl hl) h,hu⟩
 | .p l k,u,hl,⟨b,c,h,hu⟩=>⟨b,c,x.r _ _ (jl hl) h,hu⟩
 | .e l sz i j,u,hl,⟨b,c,h,hu⟩=>⟨b,c,x.r _ _ (jl hl) h,hu⟩
 | .q g y j,u,_,⟨b,k,hu,hb,h⟩=>⟨b,k,hu,x.H g b hb,rdL_mono (x.heap g) (x.H g) y b k hb h⟩
 | .fn f,u,_,h=>h
 | .nil,u,_,h=>h
 | .any,u,_,_=>trivial
 | .r l d,u,_,h=>cS (λb hb=>(x.T l b hb).2) (λb hb=>(x.T l b hb).1) d u h
 | .z d,u,_,h=>vx (λb hb=>(x.Z b hb).2) (λb hb=>(x.Z b hb).1) d u h
 | .zq y j,u,_,⟨b,k,hu,hb,h⟩=>⟨b,k,hu,(x.Z b hb).1,rsL_mono (λb hb=>(x.Z b hb).2) (λb hb=>(x.Z b hb).1) y b k hb h⟩
 | .wn l n,u,hl,.inl ⟨h1,h2⟩=>.inl ⟨(x.n l (jl hl)).2 h1,h2⟩
 | .wn l n,u,hl,.inr ⟨h1,b,c,h,hu⟩=>.inr ⟨λk=>h1 ((x.n l (jl hl)).1 k),b,c,x.r _ _ (jl hl) h,hu⟩
theorem MK {o:Nat} {E E':Env} {w w':World} (x:nO o E w E' w'):∀{cs:List C} {us:Lae},CO o cs=false->CV E w cs us->CV E' w' cs us
 |[],[],_,_=>trivial
 |c::cs,u::us,hl,h=>by
  simp only[CO,aam] at hl
  exact⟨IB x hl.1 h.1,MK x hl.2 h.2⟩
 |[],_::_,_,h=>h.elim
 |_::_,[],_,h=>h.elim
theorem OG {o:Nat} (x:nO o E w E' w') {v:V} (hl:v.has o=false) (h:cvV E w v u):cvV E' w' v u:=by
 cases v with
 |c c=>exact IB x hl h
 |agg cs=>obtain⟨arr,hu,h⟩:=h;exact⟨arr,hu,MK x hl h⟩
theorem SR {o:Nat} {E E':Env} {w w':World} (x:nO o E w E' w'):∀{cs:List V} {us:Lae},Hy o cs=false->VV E w cs us->VV E' w' cs us
 |[],[],_,_=>trivial
 |c::cs,u::us,hl,h=>by
  simp only[Hy,aam] at hl
  exact⟨OG x hl.1 h.1,SR x hl.2 h.2⟩
 |[],_::_,_,h=>h.elim
 |_::_,[],_,h=>h.elim
theorem IC {o:Nat} (x:nO o E w E' w') {t:T} (hl:t.has o=false) (h:cvT E w t u):cvT E' w' t u:=by
 cases t with
 |v v=>exact OG x hl h
 |tup ts=>obtain⟨arr,hu,h⟩:=h;exact⟨arr,hu,SR x hl h⟩
 |any=>trivial
theorem y3 {o:Nat} {E E':Env} {w w':World} (x:nO o E w E' w'):∀{cs cs':List C} {us:Lae},CT o cs=some cs'->CV E w cs us->CV E' w' cs' us
 |[],cs',us,h,hc=>by simp[CT] at h;subst h;cases us with
  |nil=>trivial
  |cons _ _=>exact hc.elim
 |c::cs,cs',us,h,hc=>by
  cases us with
  |nil=>exact hc.elim
  |cons u us=>
   simp only[CT] at h
   cases h1:CT o cs with
   |none=>simp_all
   |some r=>
    cases h2:c.has o with
    |true=>simp[h1,h2] at h;subst h;exact⟨trivial,y3 x h1 hc.2⟩
    |false=>simp[h1,h2] at h;subst h;exact⟨IB x h2 hc.1,y3 x h1 hc.2⟩
theorem vl {o:Nat}:∀{ob ob':Laa},ml o ob=some ob'->∀{l:Nat} {x:Ob},go ob' l=some x->
 (∃t cs cs',go ob l=some (.var t cs)/\CT o cs=some cs'/\x= .var t cs')\/(∃t sz els g m,go ob l=some (.row t sz els g m)/\x= .row t sz els g m)\/(∃t sz els g,go ob l=some (.rown t sz els g)/\x= .rown t sz els g)\/(∃k y,go ob l=some (.abs k y)/\x= .abs k y)
 |[],ob',h,l,x,hl=>by simp[ml] at h;subst h;cases hl
 |(k,.var t cs)::r,ob',h,l,x,hl=>by
  simp only[ml] at h
  cases h1:ml o r with
  |none=>simp_all
  |some r'=>
   cases h2:CT o cs with
   |none=>simp_all
   |some cs'=>
    simp[h1,h2] at h;subst h
    by_cases hk:k=l
    .subst hk;rw[cI] at hl ⊢;grind
    rw[b7 _ _ hk] at hl ⊢;exact vl h1 hl
 |(k,.row t sz els g m)::r,ob',h,l,x,hl=>by
  simp only[ml] at h
  cases h1:ml o r with
  |none=>simp_all
  |some r'=>
   simp[h1] at h;subst h
   by_cases hk:k=l
   .subst hk;rw[cI] at hl ⊢;grind
   rw[b7 _ _ hk] at hl ⊢;exact vl h1 hl
 |(k,.rown t sz els g)::r,ob',h,l,x,hl=>by
  simp only[ml] at h
  cases h1:ml o r with
  |none=>simp_all
  |some r'=>
   simp[h1] at h;subst h
   by_cases hk:k=l
   .subst hk;rw[cI] at hl ⊢;grind
   rw[b7 _ _ hk] at hl ⊢;exact vl h1 hl
 |(k,.abs j y)::r,ob',h,l,x,hl=>by
  simp only[ml] at h
  cases h1:ml o r with
  |none=>simp_all
  |some r'=>
   simp[h1] at h;subst h
   by_cases hk:k=l
   .subst hk;rw[cI] at hl ⊢;grind
   rw[b7 _ _ hk] at hl ⊢;exact vl h1 hl
section
variable {P:Program} {N:Nat} {d:Tmp} {ty:TypeId} {ps:String} {af:Array Edge} {gd:Option (Nat×Bool)} {x y z:Operand} {st:St}
inductive Src (ob:Laa):C->Lad->Bool->Prop
 |d {g:Bool} {ys:Lad}:Src ob (.d g (.l ys)) ys g
 |nil:Src ob .nil [] true
 |w {o n:Nat} {t sz:Nat} {els:Lad} {g m:Bool} (h:go ob o=some (.row t sz els g m)) (hn:els.length=n):Src ob (.w o n) els g
 |s {o off len:Nat} {t sz:Nat} {els:Lad} {g m:Bool} (h:go ob o=some (.row t sz els g m)) (hn:off+len<=els.length):Src ob (.s o sz off len) ((els.drop off).take len) g
 |wn {o n:Nat} {t sz:Nat} {els:Lad} {g:Bool} (h:go ob o=some (.rown t sz els g)) (hn:els.length=n):Src ob (.wn o n) els g
theorem DO (hob:∀l x,go nob l=some x->df E w l x) {c:C} (h:Src nob c ys g) (hu:cvC E w c u):
 ∃A k,u= .slice A ys.length k/\ys.length<=k/\(ys=[]\/∃b off,A=some ⟨b,off,none⟩/\rdLL w (E.H g) ys b off):=by
 cases h with
 |d=>
  simp only[cvC,rdD] at hu
  grind
 |nil=>have:u= .slice none 0 0:=hu;simp_all
 |w h hn=>
  obtain⟨b,c,hr,rfl⟩:=hu
  obtain⟨b',c',arr,hr',hh,ha,hlc,hmx,hes,hrd,_⟩:=hob _ _ h
  rw[hr] at hr';cases hr'
  exact⟨_,_,by rw[hn],hlc,.inr ⟨b,0,rfl,hrd⟩⟩
 |s h hn=>
  rename_i o off len t sz els m
  obtain⟨A,c,b,k,hr,rfl,hlc',hA⟩:=hu
  obtain⟨b',c',arr,hr',hh,ha,hlc,hmx,hes,hrd,_⟩:=hob _ _ h
  rw[hr] at hr';cases hr'
  have hl:((els.drop off).take len).length=len:=by simp;omega
  refine⟨A,c,by rw[hl],by omega,?_⟩
  rcases hA with h0|h0
  .simp_all
  right;exact⟨b,off*sz,h0,by simpa using pD len (Cp hrd hes off)⟩
 |wn h hn=>
  rcases hu with⟨h0,rfl,rfl⟩|⟨h0,b,c,hr,rfl⟩
  .simp_all
  rcases hob _ _ h with⟨h1,_⟩|⟨_,b',c',arr,hr',hh,ha,hlc,hmx,hes,hrd,_⟩
  .simp_all
  rw[hr] at hr';cases hr'
  exact⟨_,_,by rw[hn],hlc,.inr ⟨b,0,rfl,hrd⟩⟩
theorem Oc {cx:Cx} (hR:Rel N cx E st a w) {c:C} (h:Src st.ob c ys g) (hu:cvC E w c u):
 ∃A k,u= .slice A ys.length k/\ys.length<=k/\(ys=[]\/∃b off,A=some ⟨b,off,none⟩/\rdLL w (E.H g) ys b off):=
 DO (λl x h=>hR.obs l x h) h hu
theorem s9 {base:Nat} {ty e:TypeId} {i:TypeInfo} {size:Nat} (w:World) (ht:P.underlying t=some (.slice e)) (hi:P.info? e=some i)
 {v:Value} {xs:Lae} (hown:w.ownsRow base e size v n xs) (c:Nat):(Builtin.append_ #[t,t] ty #[v,.slice none 0 c]).run P w= .ok v w:=by
 rcases hown.2 with⟨rfl,rfl⟩|⟨g,cap,cur,rfl,_,_,hnc,_⟩
 .simp[Builtin.append_,run_underlying ht,sizeOf,typeInfo,hi,Builtin.lenOf,Builtin.firstCells]
 simp[Builtin.append_,run_underlying ht,sizeOf,typeInfo,hi,Builtin.lenOf,Builtin.firstCells,hnc,storeCells]
theorem vw {F:Nat->Prop} {e:List D} {b:Nat} (h:rdL w F e b k):∃us:Lae,us.length=e.length/\(∀(j:Nat) (u:Value),us[j]?=some u->w.cell? ((⟨b,k,none⟩:Addr).add j)=some u)/\
 (∀u∈us,u.oneCell'=true)/\∀(j:Nat) (xd:D),e[j]?=some xd->∃u,us[j]?=some u/\rdD w F xd u:=by
 obtain⟨us,h1,h2,h3⟩:=Bt h
 refine⟨us,h1,λj u hj=>by rw[vQ];simp_all,λu hu=>?_,h3⟩
 obtain⟨j,hj⟩:=aal hu
 have hjl:j<us.length:=(aaa.1 hj).1
 obtain⟨v,k1,k2⟩:=h3 j e[j] (v0 oaa)
 rw[hj] at k1;cases k1
 exact wu k2
theorem CK {cx:Cx} (hR:Rel N cx E st a w) {o:Nat} {c:C} [ht:ei P t e sz by_] (hrv:rsp o=false) (hd:d<N)
 {b cc:Nat} {arr:Array Value} (hr:E.r o=some (b,cc)) (hu:a.eval x= .slice (some ⟨b,0,none⟩) n cc) (hh:w.heap[b]?=some (.cells arr e (0,0))) (ha:arr.size=cc*sz) (hlc:els.length<=cc) (hmx:cc<=maxLen) (hes:∀e∈els,e.length=sz) (hrd:rdLL w (E.H g) els b 0) (hF:¬E.F b)
 (hy:opT st.sl y= .v (.c c)) (hs:Src st.ob c ys gy) (hk:oF o st.sl=some sl') (hkb:ml o st.ob=some ob')
 (hn:els.length=n) (hsz:∀e∈ys,e.length=sz) (hb:(n+ys.length)*by_<=140737488355328) (h63:n+ys.length<=9223372036854775807):
 Oper.wp P ⟨some d,.call ⟨.builtin .append,#[x,y],#[t,t]⟩,ty,ps,af,gd⟩ a w (λa' w'=>∃E',Rel N cx E' ⟨(d,.v (.c (.w o (n+ys.length))))::sl',(o,.row e sz (els++ys) (g&&gy) true)::ob',st.nx⟩ a' w') (λ_ _ _=>False):=by
 have h2:=hR.op y;rw[hy] at h2
 obtain⟨A,k,hv,hyk,hA⟩:=Oc hR hs h2
 obtain⟨ii,zz,i1,i2,i3,i4,i5⟩:=ht.i
 have hbl:=(hR.ok.rb o b cc hr)
 have hown:w.ownsRow 0 e sz (.slice (some ⟨b,0,none⟩) n cc) n (arr.toList.take (n*sz)):=
  ⟨by simp_all,.inr ⟨b,cc,arr,rfl,aap _,hh,by omega,hmx,ha,rfl⟩⟩
 have hsrc:∃news:Lae,news.length=ys.length*sz/\(∀u∈news,u.oneCell'=true)/\(∀(j:Nat) (xd:D),ys.flatten[j]?=some xd->∃u,news[j]?=some u/\rdD w (E.H gy) xd u)/\
  ∃v' w',(Builtin.append_ #[t,t] ty #[.slice (some ⟨b,0,none⟩) n cc,.slice A ys.length k]).run P w= .ok v' w'/\w'.ownsRow 0 e sz v' (n+ys.length) (arr.toList.take (n*sz)++news)/\w.grownBy w' (some b)/\v'≠.slice none 0 0/\(v'.ownBlock=some b\/v'.ownBlock=some w.heap.size):=by
  have hgood:∀ad,A=some ad->∀news:Lae,news.length=ys.length*sz->(∀(j:Nat) (u:Value),news[j]?=some u->w.cell? (ad.add j)=some u)->(∀u∈news,u.oneCell'=true)->
   ∃v' w',(Builtin.append_ #[t,t] ty #[.slice (some ⟨b,0,none⟩) n cc,.slice A ys.length k]).run P w= .ok v' w'/\w'.ownsRow 0 e sz v' (n+ys.length) (arr.toList.take (n*sz)++news)/\w.grownBy w' (some b)/\v'≠.slice none 0 0/\(v'.ownBlock=some b\/v'.ownBlock=some w.heap.size):=by
   intro ad hAd news n1 n2 n3
   obtain⟨v',w',r1,r2,r3,r4,r5⟩:=run_append_own_at (P:=P) w 0 t ty e ii zz sz by_ ht.u i1 i4 i2 i3 i5 ht.p _ n _ hown ad ys.length k news n1 n2 n3 (by unfold maxLen;omega) hb (aap _)
   exact⟨v',w',by simp_all,r2,r3,(λh=>by simp_all),r5⟩
  rcases hA with h0|⟨b2,off,rfl,hrd2⟩
  .subst h0
   refine⟨[],by simp,by simp,by simp,?_⟩
   cases A with
   |none=>exact⟨_,w,s9 w ht.u i1 hown k,by simp_all,⟨rfl,rfl,rfl,aah _,λ_ _ _=>rfl⟩,by simp,.inl rfl⟩
   |some ad=>simp_all
  obtain⟨us,q1,q2,q3,q4⟩:=vw (fw.1 hrd2)
  exact⟨us,by rw[q1,gE hsz],q3,q4,hgood _ rfl us (by rw[q1,gE hsz]) q2 q3⟩
 obtain⟨news,n1,n2,n3,v',w',r1,r2,r3,r4,r5⟩:=hsrc
 obtain⟨_,r2⟩:=r2
 rcases r2 with⟨rfl,_⟩|⟨bn,cap,cur,rfl,_,hhn,hcap,hcapm,hcur,htk⟩
 .simp_all
 unfold Oper.wp
 simp only[execOp,resolve,invoke,builtin,Sem.run_bind,Sem.run_pure,Result.andThen_ok,aaV,aau,aaJ,hu,hv,r1,Oper.upon_value]
 have hbn:bn=b\/bn=w.heap.size:=by simpa [Value.ownBlock] using r5
 have hsame:∀k,k<w.heap.size->k≠b->w'.heap[k]?=w.heap[k]?:=λk hk hne=>r3.block k hk (λe=>hne (by injection e))
 have hnF:¬E.F bn:=by
  rcases hbn with rfl|rfl
  .exact hF
  exact λh=>by have:=hR.ok.fb _ h;omega
 have hbig:bn<w'.heap.size:=by
  rcases aat bn w'.heap.size with h|h
  .exact h
  simp_all
 have hnew:∀l bl cl,l≠o->E.r l=some (bl,cl)->bl≠bn:=by
  intro l bl cl hne hl e
  subst e
  rcases hbn with h|h
  .subst h;exact hne (hR.ok.inj l o _ _ _ hl hr)
  have:=(hR.ok.rb l bl cl hl).1;omega
 have hHb:∀g k,E.H g k->k≠b/\k<w.heap.size:=λg k hk=>⟨λe=>by subst e;cases g;exact hF hk;exact hF (hR.ok.gf _ hk),hR.ok.hb hk⟩
 have kb:nO o E w (E.upd o bn cap) w':=⟨λl x hne hl=>by simp only[Env.upd];simp_all,λ_ _ h=>h,λg k hk=>hsame k (hHb g k hk).2 (hHb g k hk).1,λl k hk=>⟨hk,hsame k (hR.ok.sf.tb l k hk).1.1 (λe=>by subst e;exact(hR.ok.sf.tb l k hk).2.2.1 o _ hr)⟩,λk hk=>⟨hk,.of_eq (hsame k (hR.ok.sf.zb k hk).1.2.1 (λe=>by subst e;exact(hR.ok.sf.zb k hk).2.2.1 o _ hr))⟩,λ_ _=>Iff.rfl⟩
 refine⟨E.upd o bn cap,⟨λk hk=>aay (hR.ok.fb k hk) r3.size,hR.ok.gf,hR.ok.gn,λl bl cl hl=>?_,λl l' bl cl cl' hl hl'=>?_,by rw[r3.os];exact hR.ok.os,by rw[r3.tape];exact hR.ok.tape,by rw[r3.output];exact hR.ok.output,Nat.le_trans hR.ok.size r3.size,λk hk hW=>?_,λl xx hv hl=>by
  simp only[Env.upd] at hl
  split at hl
  .simp_all
  exact hR.ok.pin l xx hv hl,hR.ok.ff,λk hk hk'=>(hR.ok.gc k hk hk').of_eq (hsame k (hHb false k hk).2 (hHb false k hk).1),hR.ok.sf.turn hr rfl rfl (λ_ h=>.inl h) (λl bl cl hl=>by
  simp only[Env.upd] at hl
  grind) r3.size hsame⟩,λl xx hl=>?_,λl ob hl=>?_,λk=>?_,hR.dfr,by simpa [Act.put] using hR.size,hR.td⟩
 .simp only[Env.upd] at hl
  split at hl
  .rename_i elo
   cases hl
   refine⟨hbig,?_⟩
   rcases hbn with h|h
   .simp_all
   left;rw[h];exact hR.ok.size
  have:=hR.ok.rb l bl cl hl;grind
 .simp only[Env.upd] at hl hl'
  split at hl<;>split at hl'
  .omega
  .grind
  .grind
  exact hR.ok.inj l l' bl cl cl' hl hl'
 .have hkb':k≠b:=λe=>by
   grind
  rw[hsame k (by have:=hR.ok.size;omega) hkb'];exact hR.ok.block k hk hW
 .simp only[Env.upd] at hl
  split at hl
  .rename_i e;subst e;exact hR.dom _ _ hr
  exact hR.dom l _ hl
 .by_cases hlo:o=l
  .subst hlo
   rw[cI] at hl;cases hl
   have hall:∀e'∈els++ys,e'.length=sz:=λe' he'=>by
    grind
   refine⟨bn,cap,cur,by simp[Env.upd],hhn,hcur,by simp;omega,hcapm,hall,?_,λ_=>hnF,λh=>by cases h⟩
   rw[fw]
   refine oI λj xd hj=>?_
   rw[aaj,eS hhn]
   rw[aaL] at hj
   have hfl:els.flatten.length=n*sz:=by rw[gE hes,hn]
   have hxs:(arr.toList.take (n*sz)).length=n*sz:=by simp[ha];rw[aaG oaa]
   have hcurj:∀u,(arr.toList.take (n*sz)++news)[j]?=some u->cur[j]?=some u:=by
    intro u hu
    rw[<-htk,aaH] at hu
    split at hu
    .simp_all
    cases hu
   by_cases hjn:j<n*sz
   .rw[aaq oaa] at hj
    obtain⟨u,u1,u2⟩:=nq (fw.1 hrd) hj
    rw[aaj,eS hh] at u1
    refine⟨u,hcurj u ?_,cS (kb.heap _) (kb.H _) _ _ (pj hR.ok u2 (by simp_all))⟩
    grind
   rw[aao oaa,hfl] at hj
   obtain⟨u,u1,u2⟩:=n3 _ _ hj
   refine⟨u,hcurj u ?_,cS (kb.heap _) (kb.H _) _ _ (pj hR.ok u2 (by simp))⟩
   grind
  rw[b7 _ _ hlo] at hl
  rcases vl hkb hl with⟨t',cs,cs',k1,k2,rfl⟩|⟨t',sz',els',g',m',k1,rfl⟩|⟨t',sz',els',g',k1,rfl⟩|⟨j',y',k1,rfl⟩
  .obtain⟨bl,cl,arrl,l1,l2,l3,l4⟩:=hR.obs l _ k1
   have hne:bl≠b:=λe=>hlo (by subst e;exact hR.ok.inj _ _ _ _ _ hr l1)
   exact⟨bl,cl,arrl,kb.r _ _ (Ne.symm hlo) l1,(hsame bl (hR.ok.rb _ _ _ l1).1 hne).trans l2,y3 kb k2 l3,l4⟩
  .obtain⟨bl,cl,arrl,l1,l2,l3,l4,l5,l6,l7,l8,l9⟩:=hR.obs l _ k1
   have hne:bl≠b:=λe=>hlo (by subst e;exact hR.ok.inj _ _ _ _ _ hr l1)
   have hb2:=hsame bl (hR.ok.rb _ _ _ l1).1 hne
   exact⟨bl,cl,arrl,kb.r _ _ (Ne.symm hlo) l1,hb2.trans l2,l3,l4,l5,l6,cT (kb.heap _) (kb.H _) hb2 _ _ l7,l8,l9⟩
  .rcases hR.obs l _ k1 with h|⟨l0,bl,cl,arrl,l1,l2,l3,l4,l5,l6,l7,l8⟩
   .exact .inl h
   have hne:bl≠b:=λe=>hlo (by subst e;exact hR.ok.inj _ _ _ _ _ hr l1)
   have hb2:=hsame bl (hR.ok.rb _ _ _ l1).1 hne
   exact .inr ⟨l0,bl,cl,arrl,kb.r _ _ (Ne.symm hlo) l1,hb2.trans l2,l3,l4,l5,l6,cT (kb.heap _) (kb.H _) hb2 _ _ l7,l8⟩
  rcases hR.obs l _ k1 with h|⟨l0,bl,cl,l1,l2,l3⟩
  .exact .inl h
  have hne:bl≠b:=λe=>hlo (by subst e;exact hR.ok.inj _ _ _ _ _ hr l1)
  have hb2:=hsame bl (hR.ok.rb _ _ _ l1).1 hne
  exact .inr ⟨l0,bl,cl,kb.r _ _ (Ne.symm hlo) l1,y'.st _ _ _ _ _ _ l2 (λk hk=>(kb.T _ k hk).1) hb2 (λk hk=>(kb.T _ k hk).2),l3⟩
 rw[iv (by rw[hR.size];exact hd)]
 by_cases hdk:d=k
 .subst hdk;rw[dR,if_pos rfl];exact⟨bn,cap,by simp[Env.upd],rfl⟩
 rw[c9 _ _ hdk,if_neg hdk]
 rcases yb hk k with h|⟨h,h'⟩
 .rw[h];trivial
 rw[h];exact IC kb h' (hR.sl k)
theorem Nv {o:Nat} {c:C} [ht:ei P t e sz by_] (hrv:rsp o=false) (hd:d<N)
 (hx:opT st.sl x= .v (.c (.w o n))) (hy:opT st.sl y= .v (.c c)) (ho:go st.ob o=some (.row e sz els g true)) (hs:Src st.ob c ys gy) (hk:oF o st.sl=some sl') (hkb:ml o st.ob=some ob')
 (hn:els.length=n) (hsz:∀e∈ys,e.length=sz) (hb:(n+ys.length)*by_<=140737488355328) (h63:n+ys.length<=9223372036854775807):
 AWO P N ⟨some d,.call ⟨.builtin .append,#[x,y],#[t,t]⟩,ty,ps,af,gd⟩ st ⟨(d,.v (.c (.w o (n+ys.length))))::sl',(o,.row e sz (els++ys) (g&&gy) true)::ob',st.nx⟩:=by
 intro cx E a w hR
 have h1:=hR.op x;rw[hx] at h1
 obtain⟨b,cc,hr,hu⟩:=h1
 obtain⟨b',c',arr,hr',hh,ha,hlc,hmx,hes,hrd,hFm,_⟩:=hR.obs o _ ho
 rw[hr] at hr';cases hr'
 exact CK hR hrv hd hr hu hh ha hlc hmx hes hrd (hFm rfl) hy hs hk hkb hn hsz hb h63
end
inductive AV where
 |c (x:D)
 |agg (xs:List D)
inductive RC where
 |d (x:D)
 |own (ty sz:Nat) (els:Lad) (n:Nat)
 |nil
inductive RV where
 |c (x:RC)
 |agg (xs:List RC)
variable {res:List Go.AM.RV}
abbrev aI (n:Int):AV:=.c (.i .i64 n)
abbrev aB (b:Bool):AV:=.c (.b b)
abbrev aL (xs:Lad):AV:=.c (.l xs)
abbrev rB (b:Bool):RV:=.c (.d (.b b))
def DV (w:World) (F:Nat->Prop):List D->Lae->Prop
 |[],[]=>True
 |x::xs,u::us=>rdD w F x u/\DV w F xs us
 |_,_=>False
def avR (w:World) (F:Nat->Prop):AV->Value->Prop
 | .c x,u=>rdD w F x u
 | .agg xs,u=>∃arr,u= .agg arr/\DV w F xs arr.toList
def AR (w:World) (F:Nat->Prop):List AV->Lae->Prop
 |[],[]=>True
 |x::xs,u::us=>avR w F x u/\AR w F xs us
 |_,_=>False
def rcR (w:World) (G:Nat->Prop) (base:Nat):RC->Value->Lac->Prop
 | .d x,u,bs=>bs=[]/\rdD w G x u
 | .own ty sz els n,u,bs=>∃b c arr,bs=[(b,c)]/\u= .slice (some ⟨b,0,none⟩) n c/\w.heap[b]?=some (.cells arr ty (0,0))/\arr.size=c*sz/\els.length<=c/\c<=maxLen/\
  (∀e∈els,e.length=sz)/\rdLL w G els b 0/\¬G b/\base<=b
 | .nil,u,bs=>bs=[]/\u= .slice none 0 0
def GT (w:World) (G:Nat->Prop) (base:Nat):List RC->Lae->Lac->Prop
 |[],[],bs=>bs=[]
 |r::rs,u::us,bs=>∃b1 b2,bs=b1++b2/\rcR w G base r u b1/\GT w G base rs us b2
 |_,_,_=>False
def rvR (w:World) (G:Nat->Prop) (base:Nat):RV->Value->Lac->Prop
 | .c r,u,bs=>rcR w G base r u bs
 | .agg rs,u,bs=>∃arr,u= .agg arr/\GT w G base rs arr.toList bs
def Dq (w:World) (G:Nat->Prop) (base:Nat):List RV->Lae->Lac->Prop
 |[],[],bs=>bs=[]
 |r::rs,u::us,bs=>∃b1 b2,bs=b1++b2/\rvR w G base r u b1/\Dq w G base rs us b2
 |_,_,_=>False
def As (w:World) (G:Nat->Prop) (base:Nat):List RV->Value->Lac->Prop
 |[r],v,bs=>rvR w G base r v bs
 |rs,v,bs=>∃arr,v= .tuple arr/\Dq w G base rs arr.toList bs
structure Im (w w':World) (W:Nat->Prop):Prop where
 os:w'.os=w.os
 tape:w'.tape=w.tape
 output:w'.output=w.output
 size:w.heap.size<=w'.heap.size
 block:∀b,b<w.heap.size->¬W b->w'.heap[b]?=w.heap[b]?
structure Fn (P:Program) (f:FuncId) (args:List AV) (res:List RV):Prop where
 enters:∀(vs:Array Value) (w:World),(callFunc f vs).run P w= .ok (.enter f vs) w
 calls:∀(F:Nat->Prop) (w:World) (vals:Array Value),(∀b,F b->b<w.heap.size)->TabsIn w->AR w F args vals.toList->
  Calls P f vals w λe w'=>∃v G bs,e= .returned v/\Im w w' (λ_=>False)/\(∀b,G b->w.heap.size<=b/\b<w'.heap.size/\jv w' b)/\As w' G w.heap.size res v bs/\(bs.map (·.1)).Nodup
inductive SN (P:Program) (st:St):ResultVar->V->Prop
 |tmp {k:Tmp} {v:V} (h:gt st.sl k= .v v):SN P st (.tmp k) v
 |cell {p:Tmp} {t n o:Nat} {vt:TypeId} {cs:List C} [ht:g7 P t n] (h:gt st.sl p= .v (.c (.p o 0))) (ho:go st.ob o=some (.var vt cs)) (hn:d0 cs.length n=true):SN P st (.cell p t) (.agg cs)
 |cell1 {p:Tmp} {t o:Nat} {vt:TypeId} {c:C} [ht:jw P t] (h:gt st.sl p= .v (.c (.p o 0))) (ho:go st.ob o=some (.var vt [c])):SN P st (.cell p t) (.c c)
inductive pf (P:Program) (st:St):List ResultVar->List V->Prop
 |nil:pf P st [] []
 |cons {r:ResultVar} {rs:List ResultVar} {v:V} {vs:List V} (h:SN P st r v) (h':pf P st rs vs):pf P st (r::rs) (v::vs)
def xF (ob:Laa):C->Option (RC×List Nat)
 | .d _ (.i k n)=>some (.d (.i k n),[])
 | .d _ (.b x)=>some (.d (.b x),[])
 | .d _ (.str s)=>some (.d (.str s),[])
 | .d true (.l xs)=>some (.d (.l xs),[])
 | .w o n=>match go ob o,rsv o with
  |some (.row ty sz els true true),false=>some (.own ty sz els n,[o])
  |_,_=>none
 | .nil=>some (.nil,[])
 |_=>none
def CM (ob:Laa):List C->Option (List RC×List Nat)
 |[]=>some ([],[])
 |c::cs=>match xF ob c,CM ob cs with
  |some (r,l),some (rs,ls)=>some (r::rs,l++ls)
  |_,_=>none
def M9 (ob:Laa):V->Option (RV×List Nat)
 | .c c=>match xF ob c with
  |some (r,l)=>some (.c r,l)
  |none=>none
 | .agg cs=>match CM ob cs with
  |some (r,l)=>some (.agg r,l)
  |none=>none
def xG (ob:Laa):List V->Option (List RV×List Nat)
 |[]=>some ([],[])
 |c::cs=>match M9 ob c,xG ob cs with
  |some (r,l),some (rs,ls)=>some (r::rs,l++ls)
  |_,_=>none
def oG:List Nat->Bool
 |[]=>true
 |x::xs=>!(xs.any (d0 x))&&oG xs
theorem kK:∀{l:List Nat},oG l=true->l.Nodup
 |[],_=>List.nodup_nil
 |x::xs,h=>by
  simp only[oG,hV,aaw] at h
  refine aaY.2 ⟨λhm=>?_,kK h.2⟩
  have:xs.any (d0 x)=true:=aax.2 ⟨x,hm,by simp⟩
  rw[this] at h;exact absurd h.1 (by simp)
def Fin (P:Program) (rs:List ResultVar) (res:List RV) (s:St):Prop:=∃vs ls,pf P s rs vs/\xG s.ob vs=some (res,ls)/\oG ls=true
theorem ON {cx:Cx} (hR:Rel N cx E st a w) {c:C} {r:RC} {ls:List Nat} (h:xF st.ob c=some (r,ls)) (hc:cvC E w c u):
 ∃bs,rcR w E.G cx.w0.heap.size r u bs/\bs.length=ls.length/\∀(i:Nat) (l:Nat),ls[i]?=some l->∃p,bs[i]?=some p/\E.r l=some p:=by
 cases c with
 |d g x=>
  cases x with
  |i k n=>simp[xF] at h;obtain⟨rfl,rfl⟩:=h;exact⟨[],⟨rfl,by simp_all[cvC,rdD]⟩,rfl,by simp⟩
  |b k=>simp[xF] at h;obtain⟨rfl,rfl⟩:=h;exact⟨[],⟨rfl,by simp_all[cvC,rdD]⟩,rfl,by simp⟩
  |str k=>simp[xF] at h;obtain⟨rfl,rfl⟩:=h;exact⟨[],⟨rfl,by simp_all[cvC,rdD]⟩,rfl,by simp⟩
  |l xs=>
   cases g with
   |false=>grind[xF]
   |true=>simp[xF] at h;obtain⟨rfl,rfl⟩:=h;exact⟨[],⟨rfl,hc⟩,rfl,by simp⟩
  |k A n c=>grind[xF]
 |w o n=>
  simp only[xF] at h
  split at h
  .rename_i ty sz els ho hrv
   simp at h;obtain⟨rfl,rfl⟩:=h
   obtain⟨b,c,hr,rfl⟩:=hc
   obtain⟨b',c',arr,hr',hh,ha,hlc,hmx,hes,hrd,hFm,_⟩:=hR.obs o _ ho
   rw[hr] at hr';cases hr'
   refine⟨[(b,c)],⟨b,c,arr,rfl,rfl,hh,ha,hlc,hmx,hes,hrd,λhg=>hFm rfl (hR.ok.gf b hg),((hR.ok.rb o b c hr).2).resolve_right (λh=>by simp_all)⟩,rfl,λi l hi=>?_⟩
   grind
  cases h
 |nil=>simp[xF] at h;obtain⟨rfl,rfl⟩:=h;exact⟨[],⟨rfl,hc⟩,rfl,by simp⟩
 |_=>grind[xF]
theorem Pb {b1 b2:Lac} {l1 l2:List Nat} (h1:b1.length=l1.length) (k1:∀(i:Nat) (l:Nat),l1[i]?=some l->∃p,b1[i]?=some p/\E.r l=some p)
 (k2:∀(i:Nat) (l:Nat),l2[i]?=some l->∃p,b2[i]?=some p/\E.r l=some p):∀(i:Nat) (l:Nat),(l1++l2)[i]?=some l->∃p,(b1++b2)[i]?=some p/\E.r l=some p:=by
 grind
theorem KQ {N:Nat} {cx:Cx} {E:Env} {st:St} {a:Act} {w:World} (hR:Rel N cx E st a w):∀{cs:List C} {rs:List RC} {ls:List Nat} {us:Lae},CM st.ob cs=some (rs,ls)->CV E w cs us->
 ∃bs,GT w E.G cx.w0.heap.size rs us bs/\bs.length=ls.length/\∀(i:Nat) (l:Nat),ls[i]?=some l->∃p,bs[i]?=some p/\E.r l=some p
 |[],rs,ls,us,h,hc=>by
  simp[CM] at h;obtain⟨rfl,rfl⟩:=h
  cases us with
  |nil=>exact⟨[],rfl,rfl,by simp⟩
  |cons _ _=>exact hc.elim
 |c::cs,rs,ls,us,h,hc=>by
  cases us with
  |nil=>exact hc.elim
  |cons u us=>
   simp only[CM] at h
   split at h
   .rename_i r l rs' ls' h1 h2
    simp at h;obtain⟨rfl,rfl⟩:=h
    obtain⟨b1,k1,k2,k3⟩:=ON hR h1 hc.1
    obtain⟨b2,m1,m2,m3⟩:=KQ hR h2 hc.2
    exact⟨b1++b2,⟨b1,b2,rfl,k1,m1⟩,by simp[k2,m2],Pb k2 k3 m3⟩
   cases h
theorem Xn {cx:Cx} (hR:Rel N cx E st a w) {v:V} {r:RV} {ls:List Nat} (h:M9 st.ob v=some (r,ls)) (hv:cvV E w v u):
 ∃bs,rvR w E.G cx.w0.heap.size r u bs/\bs.length=ls.length/\∀(i:Nat) (l:Nat),ls[i]?=some l->∃p,bs[i]?=some p/\E.r l=some p:=by
 cases v with
 |c c=>
  simp only[M9] at h
  split at h
  .rename_i r' l' h1;simp at h;obtain⟨rfl,rfl⟩:=h;exact ON hR h1 hv
  cases h
 |agg cs=>
  simp only[M9] at h
  split at h
  .rename_i r' l' h1;simp at h;obtain⟨rfl,rfl⟩:=h
   obtain⟨arr,hu,hc⟩:=hv
   obtain⟨bs,k1,k2,k3⟩:=KQ hR h1 hc
   exact⟨bs,⟨arr,hu,k1⟩,k2,k3⟩
  cases h
theorem Ex {N:Nat} {cx:Cx} {E:Env} {st:St} {a:Act} {w:World} (hR:Rel N cx E st a w):∀{vs:List V} {rs:List RV} {ls:List Nat} {us:Lae},xG st.ob vs=some (rs,ls)->VV E w vs us->
 ∃bs,Dq w E.G cx.w0.heap.size rs us bs/\bs.length=ls.length/\∀(i:Nat) (l:Nat),ls[i]?=some l->∃p,bs[i]?=some p/\E.r l=some p
 |[],rs,ls,us,h,hc=>by
  simp[xG] at h;obtain⟨rfl,rfl⟩:=h
  cases us with
  |nil=>exact⟨[],rfl,rfl,by simp⟩
  |cons _ _=>exact hc.elim
 |c::cs,rs,ls,us,h,hc=>by
  cases us with
  |nil=>exact hc.elim
  |cons u us=>
   simp only[xG] at h
   split at h
   .rename_i r l rs' ls' h1 h2
    simp at h;obtain⟨rfl,rfl⟩:=h
    obtain⟨b1,k1,k2,k3⟩:=Xn hR h1 hc.1
    obtain⟨b2,m1,m2,m3⟩:=Ex hR h2 hc.2
    exact⟨b1++b2,⟨b1,b2,rfl,k1,m1⟩,by simp[k2,m2],Pb k2 k3 m3⟩
   cases h
def nu (tmps:Array Value):ResultVar->Sem Value
 | .tmp t=>pure (tmps.getD t undef)
 | .cell p t=>do loadVar t (<-asAddr (tmps.getD p undef))
theorem WQ {cx:Cx} (hR:Rel N cx E st a w) {r:ResultVar} {v:V} (h:SN P st r v):
 ∃u,(nu a.tmps r).run P w= .ok u w/\cvV E w v u:=by
 cases h with
 |tmp h=>rename_i k;have:=hR.sl k;rw[h] at this;exact⟨_,by simp[nu],this⟩
 |cell h ho hn=>
  rename_i p t n o vt cs ht
  have h1:=hR.sl p;rw[h] at h1
  obtain⟨b,c,hr,hu⟩:=h1
  obtain⟨b',c',arr,hr',hh,hcv,_⟩:=hR.obs o _ ho
  rw[hr] at hr';cases hr'
  have hl:=jt hcv
  have hnn:=aad hn
  have:=sX (P:=P) (t:=t) (n:=n) (b:=b) (k:=0) (us:=arr.toList) (w:=w) oaa (λj u hj=>by grind[eS])
  refine⟨.agg arr.toList.toArray,?_,arr,by simp,hcv⟩
  simp_all[Instr.loadAt,Instr.sureAddr,nu,asAddr]
 |cell1 h ho=>
  rename_i p t o vt c ht
  have h1:=hR.sl p;rw[h] at h1
  obtain⟨b,c',hr,hu⟩:=h1
  obtain⟨b',c'',arr,hr',hh,hcv,_⟩:=hR.obs o _ ho
  rw[hr] at hr';cases hr'
  obtain⟨u,hu',hcu⟩:=Hb (k:=0) hcv rfl
  have:=nm (P:=P) (t:=t) (b:=b) (k:=0) (u:=u) (w:=w) (by grind[eS])
  refine⟨u,?_,hcu⟩
  simp_all[Instr.loadAt,Instr.sureAddr,nu,asAddr]
theorem xu {P:Program} {N:Nat} {cx:Cx} {E:Env} {st:St} {a:Act} {w:World} (hR:Rel N cx E st a w):∀{rs:List ResultVar} {vs:List V},pf P st rs vs->
 ∃us,(rs.mapM (nu a.tmps)).run P w= .ok us w/\VV E w vs us
 |_,_,.nil=>⟨[],by simp,trivial⟩
 |_,_,.cons (r:=r) h h'=>by
  obtain⟨u,k1,k2⟩:=WQ hR h
  obtain⟨us,m1,m2⟩:=xu hR h'
  refine⟨u::us,?_,k2,m2⟩
  simp_all
theorem ZP {cx:Cx} (hR:Rel N cx E st a w) {fn:Func} (h:Fin P fn.results.toList res st):
 ∃v bs,(results fn a.tmps).run P w= .ok v w/\As w E.G cx.w0.heap.size res v bs/\(bs.map (·.1)).Nodup:=by
 obtain⟨vs,ls,h1,h2,h3⟩:=h
 obtain⟨us,k1,k2⟩:=xu hR h1
 obtain⟨bs,m1,m2,m3⟩:=Ex hR h2 k2
 have hnd:(bs.map (·.1)).Nodup:=by
  have hnl:=kK h3
  refine aaB.2 λi j hi hj hij he=>?_
  simp only[aaI] at hi hj
  obtain⟨p,p1,p2⟩:=m3 i ls[i] (v0 oaa)
  obtain⟨q,q1,q2⟩:=m3 j ls[j] (v0 oaa)
  rw[v0 hi] at p1
  rw[v0 hj] at q1
  cases p1;cases q1
  simp only[List.getElem_map] at he
  rcases hbi:bs[i] with⟨b1,c1⟩
  rcases hbj:bs[j] with⟨b2,c2⟩
  rw[hbi,hbj] at he
  rw[hbi] at p2;rw[hbj] at q2
  have hb:b1=b2:=he
  subst hb
  exact aaB.1 hnl i j oaa oaa hij (hR.ok.inj _ _ _ _ _ p2 q2)
 have hm:(fn.results.mapM (nu a.tmps)).run P w= .ok us.toArray w:=by
  rw[<-aaU (xs:=fn.results),List.mapM_toArray]
  simp only[Sem.run_map,k1]
  rfl
 have hres:results fn a.tmps=(fn.results.mapM (nu a.tmps))>>= λvs=>pure (if h:vs.size=1 then vs[0] else .tuple vs):=rfl
 have hlen:us.length=vs.length:=by
  have key:∀(vs:List V) (us:Lae),VV E w vs us->us.length=vs.length:=by
   intro vs
   induction vs with
   |nil=>intro us h;cases us with
    |nil=>rfl
    |cons _ _=>exact h.elim
   |cons v vs ih=>intro us h;cases us with
    |nil=>exact h.elim
    |cons u us=>simp[ih us h.2]
  exact key vs us k2
 have hlen2:us.length=res.length:=by
  have key:∀(rs:List RV) (us:Lae) (bs:Lac),Dq w E.G cx.w0.heap.size rs us bs->us.length=rs.length:=by
   intro rs
   induction rs with
   |nil=>intro us bs h;cases us with
    |nil=>rfl
    |cons _ _=>exact h.elim
   |cons v vs ih=>intro us bs h;cases us with
    |nil=>exact h.elim
    |cons u us=>obtain⟨b1,b2,_,_,h⟩:=h;grind
  exact key res us bs m1
 match res,us,m1,hlen2 with
 |[],[],m1,_=>exact⟨.tuple #[],bs,by simp_all,⟨#[],rfl,m1⟩,hnd⟩
 |[r],[u],m1,_=>
  obtain⟨b1,b2,rfl,h4,h5⟩:=m1
  have:b2=[]:=h5
  subst this
  exact⟨u,b1++[],by simp_all,by simp_all[As],hnd⟩
 |r1::r2::rs,u1::u2::us,m1,_=>
  exact⟨.tuple (u1::u2::us).toArray,bs,by simp_all,⟨_,rfl,m1⟩,hnd⟩
def argT:AV->T
 | .c x=>.v (.c (ldC false x))
 | .agg xs=>.v (.agg (xs.map (ldC false)))
def xa:Nat->List AV->Lab
 |_,[]=>[]
 |k,a::as=>(k,argT a)::xa (k+1) as
def qN (N:Nat) (P:Program) (rs:List ResultVar) (res:List RV):Exit->St->Prop
 | .normal,s| .ret,s=>∃s',dQ N s s'/\Fin P rs res s'
 |_,_=>False
theorem Vd {rs:List ResultVar} (h:Fin P rs res s):qN N P rs res .ret s:=⟨s,λ_ E _ _ h=>⟨E,h⟩,h⟩
theorem SL {E:Env} {w:World} {F:Nat->Prop} (hF:E.F=F):∀{xs:List D} {us:Lae},DV w F xs us->CV E w (xs.map (ldC false)) us
 |[],[],_=>trivial
 |x::xs,u::us,h=>⟨E8 (g:=false) (by subst hF;exact h.1),SL hF h.2⟩
 |[],_::_,h=>h.elim
 |_::_,[],h=>h.elim
theorem D5 {E:Env} {w:World} {F:Nat->Prop} (hF:E.F=F):∀{as:List AV} {us:Lae} (k0:Nat),AR w F as us->us.length=as.length/\∀k,(k0<=k/\k<k0+as.length->∃u,us[k-k0]?=some u/\cvT E w (gt (xa k0 as) k) u)/\(¬(k0<=k/\k<k0+as.length)->gt (xa k0 as) k= .any)
 |[],[],k0,_=>⟨rfl,λk=>⟨λh=>by grind,λ_=>rfl⟩⟩
 |a::as,u::us,k0,h=>by
  obtain⟨h1,h2⟩:=D5 hF (k0+1) h.2
  refine⟨by simp[h1],λk=>?_⟩
  by_cases hk:k0=k
  .subst hk
   refine⟨λ_=>⟨u,by simp,?_⟩,λhn=>absurd ⟨aah _,by simp⟩ hn⟩
   rw[xa,dR]
   cases a with
   |c x=>exact E8 (g:=false) (by subst hF;exact h.1)
   |agg xs=>obtain⟨arr,hu,hd⟩:=h.1;exact⟨arr,hu,SL hF hd⟩
  rw[xa,c9 _ _ hk]
  refine⟨λhr=>?_,λhr=>(h2 k).2 (λh=>hr ⟨by omega,by simp;omega⟩)⟩
  obtain⟨v,h3,h4⟩:=(h2 k).1 ⟨by omega,by grind⟩
  grind
 |[],_::_,_,h=>h.elim
 |_::_,[],_,h=>h.elim
theorem fn_of  {f:FuncId} {fn:Func} {c:Code}  {args:List AV} {rs:List ResultVar}  (hf:P.funcs[f]?=some fn) (hb:fn.body=some c) (hnm:(fn.name== "runtime.NumGoroutine")=false) (hN:fn.ntmps=N) (hrs:fn.results.toList=rs)
 (ha:aar args.length N=true) (h:AWC P N c ⟨xa 0 args,[],0⟩ (qN N P rs res)):Fn P f args res:=by
 refine⟨λvs w=>by simp_all[callFunc],λF w vals hF hT hA=>?_⟩
 subst hrs
 refine calls_of_wp hf hb ?_
 let E:Env:={r:=λ_=>none,F:=F,G:=λ_=>False}
 obtain⟨h1,h2⟩:=D5 (E:=E) (F:=F) rfl 0 hA
 have hle:args.length<=N:=aaF ha
 have hsz:vals.size=args.length:=by simpa using h1
 have hR:Rel N ⟨w,λ_=>False,λ_=>none,λ_=>True,λ_=>False,⟨hT,λ_ _ h=>h⟩,λ_=>False⟩ E ⟨xa 0 args,[],0⟩ {tmps:=vals++aai (fn.ntmps-vals.size) undef,defers:=[]} w:=by
  refine⟨⟨hF,λ_ h=>h.elim,λ_ h=>h.elim,(λ_ _ _ h=>by cases h),(λ_ _ _ _ _ h=>by cases h),rfl,rfl,rfl,aah _,λ_ _ _=>rfl,(λ_ _ _ h=>by cases h),λ_ _=>.inl trivial,λb h h'=>absurd (hF b h) (by simp_all),⟨λ_ _ h=>h.elim,λ_ _ _ h=>h.elim,λ_ h=>h.elim,λ_ h=>h.elim,λ_ h=>h.elim⟩⟩,(λ_ _ h=>by cases h),(λ_ _ h=>by cases h),λk=>?_,rfl,by simp;omega,λ_ _ h=>h.elim⟩
  by_cases hk:k<args.length
  .obtain⟨u,h3,h4⟩:=(h2 k).1 ⟨aap _,by omega⟩
   have:(vals++aai (fn.ntmps-vals.size) undef).getD k undef=u:=by
    have h5:vals[k]?=some u:=by simpa using h3
    have h6:(vals++aai (fn.ntmps-vals.size) undef)[k]?=some u:=by rw[Array.getElem?_append_left oaa];exact h5
    simp[h6]
   simp_all
  simp_all[cvT,gt,xa,trivial]
 refine wp_mono (h _ E _ w hR) ?_
 rintro e a' w' ⟨E',s',hR',hq⟩
 have fin:∀s',Rel N ⟨w,λ_=>False,λ_=>none,λ_=>True,λ_=>False,⟨hT,λ_ _ h=>h⟩,λ_=>False⟩ E' s' a' w'->(∃s'',dQ N s' s''/\Fin P fn.results.toList res s'')->
  a'.defers=[]/\∃v,(results fn a'.tmps).run P w'= .ok v w'/\∃v' G bs,Ending.returned v= .returned v'/\Im w w' (λ_=>False)/\(∀b,G b->w.heap.size<=b/\b<w'.heap.size/\jv w' b)/\As w' G w.heap.size res v' bs/\(bs.map (·.1)).Nodup:=by
  rintro s' hR' ⟨s'',hw,hfin⟩
  obtain⟨E'',hR''⟩:=hw _ _ _ _ hR'
  obtain⟨v,bs,k1,k2,k3⟩:=ZP hR'' hfin
  have ok:=hR''.ok
  exact⟨hR''.dfr,v,k1,v,E''.G,bs,rfl,⟨ok.os,ok.tape,ok.output,ok.size,ok.block⟩,λb hb=>⟨(ok.gn b hb).resolve_right id,ok.fb b (ok.gf b hb),ok.gc b (ok.gf b hb) ((ok.gn b hb).resolve_right id)⟩,k2,k3⟩
 cases e with
 |normal=>exact fin s' hR' hq
 |ret=>exact fin s' hR' hq
 |_=>exact hq.elim
def labC:C->List Nat
 | .w o _=>[o]
 | .s o _ _ _=>[o]
 | .wn o _=>[o]
 |_=>[]
def Y3:List C->List Nat
 |[]=>[]
 |c::cs=>labC c++Y3 cs
def Li:List T->List Nat
 |[]=>[]
 | .v (.c c)::ts=>labC c++Li ts
 | .v (.agg cs)::ts=>Y3 cs++Li ts
 |_::ts=>Li ts
def vp (ob:Laa):List Nat->Option Laa
 |[]=>some []
 |l::ls=>match go ob l,vp ob ls with
  |some x,some r=>some ((l,x)::r)
  |_,_=>none
theorem vq {ob:Laa}:∀{ls:List Nat} {nob:Laa},vp ob ls=some nob->Lo ob nob
 |[],nob,h=>by simp[vp] at h;subst h;trivial
 |l::ls,nob,h=>by
  simp only[vp] at h
  split at h
  .rename_i x r h1 h2;simp at h;subst h;exact⟨h1,vq h2⟩
  cases h
theorem Af {ob:Laa} {x:Ob} (h:go ob l=some x):(l,x)∈ob:=by
 induction ob with
 |nil=>cases h
 |cons p r ih=>
  grind[cI,b7]
def AS (nob:Laa):C->Option (D×Lac)
 | .d _ x=>some (x,[])
 | .nil=>some (.l [],[])
 | .w o n=>match go nob o with
  |some (.row _ _ els _ _)=>some (.l els,[(els.length,n)])
  |_=>none
 | .wn o n=>match go nob o with
  |some (.rown _ _ els _)=>some (.l els,[(els.length,n)])
  |_=>none
 | .s o sz off len=>match go nob o with
  |some (.row _ sz' els _ _)=>match d0 sz sz' with
   |true=>some (.l ((els.drop off).take len),[(off+len-els.length,0)])
   |false=>none
  |_=>none
 |_=>none
def KD (nob:Laa):List C->Option (List D×Lac)
 |[]=>some ([],[])
 |c::cs=>match AS nob c,KD nob cs with
  |some (x,e),some (xs,es)=>some (x::xs,e++es)
  |_,_=>none
def tdat (nob:Laa):T->Option (AV×Lac)
 | .v (.c c)=>match AS nob c with
  |some (x,e)=>some (.c x,e)
  |none=>none
 | .v (.agg cs)=>match KD nob cs with
  |some (x,e)=>some (.agg x,e)
  |none=>none
 |_=>none
def H7 (nob:Laa):List T->Option (List AV×Lac)
 |[]=>some ([],[])
 |c::cs=>match tdat nob c,H7 nob cs with
  |some (x,e),some (xs,es)=>some (x::xs,e++es)
  |_,_=>none
def KA (nob:Laa):C->Option (D×Lac)
 | .r _ x=>some (x,[])
 |c=>AS nob c
def Ek (nob:Laa):List C->Option (List D×Lac)
 |[]=>some ([],[])
 |c::cs=>match KA nob c,Ek nob cs with
  |some (x,e),some (xs,es)=>some (x::xs,e++es)
  |_,_=>none
def V7 (nob:Laa):T->Option (AV×Lac)
 | .v (.c c)=>match KA nob c with
  |some (x,e)=>some (.c x,e)
  |none=>none
 | .v (.agg cs)=>match Ek nob cs with
  |some (x,e)=>some (.agg x,e)
  |none=>none
 |_=>none
def AE (nob:Laa):List T->Option (List AV×Lac)
 |[]=>some ([],[])
 |c::cs=>match V7 nob c,AE nob cs with
  |some (x,e),some (xs,es)=>some (x::xs,e++es)
  |_,_=>none
def Eqs:Lac->Prop
 |[]=>True
 |(a,b)::r=>a=b/\Eqs r
theorem eR:∀{l m:Lac},Eqs (l++m)->Eqs l/\Eqs m
 |[],m,h=>⟨trivial,h⟩
 |(a,b)::l,m,h=>let ⟨h1,h2⟩:=eR (l:=l) h.2;⟨⟨h.1,h1⟩,h2⟩
def mA (E:Env) (nob:Laa):Nat->Prop:=λb=>E.F b\/∃l x c,go nob l=some x/\E.r l=some (b,c)
def Ef (E:Env) (nob:Laa):Nat->Prop:=λb=>mA E nob b\/∃l,E.T l b
section
variable {cx:Cx} {E:Env} {w:World} {nob:Laa} (ok:dJ cx E w) (hob:∀l x,go nob l=some x->df E w l x)
include ok hob
theorem Dx {c:C} {e:Lac} (h:AS nob c=some (x,e)) (he:Eqs e) (hc:cvC E w c u):rdD w (mA E nob) x u:=by
 have hHF:∀g b,E.H g b->mA E nob b:=λg b hb=>.inl (by cases g;exact hb;exact ok.gf b hb)
 cases c with
 |d g y=>simp[AS] at h;obtain⟨rfl,rfl⟩:=h;exact cS (λ_ _=>rfl) (hHF g) _ _ hc
 |nil=>simp[AS] at h;obtain⟨rfl,rfl⟩:=h;have:u= .slice none 0 0:=hc;subst this;rw[rdD];exact⟨none,0,rfl,aah _,.inl rfl⟩
 |w o n=>
  simp only[AS] at h
  split at h
  .rename_i t sz els g m ho
   simp at h;obtain⟨rfl,rfl⟩:=h
   obtain⟨b,cc,hr,rfl⟩:=hc
   obtain⟨b',c',arr,hr',hh,ha,hlc,hmx,hes,hrd,_⟩:=hob o _ ho
   rw[hr] at hr';cases hr'
   have hn:els.length=n:=he.1
   subst hn
   rw[rdD]
   exact⟨_,_,rfl,hlc,.inr ⟨b,0,rfl,.inr ⟨o,_,cc,ho,hr⟩,cT (λ_ _=>rfl) (hHF g) rfl _ _ hrd⟩⟩
  cases h
 |wn o n=>
  simp only[AS] at h
  split at h
  .rename_i t sz els g ho
   simp at h;obtain⟨rfl,rfl⟩:=h
   have hn:els.length=n:=he.1
   rcases hc with⟨h0,rfl,rfl⟩|⟨h0,b,cc,hr,rfl⟩
   .have:els=[]:=aaQ hn
    subst this
    rw[rdD];exact⟨none,0,rfl,aah _,.inl rfl⟩
   rcases hob o _ ho with⟨h1,_⟩|⟨_,b',c',arr,hr',hh,ha,hlc,hmx,hes,hrd,_⟩
   .simp_all
   rw[hr] at hr';cases hr'
   subst hn
   rw[rdD]
   exact⟨_,_,rfl,hlc,.inr ⟨b,0,rfl,.inr ⟨o,_,cc,ho,hr⟩,cT (λ_ _=>rfl) (hHF g) rfl _ _ hrd⟩⟩
  cases h
 |s o sz off len=>
  simp only[AS] at h
  split at h
  .rename_i t sz' els g m ho
   split at h
   .rename_i hb
    have hsz:=aad hb
    subst hsz
    simp at h;obtain⟨rfl,rfl⟩:=h
    obtain⟨A,cc,b,k,hr,rfl,hlc',hA⟩:=hc
    obtain⟨b',c',arr,hr',hh,ha,hlc,hmx,hes,hrd,_⟩:=hob o _ ho
    rw[hr] at hr';cases hr'
    have hle:off+len-els.length=0:=he.1
    have hl:((els.drop off).take len).length=len:=by simp;omega
    rw[rdD]
    refine⟨A,cc,by rw[hl],by omega,?_⟩
    rcases hA with h0|h0
    .simp_all
    right;exact⟨b,off*sz,h0,.inr ⟨o,_,k,ho,hr⟩,cT (λ_ _=>rfl) (hHF g) rfl _ _ (by simpa using pD len (Cp hrd hes off))⟩
   cases h
  cases h
 |_=>grind[AS]
theorem KE:∀{cs:List C} {xs:List D} {e:Lac} {us:Lae},KD nob cs=some (xs,e)->Eqs e->CV E w cs us->DV w (mA E nob) xs us
 |[],xs,e,us,h,he,hc=>by
  simp[KD] at h;obtain⟨rfl,rfl⟩:=h
  cases us with
  |nil=>trivial
  |cons _ _=>exact hc.elim
 |c::cs,xs,e,us,h,he,hc=>by
  cases us with
  |nil=>exact hc.elim
  |cons u us=>
   simp only[KD] at h
   split at h
   .rename_i x e1 xs' e2 h1 h2
    simp at h;obtain⟨rfl,rfl⟩:=h
    obtain⟨k1,k2⟩:=eR he
    exact⟨Dx ok hob h1 k1 hc.1,KE h2 k2 hc.2⟩
   cases h
theorem YA {t:T} {x:AV} {e:Lac} (h:tdat nob t=some (x,e)) (he:Eqs e) (hc:cvT E w t u):avR w (mA E nob) x u:=by
 unfold tdat at h
 split at h
 .split at h
  .rename_i h1;simp at h;obtain⟨rfl,rfl⟩:=h;exact Dx ok hob h1 he hc
  cases h
 .split at h
  .rename_i h1;simp at h;obtain⟨rfl,rfl⟩:=h;obtain⟨arr,hu,hc⟩:=hc;exact⟨arr,hu,KE ok hob h1 he hc⟩
  cases h
 cases h
theorem Mr {a:Act}:∀{ts:List T} {xs:List AV} {e:Lac} {args:List Operand},H7 nob ts=some (xs,e)->Eqs e->ts.length=args.length->(∀x t,(x,t)∈args.zip ts->cvT E w t (a.eval x))->AR w (mA E nob) xs (args.map a.eval)
 |[],xs,e,[],h,he,hl,hn=>by simp[H7] at h;obtain⟨rfl,rfl⟩:=h;trivial
 |t::ts,xs,e,x::args,h,he,hl,hn=>by
  simp only[H7] at h
  split at h
  .rename_i y e1 ys e2 h1 h2
   simp at h;obtain⟨rfl,rfl⟩:=h
   obtain⟨k1,k2⟩:=eR he
   exact⟨YA ok hob h1 k1 (hn x t (by simp)),Mr h2 k2 (by simp_all) λx t hm=>hn x t (by simp_all)⟩
  cases h
 |[],_,_,_::_,_,_,hl,_=>by simp at hl
 |_::_,_,_,[],_,_,hl,_=>by simp at hl
theorem KB {c:C} {e:Lac} (h:KA nob c=some (x,e)) (he:Eqs e) (hc:cvC E w c u):rdD w (Ef E nob) x u:=by
 have gen:∀{c:C},AS nob c=some (x,e)->cvC E w c u->rdD w (Ef E nob) x u:=λh hc=>cS (λ_ _=>rfl) (λb hb=>.inl hb) _ _ (Dx ok hob h he hc)
 cases c with
 |r l y=>simp[KA] at h;obtain⟨rfl,rfl⟩:=h;exact cS (λ_ _=>rfl) (λb hb=>.inr ⟨l,hb⟩) _ _ hc
 |_=>grind[KA]
theorem Hl:∀{cs:List C} {xs:List D} {e:Lac} {us:Lae},Ek nob cs=some (xs,e)->Eqs e->CV E w cs us->DV w (Ef E nob) xs us
 |[],xs,e,us,h,he,hc=>by
  simp[Ek] at h;obtain⟨rfl,rfl⟩:=h
  cases us with
  |nil=>trivial
  |cons _ _=>exact hc.elim
 |c::cs,xs,e,us,h,he,hc=>by
  cases us with
  |nil=>exact hc.elim
  |cons u us=>
   simp only[Ek] at h
   split at h
   .rename_i x e1 xs' e2 h1 h2
    simp at h;obtain⟨rfl,rfl⟩:=h
    obtain⟨k1,k2⟩:=eR he
    exact⟨KB ok hob h1 k1 hc.1,Hl h2 k2 hc.2⟩
   cases h
theorem V8 {t:T} {x:AV} {e:Lac} (h:V7 nob t=some (x,e)) (he:Eqs e) (hc:cvT E w t u):avR w (Ef E nob) x u:=by
 unfold V7 at h
 split at h
 .split at h
  .rename_i h1;simp at h;obtain⟨rfl,rfl⟩:=h;exact KB ok hob h1 he hc
  cases h
 .split at h
  .rename_i h1;simp at h;obtain⟨rfl,rfl⟩:=h;obtain⟨arr,hu,hc⟩:=hc;exact⟨arr,hu,Hl ok hob h1 he hc⟩
  cases h
 cases h
theorem H8 {a:Act}:∀{ts:List T} {xs:List AV} {e:Lac} {args:List Operand},AE nob ts=some (xs,e)->Eqs e->ts.length=args.length->(∀x t,(x,t)∈args.zip ts->cvT E w t (a.eval x))->AR w (Ef E nob) xs (args.map a.eval)
 |[],xs,e,[],h,he,hl,hn=>by simp[AE] at h;obtain⟨rfl,rfl⟩:=h;trivial
 |t::ts,xs,e,x::args,h,he,hl,hn=>by
  simp only[AE] at h
  split at h
  .rename_i y e1 ys e2 h1 h2
   simp at h;obtain⟨rfl,rfl⟩:=h
   obtain⟨k1,k2⟩:=eR he
   exact⟨V8 ok hob h1 k1 (hn x t (by simp)),H8 h2 k2 (by simp_all) λx t hm=>hn x t (by simp_all)⟩
  cases h
 |[],_,_,_::_,_,_,hl,_=>by simp at hl
 |_::_,_,_,[],_,_,hl,_=>by simp at hl
end
def QU (nx:Nat):RC->Option (C×Laa×Nat)
 | .d (.i k n)=>some (.d false (.i k n),[],nx)
 | .d (.b x)=>some (.d false (.b x),[],nx)
 | .d (.str s)=>some (.d false (.str s),[],nx)
 | .d (.l xs)=>some (.d true (.l xs),[],nx)
 | .d (.k _ _ _)=>none
 | .own ty sz els n=>some (.w nx n,[(nx,.row ty sz els true true)],nx+1)
 | .nil=>some (.nil,[],nx)
def K8 (nx:Nat):List RC->Option (List C×Laa×Nat)
 |[]=>some ([],[],nx)
 |r::rs=>match QU nx r with
  |some (c,b,n)=>match K8 n rs with
   |some (cs,bs,m)=>some (c::cs,b++bs,m)
   |none=>none
  |none=>none
def Um (nx:Nat):RV->Option (V×Laa×Nat)
 | .c r=>match QU nx r with
  |some (c,b,n)=>some (.c c,b,n)
  |none=>none
 | .agg rs=>match K8 nx rs with
  |some (c,b,n)=>some (.agg c,b,n)
  |none=>none
def La (nx:Nat):List RV->Option (List V×Laa×Nat)
 |[]=>some ([],[],nx)
 |r::rs=>match Um nx r with
  |some (c,b,n)=>match La n rs with
   |some (cs,bs,m)=>some (c::cs,b++bs,m)
   |none=>none
  |none=>none
def EX (nx:Nat):List RV->Option (T×Laa×Nat)
 |[r]=>match Um nx r with
  |some (v,b,n)=>some (.v v,b,n)
  |none=>none
 |rs=>match La nx rs with
  |some (v,b,n)=>some (.tup v,b,n)
  |none=>none
def Imp (E:Env) (w:World) (nx n:Nat) (bs:Lac) (nw:Laa):Prop:=
 n=nx+bs.length/\(∀l x,(l,x)∈nw->df E w l x/\nx<=l/\l<n)/\∀l,nx<=l->l<n->∃x,(l,x)∈nw
theorem Imp.join {m:Nat} {b1 b2:Lac} {nw1 nw2:Laa} (h1:Imp E w nx n b1 nw1) (h2:Imp E w n m b2 nw2):Imp E w nx m (b1++b2) (nw1++nw2):=by
 obtain⟨rfl,h1b,h1c⟩:=h1
 obtain⟨rfl,h2b,h2c⟩:=h2
 refine⟨by simp;omega,λl x hm=>?_,λl hl1 hl2=>?_⟩
 .grind
 grind
section
variable {E:Env} {w:World} {G:Nat->Prop} {base:Nat} (hG:∀b,G b->E.G b) (hnF:∀b:Nat,base<=b->¬G b->¬E.F b)
include hG hnF
theorem O6 {r:RC} {bs:Lac} {c:C} (h:QU nx r=some (c,nw,n)) (hr:rcR w G base r u bs) (hb:∀(i:Nat) (p:Nat×Nat),bs[i]?=some p->E.r (nx+i)=some p):
 cvC E w c u/\Imp E w nx n bs nw:=by
 cases r with
 |d x=>
  obtain⟨rfl,hr⟩:=hr
  cases x<;>simp[QU] at h<;>obtain⟨rfl,rfl,rfl⟩:=h<;>refine⟨?_,⟨rfl,by simp,λl h1 h2=>by omega⟩⟩
  .simp_all[cvC,rdD]
  .simp_all[cvC,rdD]
  .simp_all[cvC,rdD]
  exact cS (λ_ _=>rfl) hG _ _ hr
 |own ty sz els n'=>
  obtain⟨b,cc,arr,rfl,rfl,hh,ha,hlc,hmx,hes,hrd,hgb,hbb⟩:=hr
  simp[QU] at h;obtain⟨rfl,rfl,rfl⟩:=h
  have:=hb 0 (b,cc) rfl
  rw[aaR] at this
  refine⟨⟨b,cc,this,rfl⟩,⟨rfl,λl x hm=>?_,λl h1 h2=>⟨.row ty sz els true true,by grind⟩⟩⟩
  simp at hm;obtain⟨rfl,rfl⟩:=hm
  exact⟨⟨b,cc,arr,this,hh,ha,hlc,hmx,hes,cT (λ_ _=>rfl) hG rfl _ _ hrd,λ_=>hnF b hbb hgb,λh=>by cases h⟩,by omega,by omega⟩
 |nil=>
  obtain⟨rfl,hr⟩:=hr
  simp[QU] at h;obtain⟨rfl,rfl,rfl⟩:=h
  exact⟨hr,⟨rfl,by simp,λl h1 h2=>by omega⟩⟩
omit hG hnF in
theorem Ky {b1 b2:Lac} (hb:∀(i:Nat) (p:Nat×Nat),(b1++b2)[i]?=some p->E.r (nx+i)=some p):
 (∀(i:Nat) (p:Nat×Nat),b1[i]?=some p->E.r (nx+i)=some p)/\∀(i:Nat) (p:Nat×Nat),b2[i]?=some p->E.r (nx+b1.length+i)=some p:=by
 refine⟨λi p hi=>hb i p ?_,λi p hi=>?_⟩
 .grind
 have:=hb (b1.length+i) p (by grind)
 grind
theorem K9:∀{rs:List RC} {us:Lae} {bs:Lac} {nx n:Nat} {cs:List C} {nw:Laa},K8 nx rs=some (cs,nw,n)->GT w G base rs us bs->(∀(i:Nat) (p:Nat×Nat),bs[i]?=some p->E.r (nx+i)=some p)->
 CV E w cs us/\Imp E w nx n bs nw
 |[],us,bs,nx,n,cs,nw,h,hr,hb=>by
  simp[K8] at h;obtain⟨rfl,rfl,rfl⟩:=h
  cases us with
  |nil=>have:bs=[]:=hr;subst this;exact⟨trivial,⟨rfl,by simp,λl h1 h2=>by omega⟩⟩
  |cons _ _=>exact hr.elim
 |r::rs,us,bs,nx,n,cs,nw,h,hr,hb=>by
  cases us with
  |nil=>exact hr.elim
  |cons u us=>
   obtain⟨b1,b2,rfl,hr1,hr2⟩:=hr
   simp only[K8] at h
   split at h
   .rename_i c nw1 n1 h1
    split at h
    .rename_i cs2 nw2 n2 h2
     simp at h;obtain⟨rfl,rfl,rfl⟩:=h
     obtain⟨hb1,hb2⟩:=Ky hb
     obtain⟨k1,k2⟩:=O6 hG hnF h1 hr1 hb1
     have hn1:=k2.1
     subst hn1
     obtain⟨m1,m2⟩:=K9 h2 hr2 hb2
     exact⟨⟨k1,m1⟩,k2.join m2⟩
    cases h
   cases h
theorem O7 {r:RV} {bs:Lac} {v:V} (h:Um nx r=some (v,nw,n)) (hr:rvR w G base r u bs) (hb:∀(i:Nat) (p:Nat×Nat),bs[i]?=some p->E.r (nx+i)=some p):
 cvV E w v u/\Imp E w nx n bs nw:=by
 cases r with
 |c r=>
  simp only[Um] at h
  split at h
  .rename_i h1;simp at h;obtain⟨rfl,rfl,rfl⟩:=h;exact O6 hG hnF h1 hr hb
  cases h
 |agg rs=>
  simp only[Um] at h
  split at h
  .rename_i h1;simp at h;obtain⟨rfl,rfl,rfl⟩:=h
   obtain⟨arr,hu,hr⟩:=hr
   obtain⟨k1,k2⟩:=K9 hG hnF h1 hr hb
   exact⟨⟨arr,hu,k1⟩,k2⟩
  cases h
theorem EY:∀{rs:List RV} {us:Lae} {bs:Lac} {nx n:Nat} {cs:List V} {nw:Laa},La nx rs=some (cs,nw,n)->Dq w G base rs us bs->(∀(i:Nat) (p:Nat×Nat),bs[i]?=some p->E.r (nx+i)=some p)->
 VV E w cs us/\Imp E w nx n bs nw
 |[],us,bs,nx,n,cs,nw,h,hr,hb=>by
  simp[La] at h;obtain⟨rfl,rfl,rfl⟩:=h
  cases us with
  |nil=>have:bs=[]:=hr;subst this;exact⟨trivial,⟨rfl,by simp,λl h1 h2=>by omega⟩⟩
  |cons _ _=>exact hr.elim
 |r::rs,us,bs,nx,n,cs,nw,h,hr,hb=>by
  cases us with
  |nil=>exact hr.elim
  |cons u us=>
   obtain⟨b1,b2,rfl,hr1,hr2⟩:=hr
   simp only[La] at h
   split at h
   .rename_i c nw1 n1 h1
    split at h
    .rename_i cs2 nw2 n2 h2
     simp at h;obtain⟨rfl,rfl,rfl⟩:=h
     obtain⟨hb1,hb2⟩:=Ky hb
     obtain⟨k1,k2⟩:=O7 hG hnF h1 hr1 hb1
     have hn1:=k2.1
     subst hn1
     obtain⟨m1,m2⟩:=EY h2 hr2 hb2
     exact⟨⟨k1,m1⟩,k2.join m2⟩
    cases h
   cases h
theorem yZ {rs:List RV} {bs:Lac} {t:T} (h:EX nx rs=some (t,nw,n)) (hr:As w G base rs u bs) (hb:∀(i:Nat) (p:Nat×Nat),bs[i]?=some p->E.r (nx+i)=some p):
 cvT E w t u/\Imp E w nx n bs nw:=by
 match rs,h,hr with
 |[r],h,hr=>
  simp only[EX] at h
  split at h
  .rename_i h1;simp at h;obtain⟨rfl,rfl,rfl⟩:=h;exact O7 hG hnF h1 hr hb
  cases h
 |[],h,hr=>
  simp only[EX] at h
  split at h
  .rename_i h1;simp at h;obtain⟨rfl,rfl,rfl⟩:=h
   obtain⟨arr,hu,hr⟩:=hr
   obtain⟨k1,k2⟩:=EY hG hnF h1 hr hb
   exact⟨⟨arr,hu,k1⟩,k2⟩
  cases h
 |r1::r2::rs,h,hr=>
  simp only[EX] at h
  split at h
  .rename_i h1;simp at h;obtain⟨rfl,rfl,rfl⟩:=h
   obtain⟨arr,hu,hr⟩:=hr
   obtain⟨k1,k2⟩:=EY hG hnF h1 hr hb
   exact⟨⟨arr,hu,k1⟩,k2⟩
  cases h
end
theorem Vk {G:Nat->Prop} {base:Nat} {r:RC} {bs:Lac} (h:rcR w G base r u bs):∀p∈bs,base<=p.1/\p.1<w.heap.size:=by
 cases r with
 |d x=>obtain⟨rfl,_⟩:=h;simp
 |own ty sz els n=>
  obtain⟨b,c,arr,rfl,_,hh,_,_,_,_,_,_,hb⟩:=h
  grind
 |nil=>obtain⟨rfl,_⟩:=h;simp
theorem PL {w:World} {G:Nat->Prop} {base:Nat}:∀{rs:List RC} {us:Lae} {bs:Lac},GT w G base rs us bs->∀p∈bs,base<=p.1/\p.1<w.heap.size
 |[],[],bs,h=>by have:bs=[]:=h;simp_all
 |r::rs,u::us,bs,h=>λp hp=>by
  obtain⟨b1,b2,rfl,h1,h2⟩:=h
  rcases aae.1 hp with h|h
  .exact Vk h1 p h
  exact PL h2 p h
 |[],_::_,_,h=>h.elim
 |_::_,[],_,h=>h.elim
theorem Vx {G:Nat->Prop} {base:Nat} {r:RV} {bs:Lac} (h:rvR w G base r u bs):∀p∈bs,base<=p.1/\p.1<w.heap.size:=by
 cases r with
 |c r=>exact Vk h
 |agg rs=>obtain⟨_,_,h⟩:=h;exact PL h
theorem JI {w:World} {G:Nat->Prop} {base:Nat}:∀{rs:List RV} {us:Lae} {bs:Lac},Dq w G base rs us bs->∀p∈bs,base<=p.1/\p.1<w.heap.size
 |[],[],bs,h=>by have:bs=[]:=h;simp_all
 |r::rs,u::us,bs,h=>λp hp=>by
  obtain⟨b1,b2,rfl,h1,h2⟩:=h
  rcases aae.1 hp with h|h
  .exact Vx h1 p h
  exact JI h2 p h
 |[],_::_,_,h=>h.elim
 |_::_,[],_,h=>h.elim
theorem JF {G:Nat->Prop} {base:Nat} {rs:List RV} {bs:Lac} (h:As w G base rs u bs):∀p∈bs,base<=p.1/\p.1<w.heap.size:=by
 match rs,h with
 |[r],h=>exact Vx h
 |[],h=>obtain⟨_,_,h⟩:=h;exact JI h
 |_::_::_,h=>obtain⟨_,_,h⟩:=h;exact JI h
section
variable {P:Program} {N:Nat} {d:Tmp} {ty:TypeId} {ps:String} {af:Array Edge} {gd:Option (Nat×Bool)} {st:St}
def Env.after (E:Env) (nx:Nat) (bs:Lac) (G:Nat->Prop):Env:=
 ⟨λo=>if nx<=o/\o<nx+bs.length then bs[o-nx]? else E.r o,λb=>E.F b\/G b,λb=>E.G b\/G b,E.T,E.Z,E.n⟩
theorem Hq {cx:Cx} {bs:Lac} {G:Nat->Prop} (ok:dJ cx E w) (hp:Im w w' (λ_=>False)) (hG:∀b,G b->w.heap.size<=b/\b<w'.heap.size/\jv w' b)
 (hbs:∀p∈bs,w.heap.size<=p.1/\p.1<w'.heap.size) (hnd:(bs.map (·.1)).Nodup) (hfr:∀l,nx<=l->l<nx+bs.length->E.r l=none/\rsv l=false):
 dJ cx (E.after nx bs G) w'/\Ext E w (E.after nx bs G) w':=by
 have hsz:=hp.size
 have hws:=ok.size
 have hnew:∀o b c,(E.after nx bs G).r o=some (b,c)->(nx<=o/\o<nx+bs.length/\bs[o-nx]?=some (b,c))\/(E.r o=some (b,c)):=by
  intro o b c h
  simp only[Env.after] at h
  split at h
  .simp_all
  exact .inr h
 refine⟨⟨λb hb=>?_,λb hb=>?_,λb hb=>?_,λo b c h=>?_,λo o' b c c' h h'=>?_,by rw[hp.os];exact ok.os,by rw[hp.tape];exact ok.tape,by rw[hp.output];exact ok.output,by omega,λb hb hW=>?_,λo x hx h=>?_,λb hb=>hb.elim (ok.ff b) (λh=>.inr (by grind)),
  λb hb hb'=>hb.elim (λh=>(ok.gc b h hb').of_eq (hp.block b (ok.fb b h) (λh=>h))) (λh=>(hG b h).2.2),
  ok.sf.grow rfl rfl (λb hb=>hb.elim .inl (λh=>.inr (hG b h).1)) (λo b c h=>by
   grind) hsz (λb hb=>hp.block b hb (λh=>h))⟩,
  ⟨λo x h=>?_,λb h=>.inl h,λb h=>.inl h,λb h=>?_,λb hb=>hp.block b hb (λh=>h),rfl,rfl,rfl⟩⟩
 .rcases hb with h|h
  .have:=ok.fb b h;omega
  simp_all
 .rcases hb with h|h
  .exact .inl (ok.gf b h)
  exact .inr h
 .rcases hb with h|h
  .exact ok.gn b h
  grind
 .rcases hnew o b c h with⟨_,_,h⟩|h
  .grind
  have:=ok.rb o b c h;grind
 .rcases hnew o b c h with⟨h1,h2,h3⟩|h3<;>rcases hnew o' b c' h' with⟨k1,k2,k3⟩|k3
  .have hi:o-nx<bs.length:=by omega
   have hj:o'-nx<bs.length:=by omega
   rcases Nat.lt_trichotomy (o-nx) (o'-nx) with hlt|heq|hlt
   .exfalso
    have:=aaB.1 hnd (o-nx) (o'-nx) (by simp_all) (by simp_all) hlt
    simp_all
   .omega
   exfalso
   have:=aaB.1 hnd (o'-nx) (o-nx) (by simp_all) (by simp_all) hlt
   simp_all
  .have h5:=hbs _ (aab h3);have h6:=ok.rb o' b c' k3;omega
  .have h5:=hbs _ (aab k3);have h6:=ok.rb o b c h3;omega
  exact ok.inj o o' b c c' h3 k3
 .rw[hp.block b oaa (λh=>h)];exact ok.block b hb hW
 .rcases hnew o x.1 x.2 h with⟨h1,h2,_⟩|h
  .rw[rN (hfr o h1 h2).2] at hx;cases hx
  exact ok.pin o x hx h
 .simp only[Env.after]
  grind
 rcases h with h|h
 .exact .inl h
 simp_all
theorem n_call {f:FuncId} {args:List Operand} {tys:Array TypeId} {ts:List T} {avs:List AV} {eqs:Lac} 
 (hl:ts.length=args.length) (ha:AE nob ts=some (avs,eqs)) (hF:Fn P f avs res) (he:Eqs eqs) (hi:EX nx res=some (out,nw,n)):
 AWN P ⟨some d,.call ⟨.value (.func f),args.toArray,tys⟩,ty,ps,af,gd⟩ (args.zip ts) nob out nw:=by
 intro cx E a w ok hn hb hfr
 have hob:∀l x,go nob l=some x->df E w l x:=λl x h=>hb l x (Af h)
 have hA:=H8 ok hob ha he hl hn
 have hFb:∀b,Ef E nob b->b<w.heap.size:=by
  rintro b ((h|⟨l,x,c,h1,h2⟩)|⟨l,h⟩)
  .exact ok.fb b h
  .exact(ok.rb l b c h2).1
  exact(ok.sf.tb l b h).1.1
 have hc:=hF.calls (Ef E nob) w (args.map a.eval).toArray hFb ok.tabs oaa
 have hent:=hF.enters (args.map a.eval).toArray w
 unfold Oper.wp
 have hrun:(execOp a.eval ⟨some d,.call ⟨.value (.func f),args.toArray,tys⟩,ty,ps,af,gd⟩).run P w= .ok (.enter f (args.map a.eval).toArray) w:=by
  simp only[execOp,resolve,Act.eval,Deferred.ofValue,Sem.run_bind,Sem.run_pure,Result.andThen_ok,invoke]
  simpa using hent
 rw[hrun,Oper.upon_enter]
 refine hc.mono ?_
 rintro e w' ⟨v,G,bs,rfl,hp,hG,hres,hnd⟩
 have hbs:=JF hres
 have hlen:∀l,nx<=l->l<nx+bs.length->E.r l=none/\rsv l=false:=by
  have himp:=yZ (E:=⟨λo=>bs[o-nx]?,G,G,λ_ _=>False,λ_=>False,λ_=>False⟩) (λ_ h=>h) (λb _ h=>h) hi hres (λi p hi=>by simp_all)
  intro l h1 h2
  obtain⟨x,hx⟩:=himp.2.2.2 l h1 (by rw[himp.2.1];exact h2)
  exact hfr l x hx
 obtain⟨ok',ext⟩:=Hq ok hp hG hbs hnd hlen
 have himp:=yZ (E:=E.after nx bs G) (G:=G) (base:=w.heap.size) (λb h=>.inr h) (λb hb hng hF=>by
  rcases hF with h|h
  .have:=ok.fb b h;omega
  simp_all) hi hres (λi p hi=>by
   have:i<bs.length:=(aaa.1 hi).1
   simp only[Env.after];simp_all)
 refine⟨v,E.after nx bs G,rfl,ok',ext,himp.1,λl ob hm=>(himp.2.2.1 l ob hm).1,λl x hx=>?_⟩
 simp only[Env.after] at hx
 split at hx
 .rename_i hh;obtain⟨x,hx⟩:=himp.2.2.2 l hh.1 (by rw[himp.2.1];exact hh.2);grind
 simp_all
structure Inf where
 d:Tmp
 needs:List (Operand×T)
 nob:Laa
 out:T
 nw:Laa
def NS (P:Program) (N:Nat) (o:Oper) (st st':St) (x:Inf):Prop:=
 AWN P o x.needs x.nob x.out x.nw/\o.dst=some x.d/\x.d<N/\Lk st.sl x.needs/\Lo st.ob x.nob/\Nw st.nx x.nw st'.nx/\st'=⟨(x.d,x.out)::st.sl,x.nw++st.ob,st'.nx⟩
theorem dS {o:Oper} {needs:List (Operand×T)} (h:AWN P o needs nob out nw) (hd:o.dst=some d) (hN:nlt d N=true) (hn:Lk st.sl needs) (hb:Lo st.ob nob) (hw:Nw st.nx nw n):
 NS P N o st ⟨(d,out)::st.sl,nw++st.ob,n⟩ ⟨d,needs,nob,out,nw⟩:=⟨h,hd,dt hN,hn,hb,hw,rfl⟩
theorem UX {o:Oper} {st':St} {x:Inf} (h:NS P N o st st' x):AWO P N o st st':=by
 obtain⟨h1,h2,h3,h4,h5,h6,h7⟩:=h
 rw[h7]
 exact MQ h1 h2 h3 h4 h5 h6
theorem tF {ops:Array Oper} {l:List Oper} {o:Oper} {st':St} {x:Inf} {K:St->Prop} (hg:o.guard=none) (h:NS P N o st st' x) (h':AWR P N ops l st' K):AWR P N ops (o::l) st K:=jx hg (UX h) h'
theorem Iw {ops:Array Oper} {l:List Oper} {o:Oper} {st':St} {x:Inf} {K:St->Prop} (hg:o.guard=some (j,b)) (hj:(ops[j]?).bind (·.dst)=some dj) (hdj:nlt dj N=true) (hb:gt st.sl dj=tB b) (h:NS P N o st st' x)
 (h':AWR P N ops l st' K):AWR P N ops (o::l) st K:=mz hg hj (dt hdj) hb (UX h) h'
def DS (P:Program) (N:Nat) (ops:Array Oper) (o:Oper) (st st':St) (x:Inf):Prop:=
 (o.guard=none/\NS P N o st st' x)\/
 (∃j dj b y,o.guard=some (j,b)/\(ops[j]?).bind (·.dst)=some dj/\dj<N/\gt st.sl dj=tB b/\NS P N o st st' y/\x={y with needs:=(.tmp dj,tB b)::y.needs})\/
 (∃j dj b d,o.guard=some (j,b)/\(ops[j]?).bind (·.dst)=some dj/\dj<N/\noG b (gt st.sl dj)=true/\o.dst=some d/\d<N/\x=⟨d,[(.tmp dj,gt st.sl dj)],[],.tup [],[]⟩/\st'=⟨(d,.tup [])::st.sl,st.ob,st.nx⟩)
def uK (s t:St):Prop:=(∀k,gt s.sl k=gt t.sl k)/\s.ob=t.ob/\s.nx=t.nx
def DR (P:Program) (N:Nat) (ops:Array Oper):List Oper->List Inf->St->(List Inf->St->Prop)->Prop
 |[],is,st,K=>K is st
 |o::r,is,st,K=>∃x st1 st',DS P N ops o st st1 x/\uK st1 st'/\DR P N ops r (is++[x]) st' K
section
variable {ops:Array Oper} {l:List Oper} {o:Oper} {st':St} {x:Inf} {K:List Inf->St->Prop} {is:List Inf}
theorem ZK (h:K is st):DR P N ops [] is st K:=h
theorem uK.refl (s:St):uK s s:=⟨λ_=>rfl,rfl,rfl⟩
theorem dr_n (hg:o.guard=none) (h:NS P N o st st' x) (h':DR P N ops l (is++[x]) st' K):DR P N ops (o::l) is st K:=⟨x,st',st',.inl ⟨hg,h⟩,.refl _,h'⟩
theorem YT (hg:o.guard=some (j,b)) (hj:(ops[j]?).bind (·.dst)=some dj) (hdj:nlt dj N=true) (hb:gt st.sl dj=tB b) (h:NS P N o st st' x)
 (h':DR P N ops l (is++[{x with needs:=(.tmp dj,tB b)::x.needs}]) st' K):DR P N ops (o::l) is st K:=⟨_,st',st',.inr (.inl ⟨j,dj,b,x,hg,hj,dt hdj,hb,h,rfl⟩),.refl _,h'⟩
theorem Xg {d:Tmp} (hg:o.guard=some (j,b)) (hj:(ops[j]?).bind (·.dst)=some dj) {t:T} (hdj:nlt dj N=true) (ht:gt st.sl dj=t) (hb:noG b t=true) (hd:o.dst=some d) (hN:nlt d N=true)
 (h':DR P N ops l (is++[⟨d,[(.tmp dj,t)],[],.tup [],[]⟩]) ⟨(d,.tup [])::st.sl,st.ob,st.nx⟩ K):DR P N ops (o::l) is st K:=
 ⟨_,_,_,.inr (.inr ⟨j,dj,b,d,hg,hj,dt hdj,by simp_all,hd,dt hN,by rw[ht],rfl⟩),.refl _,h'⟩
theorem um {d:Tmp} {c:Bool} (hb:gt st.sl d=tB b) (h:b=c):uK st ⟨(d,tB c)::st.sl,st.ob,st.nx⟩:=by
 refine⟨λk=>?_,rfl,rfl⟩
 by_cases hk:d=k
 .subst hk;rw[dR,hb,h]
 rw[c9 _ _ hk]
end
end
theorem s5 {s t:Lab} (h:∀k,gt s k=gt t k) (x:Operand):opT s x=opT t x:=by
 cases x with
 |tmp k=>exact h k
 |const v=>cases v<;>rfl
 |_=>rfl
theorem Ik {s t:Lab} (h:∀k,gt s k=gt t k):∀{l:List (Operand×T)},Lk s l->Lk t l
 |[],_=>trivial
 |(x,v)::r,hl=>⟨by rw[<-s5 h];exact hl.1,Ik h hl.2⟩
section
variable {P:Program} {N:Nat} {ops:Array Oper} {l:List Oper} {o:Oper} {st st' st2:St} {K:List Inf->St->Prop} {is:List Inf}
theorem L1 {t:St} (h:uK s t) (d:Tmp) (v:T) (nw:Laa) (n:Nat):uK ⟨(d,v)::s.sl,nw++s.ob,n⟩ ⟨(d,v)::t.sl,nw++t.ob,n⟩:=by
 refine⟨λk=>?_,by rw[h.2.1],rfl⟩
 by_cases hk:d=k
 .subst hk;rw[dR,dR]
 rw[c9 _ _ hk,c9 _ _ hk];exact h.1 k
theorem uK.trans {a b c:St} (h:uK a b) (k:uK b c):uK a c:=⟨λi=>(h.1 i).trans (k.1 i),h.2.1.trans k.2.1,h.2.2.trans k.2.2⟩
theorem Ps {x:Inf} (h:uK st st2) (hn:NS P N o st2 st' x):∃s',NS P N o st s' x/\uK s' st':=by
 obtain⟨h1,h2,h3,h4,h5,h6,h7⟩:=hn
 refine⟨⟨(x.d,x.out)::st.sl,x.nw++st.ob,st'.nx⟩,⟨h1,h2,h3,Ik (λk=>(h.1 k).symm) h4,by rw[h.2.1];exact h5,by rw[h.2.2];exact h6,rfl⟩,?_⟩
 rw[h7]
 exact L1 h _ _ _ _
theorem OI (h:uK st st2) (hd:DR P N ops (o::l) is st2 K):DR P N ops (o::l) is st K:=by
 obtain⟨x,st1,st',hds,hs,hr⟩:=hd
 rcases hds with⟨hg,hn⟩|⟨j,dj,b,y,hg,hj,hdj,hb,hn,rfl⟩|⟨j,dj,b,d,hg,hj,hdj,hb,hd,hN,rfl,rfl⟩
 .obtain⟨s',k1,k2⟩:=Ps h hn
  exact⟨x,s',st',.inl ⟨hg,k1⟩,k2.trans hs,hr⟩
 .obtain⟨s',k1,k2⟩:=Ps h hn
  exact⟨_,s',st',.inr (.inl ⟨j,dj,b,y,hg,hj,hdj,by rw[h.1];exact hb,k1,rfl⟩),k2.trans hs,hr⟩
 refine⟨_,⟨(d,.tup [])::st.sl,st.ob,st.nx⟩,st',.inr (.inr ⟨j,dj,b,d,hg,hj,hdj,by rw[h.1];exact hb,hd,hN,by rw[h.1],rfl⟩),uK.trans ?_ hs,hr⟩
 have:=L1 h d (.tup []) [] st.nx
 refine⟨this.1,this.2.1,h.2.2⟩
theorem TH {d:Tmp} (hb:gt st.sl d=tB b) (h1:b=true->DR P N ops (o::l) is ⟨(d,tB true)::st.sl,st.ob,st.nx⟩ K) (h0:b=false->DR P N ops (o::l) is ⟨(d,tB false)::st.sl,st.ob,st.nx⟩ K):DR P N ops (o::l) is st K:=by
 cases hc:b with
 |true=>exact OI (um hb hc) (h1 hc)
 |false=>exact OI (um hb hc) (h0 hc)
end
def js:List (Operand×T)->List Nat
 |[]=>[]
 |(.tmp k,_)::r=>k::js r
 |_::r=>js r
def anc (ops:Array Oper):Nat->Nat->Nat->Bool
 |0,_,_=>false
 |n+1,i,j=>match ops[i]? with
  |none=>false
  |some o=>o.after.toList.any λe=>Region.binds .any e&&(d0 e.on j||anc ops n e.on j)
def u7 (is:List Inf) (k:Nat):Option Nat:=is.findIdx? λx=>d0 x.d k
def UC (is:List Inf) (l:Nat):Option Nat:=is.findIdx? λx=>x.nw.any λp=>d0 p.1 l
def sM:List Inf->Bool
 |[]=>true
 |x::xs=>!(xs.any λy=>d0 x.d y.d)&&sM xs
def Ad (ops:Array Oper) (is:List Inf) (nx:Nat):Bool:=
 d0 is.length ops.size&&sM is&&
 (f5 is.length).all λi=>match is[i]?,ops[i]? with
  |some x,some o=>
   (o.after.toList.all λe=>!Region.binds .any e||nlt e.on i)&&
   ((js x.needs).all λk=>match u7 is k with
    |none=>true
    |some j=>if nlt j i then anc ops is.length i j else d0 i j||anc ops is.length j i)&&
   (x.nob.all λp=>nlt p.1 nx||match UC is p.1 with
    |none=>false
    |some j=>anc ops is.length i j)
  |_,_=>false
def after (base:St):List Inf->Lab×Laa
 |is=>(is.foldl (λs x=>(x.d,x.out)::s) base.sl,is.foldl (λs x=>x.nw++s) base.ob)
def vL (base:St) (is:List Inf):Lab:=is.foldl (λs x=>(x.d,x.out)::s) base.sl
def GS (base:St) (is:List Inf):Laa:=is.foldl (λs x=>x.nw++s) base.ob
theorem zo (base:St) (is:List Inf) (x:Inf):vL base (is++[x])=(x.d,x.out)::vL base is:=by simp[vL]
theorem HH (base:St) (is:List Inf) (x:Inf):GS base (is++[x])=x.nw++GS base is:=by simp[GS]
def Zu (P:Program) (N:Nat) (ops:Array Oper) (base:St) (pre:List Inf) (o:Oper) (x:Inf):Prop:=
 (∀y t,(y,t)∈x.needs->opT (vL base pre) y=t)/\(∀l ob,(l,ob)∈x.nob->go (GS base pre) l=some ob)/\o.dst=some x.d/\x.d<N/\
 ((o.guard=none/\AWN P o x.needs x.nob x.out x.nw)\/
  (∃j dj b ys,o.guard=some (j,b)/\(ops[j]?).bind (·.dst)=some dj/\dj<N/\x.needs=(.tmp dj,tB b)::ys/\AWN P o ys x.nob x.out x.nw)\/
  (∃j dj b t,o.guard=some (j,b)/\(ops[j]?).bind (·.dst)=some dj/\dj<N/\x.needs=[(.tmp dj,t)]/\noG b t=true/\x.out= .tup []/\x.nw=[]))
def fF (nx:Nat):List Inf->Nat->Prop
 |[],n=>n=nx
 |x::xs,n=>∃m,Nw nx x.nw m/\fF m xs n
theorem fF.snoc {x:Inf}:∀{is:List Inf} {nx n m:Nat},fF nx is n->Nw n x.nw m->fF nx (is++[x]) m
 |[],nx,n,m,h,h'=>by have:n=nx:=h;subst this;exact⟨m,h',rfl⟩
 |y::ys,nx,n,m,⟨k,h1,h2⟩,h'=>⟨k,h1,fF.snoc h2 h'⟩
theorem OJ {P:Program} {N:Nat} {ops:Array Oper} {base:St} {K:List Inf->St->Prop}:∀{l:List Oper} {is:List Inf} {st:St},DR P N ops l is st K->(∀k,gt st.sl k=gt (vL base is) k)->st.ob=GS base is->fF base.nx is st.nx->
 ∃xs st',xs.length=l.length/\(∀(i:Nat) (o:Oper) (x:Inf),l[i]?=some o->xs[i]?=some x->Zu P N ops base (is++xs.take i) o x)/\fF base.nx (is++xs) st'.nx/\(∀k,gt st'.sl k=gt (vL base (is++xs)) k)/\st'.ob=GS base (is++xs)/\K (is++xs) st'
 |[],is,st,h,h1,h2,h3=>⟨[],st,rfl,by simp,by simp_all,by simp_all,by simp_all,by simpa [DR] using h⟩
 |o::l,is,st,⟨x,st1,st2,hds,hsame,hr⟩,h1,h2,h3=>by
  have hput:∀(out:T) (nw:Laa) (n:Nat),x.out=out->x.nw=nw->st1=⟨(x.d,out)::st.sl,nw++st.ob,n⟩->Nw st.nx nw n->((∀k,gt st2.sl k=gt (vL base (is++[x])) k)/\st2.ob=GS base (is++[x]))/\fF base.nx (is++[x]) st2.nx:=by
   rintro out nw n rfl rfl rfl hnw
   refine⟨⟨λk=>?_,?_⟩,?_⟩
   .rw[<-hsame.1 k,zo]
    by_cases hk:x.d=k
    .rw[hk,dR,dR]
    rw[c9 _ _ hk,c9 _ _ hk];exact h1 k
   .rw[<-hsame.2.1,HH,h2]
   rw[<-hsame.2.2];exact h3.snoc hnw
  have key:Zu P N ops base is o x/\((∀k,gt st2.sl k=gt (vL base (is++[x])) k)/\st2.ob=GS base (is++[x]))/\fF base.nx (is++[x]) st2.nx:=by
   rcases hds with⟨hg,k1,k2,k3,k4,k5,k6,k7⟩|⟨j,dj,b,y,hg,hj,hdj,hb,⟨k1,k2,k3,k4,k5,k6,k7⟩,rfl⟩|⟨j,dj,b,d,hg,hj,hdj,hb,hd,hN,rfl,rfl⟩
   .exact⟨⟨λy t hm=>by rw[<-s5 h1];exact Lk.mem k4 y t hm,λl' ob hm=>by rw[<-h2];exact Lo.mem k5 l' ob hm,k2,k3,.inl ⟨hg,k1⟩⟩,hput _ _ _ rfl rfl k7 k6⟩
   .refine⟨⟨λy' t hm=>?_,λl' ob hm=>by rw[<-h2];exact Lo.mem k5 l' ob hm,k2,k3,.inr (.inl ⟨j,dj,b,y.needs,hg,hj,hdj,rfl,k1⟩)⟩,hput _ _ _ rfl rfl k7 k6⟩
    rw[<-s5 h1]
    rcases aaf.1 hm with e|hm
    .cases e;exact hb
    exact Lk.mem k4 y' t hm
   refine⟨⟨λy' t hm=>?_,by simp,hd,hN,.inr (.inr ⟨j,dj,b,_,hg,hj,hdj,rfl,hb,rfl,rfl⟩)⟩,hput (.tup []) [] st.nx rfl rfl rfl rfl⟩
   rw[<-s5 h1]
   simp at hm;obtain⟨rfl,rfl⟩:=hm;rfl
  obtain⟨hT,⟨m1,m2⟩,m3⟩:=key
  obtain⟨xs,st',n1,n2,n3,n4,n5,n6⟩:=OJ hr m1 m2 m3
  refine⟨x::xs,st',by simp[n1],λi o' x' hi hx=>?_,by simp_all,by simp_all,by simp_all,by simp_all⟩
  cases i with
  |zero=>simp_all
  |succ i=>simp_all
theorem J2 {p:List α->Prop} (h0:p []) (h1:∀l x,p l->p (l++[x])) (l:List α):p l:=by
 have key:∀l:List α,p l.reverse:=by
  intro l
  induction l with
  |nil=>exact h0
  |cons x l ih=>simp_all
 have:=key l.reverse
 simp_all
theorem sE {ops:Array Oper} {listed:Array Bool} (hc:∀i o,ops[i]?=some o->listed.getD i false=true->∀e∈o.after,Region.binds .any e=true->listed.getD e.on false=true):
 ∀(n i j:Nat),anc ops n i j=true->(∃o,ops[i]?=some o/\∀e∈o.after,Region.binds .any e=true->listed.getD e.on false=true)->listed.getD j false=true
 |0,i,j,h,_=>by simp[anc] at h
 |n+1,i,j,h,⟨o,ho,hd⟩=>by
  simp only[anc,ho,aax,hV,aan] at h
  obtain⟨e,he,hb,h⟩:=h
  have hl:=hd e (by simp_all) hb
  rcases h with h|h
  .rw[<-aad h];exact hl
  cases ho':ops[e.on]? with
  |none=>cases n<;>simp[anc,ho'] at h
  |some o'=>exact sE hc n e.on j h ⟨o',ho',hc e.on o' ho' hl⟩
theorem sN:∀{is:List Inf},sM is=true->∀(i j:Nat) (x y:Inf),is[i]?=some x->is[j]?=some y->x.d=y.d->i=j
 |[],_,i,j,x,y,h,_,_=>by simp at h
 |z::is,h,i,j,x,y,hi,hj,he=>by
  simp only[sM,hV,aaw] at h
  have hno:∀(k:Nat) (v:Inf),is[k]?=some v->z.d≠v.d:=λk v hk e=>by
   have:(is.any λy=>d0 z.d y.d)=true:=aax.2 ⟨v,aab hk,by simp[e]⟩
   grind
  cases i with
  |zero=>
   grind
  |succ i=>
   cases j with
   |zero=>grind
   |succ j=>have:=sN h.2 i j x y (by simp_all) (by simp_all) he;omega
theorem zn {base:St}:∀(is:List Inf) (k:Nat),(∀x∈is,x.d≠k)->gt (vL base is) k=gt base.sl k:=by
 intro is
 refine J2 (p:=λis=>∀(k:Nat),(∀x∈is,x.d≠k)->gt (vL base is) k=gt base.sl k) ?_ ?_ is
 .intro k _;rfl
 intro is x ih k h
 rw[zo,c9 _ _ (h x (by simp))]
 simp_all
theorem wU {base:St}:∀(is:List Inf) (i:Nat) (x:Inf),is[i]?=some x->(∀(j:Nat) (y:Inf),is[j]?=some y->y.d=x.d->j=i)->gt (vL base is) x.d=x.out:=by
 intro is
 refine J2 (p:=λis=>∀(i:Nat) (x:Inf),is[i]?=some x->(∀(j:Nat) (y:Inf),is[j]?=some y->y.d=x.d->j=i)->gt (vL base is) x.d=x.out) ?_ ?_ is
 .simp_all
 intro is z ih i x h hu
 rw[zo]
 by_cases hi:i<is.length
 .rw[aaq hi] at h
  have hz:z.d≠x.d:=λe=>by
   simp_all
  rw[c9 _ _ hz]
  exact ih i x h λj y hj he=>hu j y (by grind) he
 rw[aao oaa] at h
 have:i-is.length=0:=by
  rcases Nat.eq_zero_or_pos (i-is.length) with h0|h0
  .exact h0
  grind
 rw[this] at h;simp at h;subst h
 exact dR _ _ _
theorem OW {base:St}:∀(is:List Inf) (l:Nat) (ob:Ob),go (GS base is) l=some ob->(∃(j:Nat) (x:Inf),is[j]?=some x/\(l,ob)∈x.nw)\/go base.ob l=some ob:=by
 intro is
 refine J2 (p:=λis=>∀(l:Nat) (ob:Ob),go (GS base is) l=some ob->(∃(j:Nat) (x:Inf),is[j]?=some x/\(l,ob)∈x.nw)\/go base.ob l=some ob) ?_ ?_ is
 .intro l ob h;exact .inr h
 intro is z ih l ob h
 rw[HH] at h
 rcases Cc h with h|h
 .exact .inl ⟨is.length,z,by simp,h⟩
 rcases ih l ob h with⟨j,x,h1,h2⟩|h
 .exact .inl ⟨j,x,by grind,h2⟩
 simp_all
theorem lF:∀{is:List Inf} {nx n:Nat},fF nx is n->nx<=n/\∀(j:Nat) (x:Inf) (l:Nat) (ob:Ob),is[j]?=some x->(l,ob)∈x.nw->nx<=l/\l<n
 |[],nx,n,h=>⟨by have:n=nx:=h;omega,by simp⟩
 |y::ys,nx,n,⟨m,h1,h2⟩=>by
  obtain⟨a1,a2⟩:=Nw.mem h1
  obtain⟨b1,b2⟩:=lF h2
  grind
theorem Pu:∀{nw:Laa} {nx n:Nat},Nw nx nw n->∀l x y,(l,x)∈nw->(l,y)∈nw->x=y
 |[],_,_,_,l,x,y,h,_=>by simp at h
 |(k,z)::r,nx,n,h,l,x,y,h1,h2=>by
  rw[Nw] at h
  have hr:=(Nw.mem h.2).2
  rcases aaf.1 h1 with e1|h1<;>rcases aaf.1 h2 with e2|h2
  .simp_all
  .grind
  .grind
  exact Pu h.2 l x y h1 h2
theorem E7:∀{is:List Inf} {nx n:Nat},fF nx is n->∀(j:Nat) (x:Inf) (l:Nat) (ob:Ob),is[j]?=some x->(l,ob)∈x.nw->rsv l=false
 |[],_,_,_,_,_,_,_,h,_=>by simp at h
 |y::ys,nx,n,⟨m,h1,h2⟩,0,x,l,ob,hx,hm=>by
  simp at hx;subst hx
  exact((Nw.mem h1).2 l ob hm).2.2
 |y::ys,nx,n,⟨m,h1,h2⟩,j+1,x,l,ob,hx,hm=>E7 h2 j x l ob (by simp_all) hm
theorem y4:∀{is:List Inf} {nx n:Nat},fF nx is n->∀(j j':Nat) (x x':Inf) (l:Nat) (ob ob':Ob),is[j]?=some x->is[j']?=some x'->(l,ob)∈x.nw->(l,ob')∈x'.nw->j=j'/\ob=ob'
 |[],nx,n,h,j,j',x,x',l,ob,ob',h1,_,_,_=>by simp at h1
 |y::ys,nx,n,⟨m,h1,h2⟩,j,j',x,x',l,ob,ob',hj,hj',hm,hm'=>by
  have a2:=(Nw.mem h1).2
  have b2:=(lF h2).2
  cases j with
  |zero=>
   cases j' with
   |zero=>simp at hj hj';subst hj;subst hj';exact⟨rfl,Pu h1 l ob ob' hm hm'⟩
   |succ j'=>grind
  |succ j=>
   cases j' with
   |zero=>grind
   |succ j'=>have:=y4 h2 j j' x x' l ob ob' (by simp_all) (by simp_all) hm hm';simp_all
structure Inv (P:Program) (N:Nat) (cx:Cx) (base:St) (is:List Inf) (listed:Array Bool) (a:Act) (w:World) (E:Env):Prop where
 ok:dJ cx E w
 dom:∀l x,E.r l=some x->l<base.nx\/∃j y ob,listed.getD j false=true/\is[j]?=some y/\(l,ob)∈y.nw
 obs:∀l ob,go base.ob l=some ob->df E w l ob
 new:∀j y l ob,listed.getD j false=true->is[j]?=some y->(l,ob)∈y.nw->df E w l ob
 out:∀j y,listed.getD j false=true->is[j]?=some y->cvT E w y.out (a.tmps.getD y.d undef)
 old:∀k,(∀j y,listed.getD j false=true->is[j]?=some y->y.d≠k)->cvT E w (gt base.sl k) (a.tmps.getD k undef)
 dfr:a.defers=[]
 size:a.tmps.size=N
 td:∀l b,E.T l b->l<base.nx
theorem cY {listed:Array Bool} (hi:i<listed.size):(listed.setIfInBounds i true).getD j false=if i=j then true else listed.getD j false:=by
 by_cases h:i=j
 .simp_all
 simp_all
section
variable {P:Program} {N:Nat} {cx:Cx} {ops:Array Oper} {base:St} {is:List Inf} {Q:Exit->Act->World->Prop}
theorem Uq {listed:Array Bool} (hI:Inv P N cx base is listed a w E) {nmax:Nat} (hlab:fF base.nx is nmax) (hdst:sM is=true) {x:Inf} (hx:is[i]?=some x) (hil:i<listed.size)
 (hun:listed.getD i false=false) (hdN:x.d<N) {v:Value} (ok':dJ cx E' w') (ext:Ext E w E' w') (hv:cvT E' w' x.out v) (hnw:∀l ob,(l,ob)∈x.nw->df E' w' l ob)
 (hdom:∀l y,E'.r l=some y->E.r l=some y\/∃ob,(l,ob)∈x.nw):Inv P N cx base is (listed.setIfInBounds i true) (a.put (some x.d) v) w' E':=by
 have hk:=kQ.of_ext hI.ok ext
 have hd':∀j y,is[j]?=some y->j≠i->y.d≠x.d:=λj y hj hne he=>hne (sN hdst j i y x hj hx he)
 refine⟨ok',λl y hl=>?_,λl ob hl=>Cq hI.ok ext (hI.obs l ob hl),λj y l ob hj hy hm=>?_,λj y hj hy=>?_,λk hkk=>?_,hI.dfr,by simpa [Act.put] using hI.size,λl b h=>hI.td l b (by rw[<-ext.T];exact h)⟩
 .rcases hdom l y hl with h|⟨ob,h⟩
  .rcases hI.dom l y h with h|⟨j,z,ob,h1,h2,h3⟩
   .exact .inl h
   refine .inr ⟨j,z,ob,?_,h2,h3⟩
   rw[cY hil];simp_all
  exact .inr ⟨i,x,ob,by simp_all,hx,h⟩
 .by_cases hji:i=j
  .simp_all
  rw[cY hil,if_neg hji] at hj;exact Cq hI.ok ext (hI.new j y l ob hj hy hm)
 .by_cases hji:i=j
  .subst hji;rw[hx] at hy;cases hy
   rw[iv (by rw[hI.size];exact hdN),if_pos rfl];exact hv
  rw[cY hil,if_neg hji] at hj
  rw[iv (by rw[hI.size];exact hdN),if_neg (Ne.symm (hd' j y hy (Ne.symm hji)))]
  exact kF hk (hI.out j y hj hy)
 have hxk:x.d≠k:=hkk i x (by simp_all) hx
 rw[iv (by rw[hI.size];exact hdN),if_neg hxk]
 refine kF hk (hI.old k λj y hj hy=>hkk j y ?_ hy)
 rw[cY hil];simp_all
theorem Oq (hN:is.length=ops.size) {nmax:Nat} (hlab:fF base.nx is nmax) (hdst:sM is=true) (hbk:∀l ob,go base.ob l=some ob->l<base.nx)
 (hedge:∀i o,ops[i]?=some o->∀e∈o.after,Region.binds .any e=true->e.on<i)
 (hslot:∀i x,is[i]?=some x->∀k∈js x.needs,∀j,u7 is k=some j->if nlt j i then anc ops is.length i j=true else(i=j\/anc ops is.length j i=true))
 (hobj:∀i x,is[i]?=some x->∀p∈x.nob,p.1<base.nx\/∃j,UC is p.1=some j/\anc ops is.length i j=true)
 (htold:∀(i:Nat) (o:Oper) (x:Inf),ops[i]?=some o->is[i]?=some x->Zu P N ops base (is.take i) o x)
 (hfin:∀listed a w E,(∀j,j<ops.size->listed.getD j false=true)->Inv P N cx base is listed a w E->Q .normal a w):
 ∀(fuel:Nat) (listed:Array Bool) (a:Act) (w:World) (E:Env),listed.size=ops.size->((f5 ops.size).filter λi=>!listed.getD i false).length=fuel->
  (∀i o,ops[i]?=some o->listed.getD i false=true->∀e∈o.after,Region.binds .any e=true->listed.getD e.on false=true)->Inv P N cx base is listed a w E->wpAny P .any ops Q fuel listed a w:=by
 have hall:∀(listed:Array Bool),((f5 ops.size).filter λi=>!listed.getD i false).length=0->∀j,j<ops.size->listed.getD j false=true:=by
  intro listed h j hj
  have:=aaQ h
  have h2:=List.filter_eq_nil_iff.1 this j (by simp_all)
  simpa using h2
 intro fuel
 induction fuel with
 |zero=>
  intro listed a w E hsz hc hcl hI
  have hal:=hall listed hc
  refine⟨?_,hfin listed a w E hal hI⟩
  rw[List.eq_nil_iff_forall_not_mem]
  intro i hi
  obtain⟨h1,o,h2,h3⟩:=mem_ready.1 hi
  grind
 |succ fuel ih=>
  intro listed a w E hsz hc hcl hI
  refine⟨λh0=>?_,λi hi=>?_⟩
  .
    exfalso
    have hex:∃i,i<ops.size/\listed.getD i false=false:=by
     have:((f5 ops.size).filter λi=>!listed.getD i false)≠[]:=λe=>by grind
     obtain⟨i,hi⟩:=List.exists_mem_of_ne_nil _ this
     simp only[List.mem_filter,List.mem_range,aaw] at hi
     exact⟨i,hi.1,hi.2⟩
    have hmin:∀n i,i<=n->i<ops.size->listed.getD i false=false->∃i,i∈Region.ready .any ops listed:=by
     intro n
     induction n using aa6 with
     |_ n ihn=>
      intro i hin his hif
      by_cases hd:∀e∈ops[i].after,Region.binds .any e=true->listed.getD e.on false=true
      .refine⟨i,mem_ready.2 ⟨?_,ops[i],aaA his,hd⟩⟩
       grind
      simp only[Classical.not_forall] at hd
      obtain⟨e,he,hb,hne⟩:=hd
      have hlt:=hedge i ops[i] (aaA his) e he hb
      exact ihn e.on oaa e.on (aah _) oaa (by grind)
    obtain⟨i,h1,h2⟩:=hex
    obtain⟨j,hj⟩:=hmin i i (aah _) h1 h2
    grind
  obtain⟨h1,o,ho,hd⟩:=mem_ready.1 hi
  have hio:i<ops.size:=by
   rcases aat i ops.size with h|h
   .exact h
   grind
  have hun:listed.getD i false=false:=by
   rw[Array.getD_eq_getD_getElem?,aaA oaa] at h1 ⊢
   simpa using h1
  obtain⟨x,hx⟩:∃x,is[i]?=some x:=⟨_,v0 oaa⟩
  obtain⟨t1,t2,t3,t4,t5⟩:=htold i o x ho hx
  have hanc:∀j,anc ops is.length i j=true->listed.getD j false=true:=λj hj=>sE hcl _ i j hj ⟨o,ho,hd⟩
  have hneeds:∀y t,(y,t)∈x.needs->cvT E w t (a.eval y):=by
   intro y t hm
   have ht:=t1 y t hm
   cases y with
   |tmp k=>
    have hks:k∈js x.needs:=by
     have key:∀(l:List (Operand×T)),(Operand.tmp k,t)∈l->k∈js l:=by
      intro l
      induction l with
      |nil=>grind
      |cons p r ihl=>
       intro h
       rcases aaf.1 h with e|h
       .rw[<-e];simp[js]
       have h9:=ihl h;obtain⟨z,u⟩:=p;cases z<;>simp[js,h9]
     exact key _ hm
    show cvT E w t (a.tmps.getD k undef)
    have ht':gt (vL base (is.take i)) k=t:=ht
    cases hw:u7 is k with
    |none=>
     have hno:∀z∈is,z.d≠k:=by
      intro z hz e
      have:=aa0.1 hw z hz
      rw[e] at this;simp at this
     rw[zn _ _ (λz hz=>hno z (aas hz))] at ht'
     rw[<-ht']
     exact hI.old k λj y _ hy=>hno y (aab hy)
    |some j=>
     have hs:=hslot i x hx k hks j hw
     obtain⟨hjl,hjp,_⟩:=aaW.1 hw
     have hjd:is[j].d=k:=aad hjp
     have hju:∀j' y,is[j']?=some y->y.d=k->j'=j:=λj' y hy he=>sN hdst j' j y is[j] hy (v0 hjl) (by rw[he,hjd])
     by_cases hji:j<i
     .rw[if_pos (by simp[nlt];omega)] at hs
      have hdone:=hanc j hs
      have:=hI.out j is[j] hdone (v0 hjl)
      rw[hjd] at this
      have h9:=wU (base:=base) (is.take i) j is[j] (by grind) (λj' y hy he=>hju j' y (by grind) (by rw[he,hjd]))
      grind
     rw[if_neg (by simp[nlt];omega)] at hs
     rw[zn _ _ (λz hz e=>by
      obtain⟨j',hj'⟩:=aal hz
      grind)] at ht'
     rw[<-ht']
     refine hI.old k λj' y hj' hy he=>?_
     have hjj:=hju j' y hy he
     subst hjj
     rcases hs with rfl|hs
     .grind
     have:listed.getD i false=true:=sE hcl _ j' i hs (by
      grind)
     grind
   |const v=>have:=(show Rel N cx E ⟨[],[],base.nx⟩ a w->cvT E w (opT [] (.const v)) (a.eval (.const v)) from λh=>h.op _);rw[<-ht];cases v<;>simp only[opT,Act.eval,cvT,cvV]<;>first|exact yP E w _|exact⟨_,rfl,u9 E w _⟩|(simp only[cvC,rdD])
   |func f=>rw[<-ht];rfl
   |global g=>rw[<-ht];trivial
  have hnob:∀l ob,(l,ob)∈x.nob->df E w l ob:=by
   intro l ob hm
   have hgo:=t2 l ob hm
   rcases OW _ _ _ hgo with⟨j,y,hj,hy⟩|h
   .rw[aaH] at hj
    split at hj
    .rename_i hji
     have hlr:=(lF hlab).2 j y l ob hj hy
     rcases hobj i x hx (l,ob) hm with h|⟨j',hj',hanc'⟩
     .omega
     obtain⟨hjl,hjp,_⟩:=aaW.1 hj'
     obtain⟨p,hp1,hp2⟩:=aax.1 hjp
     obtain⟨pl,pob⟩:=p
     have hpl:pl=l:=aad hp2
     subst hpl
     have:=y4 hlab j j' y is[j'] pl ob pob hj (v0 hjl) hy hp1
     exact hI.new j y pl ob (by grind) hj hy
    cases hj
   exact hI.obs l ob h
  have hfresh:∀l ob,(l,ob)∈x.nw->E.r l=none:=by
   intro l ob hm
   cases hr:E.r l with
   |none=>rfl
   |some p=>
    have hlr:=(lF hlab).2 i x l ob hx hm
    rcases hI.dom l p hr with h|⟨j,y,ob',h1,h2,h3⟩
    .omega
    have:=(y4 hlab i j x y l ob ob' hx h2 hm h3).1
    grind
  have hnext:∀v E' w',dJ cx E' w'->Ext E w E' w'->cvT E' w' x.out v->(∀l ob,(l,ob)∈x.nw->df E' w' l ob)->(∀l y,E'.r l=some y->E.r l=some y\/∃ob,(l,ob)∈x.nw)->
   wpAny P .any ops Q fuel (listed.setIfInBounds i true) (a.put (some x.d) v) w':=by
   intro v E' w' k1 k2 k3 k4 k5
   refine ih _ _ _ E' (by grind) ?_ ?_ (Uq hI hlab hdst hx oaa hun t4 k1 k2 k3 k4 k5)
   .
     have hcount:∀(l:List Nat),l.Nodup->i∈l->(l.filter λk=>!listed.getD k false).length=(l.filter λk=>!(listed.setIfInBounds i true).getD k false).length+1:=by
      intro l
      induction l with
      |nil=>grind
      |cons k l ihl=>
       intro hnd hm
       obtain⟨hk1,hk2⟩:=aaY.1 hnd
       by_cases hki:i=k
       .subst hki
        have hsame:(l.filter λk=>!listed.getD k false)=(l.filter λk=>!(listed.setIfInBounds i true).getD k false):=by
         apply List.filter_congr
         intro z hz
         rw[cY oaa,if_neg (λe=>hk1 (by grind))]
        rw[List.filter_cons_of_pos (by grind),List.filter_cons_of_neg (by rw[cY oaa,if_pos rfl];simp),hsame,aak]
       have hml:i∈l:=by rcases aaf.1 hm with e|e;exact absurd e hki;exact e
       have:=ihl hk2 hml
       have hgk:(listed.setIfInBounds i true).getD k false=listed.getD k false:=by rw[cY oaa,if_neg hki]
       cases hgd:listed.getD k false with
       |true=>grind
       |false=>grind
     have:=hcount (f5 ops.size) List.nodup_range (by grind)
     omega
   intro j oj hj hdj e he hb
   rw[cY oaa]
   split
   .rfl
   rw[cY oaa] at hdj
   split at hdj
   .grind
   grind
  have hrun:∀needs,(∀y t,(y,t)∈needs->cvT E w t (a.eval y))->AWN P o needs x.nob x.out x.nw->o.wp P a w (wpAny P .any ops Q fuel (listed.setIfInBounds i true)) Q:=by
   intro needs hne hawn
   refine tz (λ_ _ _ h=>h.elim) (Oper.wp_mono ?_ (hawn cx E a w hI.ok hne hnob (λl ob hm=>⟨hfresh l ob hm,E7 hlab i x l ob hx hm⟩)))
   rintro a' w' ⟨v,E',rfl,k1,k2,k3,k4,k5⟩
   rw[t3]
   exact hnext v E' w' k1 k2 k3 k4 k5
  have hguard:∀j dj (b:Bool),(ops[j]?).bind (·.dst)=some dj->dj<N->cvT E w (tB b) (a.eval (.tmp dj))->yielded ops a.tmps j=some b:=by
   intro j dj b hj hdj hcv
   have hb:a.tmps.getD dj undef= .bool b:=by simpa [cvT,cvV,cvC,rdD,Act.eval] using hcv
   have hs:dj<a.tmps.size:=by rw[hI.size];exact hdj
   have h2:a.tmps[dj]?=some (.bool b):=by
    rw[aaA hs];simpa [aa1,hs] using hb
   unfold yielded
   cases ho':ops[j]? with
   |none=>grind
   |some o'=>grind
  unfold wpOp
  simp only[ho]
  rcases t5 with⟨hg,hawn⟩|⟨j,dj,b,ys,hg,hj,hdj,hnd,hawn⟩|⟨j,dj,b,t,hg,hj,hdj,hnd,hno,hout,hnw⟩
  .rw[if_pos (by simp[Region.wanted,hg])]
   grind
  .have hy:=hguard j dj b hj hdj (hneeds (.tmp dj) (tB b) (by grind))
   rw[if_pos (by simp[Region.wanted,hg,hy])]
   grind
  have hy:=Gq (N:=N) (ops:=ops) (hneeds (.tmp dj) t (by grind)) (by rw[hI.size];exact hdj) hj hno
  rw[if_neg (by simp[Region.wanted,hg,hy]),t3]
  exact hnext undef E w hI.ok (Ext.refl E w) (by rw[hout];exact⟨#[],rfl,trivial⟩) (by grind) (λ_ _ h=>.inl h)
end
theorem iX (n i:Nat):(aai n false).getD i false=false:=by
 by_cases h:i<n<;>simp[h]
theorem Bu {cx:Cx} (hR:Rel N cx E st a w):Rel N cx E st a {w with drawn:=w.drawn+1}:=by
 have hk:kQ E w E {w with drawn:=w.drawn+1}:=⟨λ_ _ h=>h,λ_ _ h=>h,λ_ _ _=>rfl,λ_ _ h=>⟨h,rfl⟩,λ_ h=>⟨h,.of_eq rfl⟩,rfl⟩
 exact⟨⟨hR.ok.fb,hR.ok.gf,hR.ok.gn,hR.ok.rb,hR.ok.inj,hR.ok.os,hR.ok.tape,hR.ok.output,hR.ok.size,hR.ok.block,hR.ok.pin,hR.ok.ff,λb h h'=>(hR.ok.gc b h h').of_eq rfl,hR.ok.sf.grow rfl rfl (λ_ h=>.inl h) (λo b c h=>.inl ⟨o,c,h⟩) (aah _) (λ_ _=>rfl)⟩,hR.dom,λl ob h=>gN hk (λ_ _ _=>rfl) (λ_ _ _ h=>h) (hR.obs l ob h),λk=>kF hk (hR.sl k),hR.dfr,hR.size,hR.td⟩
def U0 (n:Nat):Laa->Bool
 |[]=>true
 |(l,_)::r=>nlt l n&&U0 n r
theorem Px {n:Nat}:∀{ob:Laa} {l:Nat} {x:Ob},U0 n ob=true->go ob l=some x->l<n
 |(k,v)::r,l,x,h,hg=>by
  simp only[U0,hV] at h
  by_cases hk:k=l
  .subst hk;exact dt h.1
  rw[b7 _ _ hk] at hg;exact Px h.2 hg
theorem Tf {l:List Oper} {AQ:Exit->St->Prop} (hm:P.follows .mixedOrders=true:=by exact Try.follows) (hol:U0 st.nx st.ob=true:=by exact rfl)
 (h:DR P N l.toArray l [] st (λis s=>Ad l.toArray is st.nx=true/\AQ .normal s)):AWC P N (.region id l.toArray true) st AQ:=by
 intro cx E a w hR
 obtain⟨is,st',n1,n2,n3,n4,n5,n6,n7⟩:=OJ (base:=st) h (λ_=>rfl) rfl rfl
 simp only[List.nil_append] at n2 n3 n4 n5 n6
 simp only[Ad,hV] at n6
 obtain⟨⟨c1,c2⟩,c3⟩:=n6
 have hlen:is.length=l.toArray.size:=by simpa using n1
 have hall:∀(i:Nat) (x:Inf) (o:Oper),is[i]?=some x->l.toArray[i]?=some o->(∀e∈o.after,Region.binds .any e=true->e.on<i)/\
  (∀k∈js x.needs,∀j,u7 is k=some j->if nlt j i then anc l.toArray is.length i j=true else(i=j\/anc l.toArray is.length j i=true))/\
  (∀p∈x.nob,p.1<st.nx\/∃j,UC is p.1=some j/\anc l.toArray is.length i j=true):=by
  intro i x o hx ho
  have hil:i<is.length:=(aaa.1 hx).1
  have:=aag.1 c3 i (by simp_all)
  simp only[hx,ho,hV,aag] at this
  obtain⟨⟨k1,k2⟩,k3⟩:=this
  refine⟨λe he hb=>?_,λk hk j hj=>?_,λp hp=>?_⟩
  .have:=k1 e (by simp_all);simp only[hb,Bool.not_true,aaC] at this;exact dt this
  .have:=k2 k hk
   simp_all
  have:=k3 p hp
  simp only[aan] at this
  rcases this with h|h
  .exact .inl (dt h)
  grind
 have hop:∀i x,is[i]?=some x->∃o,l.toArray[i]?=some o:=λi x hx=>⟨_,aaA (by grind)⟩
 have hix:∀(i:Nat) (o:Oper),l.toArray[i]?=some o->∃x,is[i]?=some x:=λi o ho=>⟨_,v0 (by
  grind)⟩
 refine wp_region_any hm ?_
 have hR':=Bu hR
 refine Oq (P:=P) (N:=N) (cx:=cx) (base:=st) (is:=is) hlen n3 c2 ?_ ?_ ?_ ?_ ?_ ?_ _ _ _ _ E (by simp) ?_ ?_ ?_
 .intro i ob h;exact Px hol h
 .grind
 .grind
 .grind
 .grind
 .intro listed a' w' E' hdone hI
  refine⟨E',st',⟨hI.ok,λl' x' hl=>?_,λl' ob hl=>?_,λk=>?_,hI.dfr,hI.size,λl' b' h'=>aay (hI.td l' b' h') (lF n3).1⟩,n7⟩
  .have hr:=lF n3
   rcases hI.dom l' x' hl with h|⟨j,y,ob,_,h2,h3⟩
   .omega
   grind
  .rw[n5] at hl
   rcases OW _ _ _ hl with⟨j,x',hj,hx'⟩|h
   .exact hI.new j x' l' ob (hdone j (by grind)) hj hx'
   exact hI.obs l' ob h
  rw[n4 k]
  cases hw:u7 is k with
  |none=>
   have hno:∀z∈is,z.d≠k:=by
    intro z hz e
    have:=aa0.1 hw z hz
    rw[e] at this;simp at this
   rw[zn _ _ hno]
   exact hI.old k λj y _ hy=>hno y (aab hy)
  |some j=>
   obtain⟨hjl,hjp,_⟩:=aaW.1 hw
   have hjd:is[j].d=k:=aad hjp
   have:=hI.out j is[j] (hdone j oaa) (v0 hjl)
   have h9:=wU (base:=st) is j is[j] (v0 hjl) (λj' y hy he=>sN c2 j' j y is[j] hy (v0 hjl) he)
   grind
 .rw[List.filter_eq_self.2]
  .simp
  intro i hi;rw[iX];rfl
 .intro i o ho hd;rw[iX] at hd;cases hd
 refine⟨hR'.ok,λl' x' hl=>.inl (hR'.dom l' x' hl),hR'.obs,(λj y l' ob hd=>by rw[iX] at hd;cases hd),(λj y hd=>by rw[iX] at hd;cases hd),λk _=>hR'.sl k,hR'.dfr,hR'.size,hR'.td⟩
def nxt (nx:Nat):Option Nat:=bif rsv nx then none else some (nx+1)
theorem pB {ob:Ob} (h:nxt nx=some nx'):Nw nx [(nx,ob)] nx':=by
 unfold nxt at h
 cases hr:rsv nx with
 |true=>simp_all
 |false=>rw[hr] at h;exact⟨⟨rfl,hr⟩,(Option.some.inj h).symm⟩
theorem Kc {n:Int} (h: -9223372036854775808<=n/\n<=9223372036854775807):IntKind.i64.wrap n=n:=by rw[IntKind.wrap_i64];omega
section
variable {P:Program} {N:Nat} {d:Tmp} {ty:TypeId} {ps:String} {af:Array Edge} {gd:Option (Nat×Bool)} {x y z:Operand} {sl:Lab} {ob:Laa} {nx:Nat}
abbrev NS0 (P:Program) (N:Nat) (o:Oper) (sl:Lab) (ob:Laa) (nx:Nat) (d:Tmp) (out:T) (x:Inf):Prop:=NS P N o ⟨sl,ob,nx⟩ ⟨(d,out)::sl,ob,nx⟩ x
theorem mv1 {c:C} (h:opT sl x= .v (.c c)) (hN:nlt d N=true):NS0 P N ⟨some d,.move x,ty,ps,af,gd⟩ sl ob nx d (.v (.c c)) ⟨d,[(x,.v (.c c))],[],.v (.c c),[]⟩:=dS (st:=⟨sl,ob,nx⟩) Nq rfl hN ⟨h,trivial⟩ trivial rfl
theorem mv2 {c:List C} (h:opT sl x= .v (.agg c)) (hN:nlt d N=true):NS0 P N ⟨some d,.move x,ty,ps,af,gd⟩ sl ob nx d (.v (.agg c)) ⟨d,[(x,.v (.agg c))],[],.v (.agg c),[]⟩:=dS (st:=⟨sl,ob,nx⟩) Nq rfl hN ⟨h,trivial⟩ trivial rfl
theorem mv3 {c:List V} (h:opT sl x= .tup c) (hN:nlt d N=true):NS0 P N ⟨some d,.move x,ty,ps,af,gd⟩ sl ob nx d (.tup c) ⟨d,[(x,.tup c)],[],.tup c,[]⟩:=dS (st:=⟨sl,ob,nx⟩) Nq rfl hN ⟨h,trivial⟩ trivial rfl
theorem as1 {c:C} (h:opT sl x= .v (.c c)) (hN:nlt d N=true):NS0 P N ⟨some d,.assign x,ty,ps,af,gd⟩ sl ob nx d (.v (.c c)) ⟨d,[(x,.v (.c c))],[],.v (.c c),[]⟩:=dS (st:=⟨sl,ob,nx⟩) Ff rfl hN ⟨h,trivial⟩ trivial rfl
theorem as2 {c:List C} (h:opT sl x= .v (.agg c)) (hN:nlt d N=true):NS0 P N ⟨some d,.assign x,ty,ps,af,gd⟩ sl ob nx d (.v (.agg c)) ⟨d,[(x,.v (.agg c))],[],.v (.agg c),[]⟩:=dS (st:=⟨sl,ob,nx⟩) Ff rfl hN ⟨h,trivial⟩ trivial rfl
theorem as3 {c:List V} (h:opT sl x= .tup c) (hN:nlt d N=true):NS0 P N ⟨some d,.assign x,ty,ps,af,gd⟩ sl ob nx d (.tup c) ⟨d,[(x,.tup c)],[],.tup c,[]⟩:=dS (st:=⟨sl,ob,nx⟩) Ff rfl hN ⟨h,trivial⟩ trivial rfl
theorem pk1 {c:C} (h:opT sl x= .v (.c (.d g (.b true)))) (hy:opT sl y= .v (.c c)) (hN:nlt d N=true):NS0 P N ⟨some d,.pick x y z,ty,ps,af,gd⟩ sl ob nx d (.v (.c c)) ⟨d,[(x,.v (.c (.d g (.b true)))),(y,.v (.c c))],[],.v (.c c),[]⟩:=dS (st:=⟨sl,ob,nx⟩) Lt rfl hN ⟨h,hy,trivial⟩ trivial rfl
theorem pk0 {c:C} (h:opT sl x= .v (.c (.d g (.b false)))) (hz:opT sl z= .v (.c c)) (hN:nlt d N=true):NS0 P N ⟨some d,.pick x y z,ty,ps,af,gd⟩ sl ob nx d (.v (.c c)) ⟨d,[(x,.v (.c (.d g (.b false)))),(z,.v (.c c))],[],.v (.c c),[]⟩:=dS (st:=⟨sl,ob,nx⟩) Jt rfl hN ⟨h,hz,trivial⟩ trivial rfl
theorem io {op:BinOp} {k:IntKind} {a b:Int} {r:D} (hx:opT sl x= .v (.c (.d g (.i k a)))) (hy:opT sl y= .v (.c (.d g' (.i k b)))) (hN:nlt d N=true) (h:Uo op k a b=some r):
 NS0 P N ⟨some d,.binOp op t x y t',ty,ps,af,gd⟩ sl ob nx d (.v (.c (.d false r))) ⟨d,[(x,.v (.c (.d g (.i k a)))),(y,.v (.c (.d g' (.i k b))))],[],.v (.c (.d false r)),[]⟩:=dS (st:=⟨sl,ob,nx⟩) (n_int h) rfl hN ⟨hx,hy,trivial⟩ trivial rfl
theorem iqT {k:IntKind} {a b:Int} (hx:opT sl x= .v (.c (.d g (.i k a)))) (hy:opT sl y= .v (.c (.d g' (.i k b)))) (hN:nlt d N=true) (he:decide (a=b)=true):
 NS0 P N ⟨some d,.binOp .eql t x y t',ty,ps,af,gd⟩ sl ob nx d (.v (.c (.d false (.b true)))) ⟨d,[(x,.v (.c (.d g (.i k a)))),(y,.v (.c (.d g' (.i k b))))],[],.v (.c (.d false (.b true))),[]⟩:=io hx hy hN (by show some (D.b (eqB a b))=_;simp_all)
theorem iqF {k:IntKind} {a b:Int} (hx:opT sl x= .v (.c (.d g (.i k a)))) (hy:opT sl y= .v (.c (.d g' (.i k b)))) (hN:nlt d N=true) (he:decide (a=b)=false):
 NS0 P N ⟨some d,.binOp .eql t x y t',ty,ps,af,gd⟩ sl ob nx d (.v (.c (.d false (.b false)))) ⟨d,[(x,.v (.c (.d g (.i k a)))),(y,.v (.c (.d g' (.i k b))))],[],.v (.c (.d false (.b false))),[]⟩:=io hx hy hN (by show some (D.b (eqB a b))=_;simp_all)
theorem is {a b:Int} (hx:opT sl x= .v (.c (.d g (.i .i64 a)))) (hy:opT sl y= .v (.c (.d g' (.i .i64 b)))) (hN:nlt d N=true) (h: -9223372036854775808<=a-b/\a-b<=9223372036854775807):
 NS0 P N ⟨some d,.binOp .sub t x y t',ty,ps,af,gd⟩ sl ob nx d (tI (a-b)) ⟨d,[(x,.v (.c (.d g (.i .i64 a)))),(y,.v (.c (.d g' (.i .i64 b))))],[],tI (a-b),[]⟩:=by
 have:=io (P:=P) (N:=N) (d:=d) (ty:=ty) (ps:=ps) (af:=af) (gd:=gd) (ob:=ob) (nx:=nx) (t:=t) (t':=t') (op:=.sub) hx hy hN rfl
 rwa [Kc h] at this
theorem ir {k:IntKind} {a b:Int} (hx:opT sl x= .v (.c (.d g (.i k a)))) (hy:opT sl y= .v (.c (.d g' (.i k b)))) (hN:nlt d N=true) (h:b≠0):
 NS0 P N ⟨some d,.binOp .rem t x y t',ty,ps,af,gd⟩ sl ob nx d (.v (.c (.d false (.i k (a.tmod b))))) ⟨d,[(x,.v (.c (.d g (.i k a)))),(y,.v (.c (.d g' (.i k b))))],[],.v (.c (.d false (.i k (a.tmod b)))),[]⟩:=dS (st:=⟨sl,ob,nx⟩) (n_rem h) rfl hN ⟨hx,hy,trivial⟩ trivial rfl
theorem iq {k:IntKind} {a b:Int} (hx:opT sl x= .v (.c (.d g (.i k a)))) (hy:opT sl y= .v (.c (.d g' (.i k b)))) (hN:nlt d N=true) (h:b≠0):
 NS0 P N ⟨some d,.binOp .quo t x y t',ty,ps,af,gd⟩ sl ob nx d (.v (.c (.d false (.i k (k.wrap (a.tdiv b)))))) ⟨d,[(x,.v (.c (.d g (.i k a)))),(y,.v (.c (.d g' (.i k b))))],[],.v (.c (.d false (.i k (k.wrap (a.tdiv b))))),[]⟩:=dS (st:=⟨sl,ob,nx⟩) (n_quo h) rfl hN ⟨hx,hy,trivial⟩ trivial rfl
theorem se {a b:ByteArray} (hx:opT sl x= .v (.c (.d g (.str a)))) (hy:opT sl y= .v (.c (.d g' (.str b)))) (hN:nlt d N=true):
 NS0 P N ⟨some d,.binOp .eql t x y t',ty,ps,af,gd⟩ sl ob nx d (tB (strB a b)) ⟨d,[(x,.v (.c (.d g (.str a)))),(y,.v (.c (.d g' (.str b))))],[],tB (strB a b),[]⟩:=dS (st:=⟨sl,ob,nx⟩) UQ rfl hN ⟨hx,hy,trivial⟩ trivial rfl
theorem sn {a b:ByteArray} (hx:opT sl x= .v (.c (.d g (.str a)))) (hy:opT sl y= .v (.c (.d g' (.str b)))) (hN:nlt d N=true):
 NS0 P N ⟨some d,.binOp .neq t x y t',ty,ps,af,gd⟩ sl ob nx d (tB (!strB a b)) ⟨d,[(x,.v (.c (.d g (.str a)))),(y,.v (.c (.d g' (.str b))))],[],tB (!strB a b),[]⟩:=dS (st:=⟨sl,ob,nx⟩) UR rfl hN ⟨hx,hy,trivial⟩ trivial rfl
theorem un (hx:opT sl x= .v (.c (.d g (.b b)))) (hN:nlt d N=true):NS0 P N ⟨some d,.unOp .not t x,ty,ps,af,gd⟩ sl ob nx d (tB (!b)) ⟨d,[(x,.v (.c (.d g (.b b))))],[],tB (!b),[]⟩:=dS (st:=⟨sl,ob,nx⟩) n_not rfl hN ⟨hx,trivial⟩ trivial rfl
theorem ng {k:IntKind} {n:Int} (hx:opT sl x= .v (.c (.d g (.i k n)))) (hN:nlt d N=true):NS0 P N ⟨some d,.unOp .neg t x,ty,ps,af,gd⟩ sl ob nx d (.v (.c (.d false (.i k (k.wrap (0-n)))))) ⟨d,[(x,.v (.c (.d g (.i k n))))],[],.v (.c (.d false (.i k (k.wrap (0-n))))),[]⟩:=dS (st:=⟨sl,ob,nx⟩) n_neg rfl hN ⟨hx,trivial⟩ trivial rfl
theorem cv {ds:TypeDesc} {k k':IntKind} {n:Int} [TyU P t ds] [TyU P t' (.int k')] (hx:opT sl x= .v (.c (.d g (.i k n)))) (hN:nlt d N=true):
 NS0 P N ⟨some d,.convert t t' x,ty,ps,af,gd⟩ sl ob nx d (.v (.c (.d false (.i k' (k'.wrap n))))) ⟨d,[(x,.v (.c (.d g (.i k n))))],[],.v (.c (.d false (.i k' (k'.wrap n)))),[]⟩:=dS (st:=⟨sl,ob,nx⟩) n_conv rfl hN ⟨hx,trivial⟩ trivial rfl
theorem ex {ts:List V} {v:V} (hx:opT sl x= .tup ts) (hN:nlt d N=true) (h:ts[i]?=some v):NS0 P N ⟨some d,.extract x i,ty,ps,af,gd⟩ sl ob nx d (.v v) ⟨d,[(x,.tup ts)],[],.v v,[]⟩:=dS (st:=⟨sl,ob,nx⟩) (Q6 h) rfl hN ⟨hx,trivial⟩ trivial rfl
theorem nc {o:Nat} (hx:opT sl x= .v (.c (.p o k))) (hN:nlt d N=true):NS0 P N ⟨some d,.nilCheck x,ty,ps,af,gd⟩ sl ob nx d (.v (.c (.p o k))) ⟨d,[(x,.v (.c (.p o k)))],[],.v (.c (.p o k)),[]⟩:=dS (st:=⟨sl,ob,nx⟩) Js rfl hN ⟨hx,trivial⟩ trivial rfl
theorem lw {o:Nat} [ei P t e sz by_] (hx:opT sl x= .v (.c (.w o n))) (hN:nlt d N=true):NS0 P N ⟨some d,.call ⟨.builtin .len,#[x],#[t]⟩,ty,ps,af,gd⟩ sl ob nx d (tI n) ⟨d,[(x,.v (.c (.w o n)))],[],tI n,[]⟩:=dS (st:=⟨sl,ob,nx⟩) XP rfl hN ⟨hx,trivial⟩ trivial rfl
theorem ls {o zz:Nat} [ei P t e sz by_] (hx:opT sl x= .v (.c (.s o zz off n))) (hN:nlt d N=true):NS0 P N ⟨some d,.call ⟨.builtin .len,#[x],#[t]⟩,ty,ps,af,gd⟩ sl ob nx d (tI n) ⟨d,[(x,.v (.c (.s o zz off n)))],[],tI n,[]⟩:=dS (st:=⟨sl,ob,nx⟩) XO rfl hN ⟨hx,trivial⟩ trivial rfl
theorem ld {xs:Lad} [ei P t e sz by_] (hx:opT sl x= .v (.c (.d g (.l xs)))) (hN:nlt d N=true):NS0 P N ⟨some d,.call ⟨.builtin .len,#[x],#[t]⟩,ty,ps,af,gd⟩ sl ob nx d (tI xs.length) ⟨d,[(x,.v (.c (.d g (.l xs))))],[],tI xs.length,[]⟩:=dS (st:=⟨sl,ob,nx⟩) XN rfl hN ⟨hx,trivial⟩ trivial rfl
theorem ln [ei P t e sz by_] (hx:opT sl x= .v (.c .nil)) (hN:nlt d N=true):NS0 P N ⟨some d,.call ⟨.builtin .len,#[x],#[t]⟩,ty,ps,af,gd⟩ sl ob nx d (tI 0) ⟨d,[(x,.v (.c .nil))],[],tI 0,[]⟩:=dS (st:=⟨sl,ob,nx⟩) Rd rfl hN ⟨hx,trivial⟩ trivial rfl
theorem Z9 {s:ByteArray} [TyU P t .string] (hx:opT sl x= .v (.c (.d g (.str s)))) (hN:nlt d N=true):NS0 P N ⟨some d,.call ⟨.builtin .len,#[x],#[t]⟩,ty,ps,af,gd⟩ sl ob nx d (tI s.size) ⟨d,[(x,.v (.c (.d g (.str s))))],[],tI s.size,[]⟩:=dS (st:=⟨sl,ob,nx⟩) Re rfl hN ⟨hx,trivial⟩ trivial rfl
theorem fp {o k':Nat} [TyF P t f off ft] (hx:opT sl x= .v (.c (.p o k))) (hN:nlt d N=true) (hk:k+off=k'):NS0 P N ⟨some d,.fieldAddr t x f,ty,ps,af,gd⟩ sl ob nx d (.v (.c (.p o k'))) ⟨d,[(x,.v (.c (.p o k)))],[],.v (.c (.p o k')),[]⟩:=by
 subst hk;exact dS (st:=⟨sl,ob,nx⟩) Q8 rfl hN ⟨hx,trivial⟩ trivial rfl
theorem fe {o j':Nat} [TyF P t f off ft] (hx:opT sl x= .v (.c (.e o sz i j))) (hN:nlt d N=true) (hk:j+off=j'):NS0 P N ⟨some d,.fieldAddr t x f,ty,ps,af,gd⟩ sl ob nx d (.v (.c (.e o sz i j'))) ⟨d,[(x,.v (.c (.e o sz i j)))],[],.v (.c (.e o sz i j')),[]⟩:=by
 subst hk;exact dS (st:=⟨sl,ob,nx⟩) Q7 rfl hN ⟨hx,trivial⟩ trivial rfl
theorem fq {e:List D} {j':Nat} [TyF P t f off ft] (hx:opT sl x= .v (.c (.q g e j))) (hN:nlt d N=true) (hk:j+off=j'):NS0 P N ⟨some d,.fieldAddr t x f,ty,ps,af,gd⟩ sl ob nx d (.v (.c (.q g e j'))) ⟨d,[(x,.v (.c (.q g e j)))],[],.v (.c (.q g e j')),[]⟩:=by
 subst hk;exact dS (st:=⟨sl,ob,nx⟩) Q9 rfl hN ⟨hx,trivial⟩ trivial rfl
theorem xw {o:Nat} {i:Int} [ei P t e sz by_] (hx:opT sl x= .v (.c (.w o n))) (hy:opT sl y= .v (.c (.d g (.i kd i)))) (hN:nlt d N=true) (h0:0<=i) (h1:i<n):
 NS0 P N ⟨some d,.indexAddr t x y,ty,ps,af,gd⟩ sl ob nx d (.v (.c (.e o sz i.toNat 0))) ⟨d,[(x,.v (.c (.w o n))),(y,.v (.c (.d g (.i kd i))))],[],.v (.c (.e o sz i.toNat 0)),[]⟩:=dS (st:=⟨sl,ob,nx⟩) (HD h0 h1) rfl hN ⟨hx,hy,trivial⟩ trivial rfl
theorem xs {o:Nat} {i:Int} [ei P t e sz by_] (hx:opT sl x= .v (.c (.s o sz off n))) (hy:opT sl y= .v (.c (.d g (.i kd i)))) (hN:nlt d N=true) (h0:0<=i) (h1:i<n):
 NS0 P N ⟨some d,.indexAddr t x y,ty,ps,af,gd⟩ sl ob nx d (.v (.c (.e o sz (off+i.toNat) 0))) ⟨d,[(x,.v (.c (.s o sz off n))),(y,.v (.c (.d g (.i kd i))))],[],.v (.c (.e o sz (off+i.toNat) 0)),[]⟩:=dS (st:=⟨sl,ob,nx⟩) (Rc h0 h1) rfl hN ⟨hx,hy,trivial⟩ trivial rfl
theorem xd {xs:Lad} {i:Int} [ei P t e sz by_] (hx:opT sl x= .v (.c (.d g (.l xs)))) (hy:opT sl y= .v (.c (.d g' (.i kd i)))) (hN:nlt d N=true) (h0:0<=i) (he:xs[i.toNat]?=some el)
 (hs:∀e∈xs,e.length=sz):NS0 P N ⟨some d,.indexAddr t x y,ty,ps,af,gd⟩ sl ob nx d (.v (.c (.q g el 0))) ⟨d,[(x,.v (.c (.d g (.l xs)))),(y,.v (.c (.d g' (.i kd i))))],[],.v (.c (.q g el 0)),[]⟩:=dS (st:=⟨sl,ob,nx⟩) (Rb h0 he hs) rfl hN ⟨hx,hy,trivial⟩ trivial rfl
theorem op {o:Nat} {c:C} [jw P t] (hx:opT sl x= .v (.c (.p o k))) (ho:go ob o=some (.var vt cs)) (hN:nlt d N=true) (hc:cs[k]?=some c):
 NS0 P N ⟨some d,.load t x,ty,ps,af,gd⟩ sl ob nx d (.v (.c c)) ⟨d,[(x,.v (.c (.p o k)))],[(o,.var vt cs)],.v (.c c),[]⟩:=dS (st:=⟨sl,ob,nx⟩) (UN hc) rfl hN ⟨hx,trivial⟩ ⟨ho,trivial⟩ rfl
theorem opa {o:Nat} {r:List C} [g7 P t n] (hx:opT sl x= .v (.c (.p o k))) (ho:go ob o=some (.var vt cs)) (hN:nlt d N=true) (hc:Bo k n cs=some r):
 NS0 P N ⟨some d,.load t x,ty,ps,af,gd⟩ sl ob nx d (.v (.agg r)) ⟨d,[(x,.v (.c (.p o k)))],[(o,.var vt cs)],.v (.agg r),[]⟩:=dS (st:=⟨sl,ob,nx⟩) (GP hc) rfl hN ⟨hx,trivial⟩ ⟨ho,trivial⟩ rfl
theorem oq {e:List D} {c:C} [jw P t] (hx:opT sl x= .v (.c (.q g e j))) (hN:nlt d N=true) (hc:ld1 g j e=some c):
 NS0 P N ⟨some d,.load t x,ty,ps,af,gd⟩ sl ob nx d (.v (.c c)) ⟨d,[(x,.v (.c (.q g e j)))],[],.v (.c c),[]⟩:=dS (st:=⟨sl,ob,nx⟩) (Rh hc) rfl hN ⟨hx,trivial⟩ trivial rfl
theorem oqa {e:List D} [g7 P t n] (hx:opT sl x= .v (.c (.q g e j))) (hN:nlt d N=true) (hc:GL g j n e=some cs):
 NS0 P N ⟨some d,.load t x,ty,ps,af,gd⟩ sl ob nx d (.v (.agg cs)) ⟨d,[(x,.v (.c (.q g e j)))],[],.v (.agg cs),[]⟩:=dS (st:=⟨sl,ob,nx⟩) (GQ hc) rfl hN ⟨hx,trivial⟩ trivial rfl
theorem oe {o:Nat} {rt:TypeId} {c:C} [jw P t] (hx:opT sl x= .v (.c (.e o sz i j)):=by exact rfl) (ho:go ob o=some (.row rt sz els g m):=by exact rfl) (hN:nlt d N=true:=by exact rfl) (he:els[i]?=some el) (hc:ld1 g j el=some c:=by exact rfl):
 NS0 P N ⟨some d,.load t x,ty,ps,af,gd⟩ sl ob nx d (.v (.c c)) ⟨d,[(x,.v (.c (.e o sz i j)))],[(o,.row rt sz els g m)],.v (.c c),[]⟩:=dS (st:=⟨sl,ob,nx⟩) (HE he hc) rfl hN ⟨hx,trivial⟩ ⟨ho,trivial⟩ rfl
theorem oea {o:Nat} {rt:TypeId} [g7 P t n] (hx:opT sl x= .v (.c (.e o sz i j)):=by exact rfl) (ho:go ob o=some (.row rt sz els g m):=by exact rfl) (hN:nlt d N=true:=by exact rfl) (he:els[i]?=some el) (hc:GL g j n el=some cs:=by exact rfl):
 NS0 P N ⟨some d,.load t x,ty,ps,af,gd⟩ sl ob nx d (.v (.agg cs)) ⟨d,[(x,.v (.c (.e o sz i j)))],[(o,.row rt sz els g m)],.v (.agg cs),[]⟩:=dS (st:=⟨sl,ob,nx⟩) (zM he hc) rfl hN ⟨hx,trivial⟩ ⟨ho,trivial⟩ rfl
theorem fv {c:C} [TyF P t f off ft] [jw P ft] (hx:opT sl x= .v (.agg cs)) (hN:nlt d N=true) (hc:cs[off]?=some c):NS0 P N ⟨some d,.field t x f,ty,ps,af,gd⟩ sl ob nx d (.v (.c c)) ⟨d,[(x,.v (.agg cs))],[],.v (.c c),[]⟩:=dS (st:=⟨sl,ob,nx⟩) (UK hc) rfl hN ⟨hx,trivial⟩ trivial rfl
theorem fva {r:List C} [TyF P t f off ft] [g7 P ft n] (hx:opT sl x= .v (.agg cs)) (hN:nlt d N=true) (hc:Bo off n cs=some r):NS0 P N ⟨some d,.field t x f,ty,ps,af,gd⟩ sl ob nx d (.v (.agg r)) ⟨d,[(x,.v (.agg cs))],[],.v (.agg r),[]⟩:=dS (st:=⟨sl,ob,nx⟩) (GN hc) rfl hN ⟨hx,trivial⟩ trivial rfl
abbrev NS1 (P:Program) (N:Nat) (o:Oper) (sl:Lab) (ob:Laa) (nx nx':Nat) (d:Tmp) (out:T) (nb:Ob) (x:Inf):Prop:=NS P N o ⟨sl,ob,nx⟩ ⟨(d,out)::sl,(nx,nb)::ob,nx'⟩ x
theorem al {zs:List C} [TyZ P t zs] (hN:nlt d N=true) (hq:nxt nx=some nx'):NS1 P N ⟨some d,.alloc t,ty,ps,af,gd⟩ sl ob nx nx' d (.v (.c (.p nx 0))) (.var t zs) ⟨d,[],[],.v (.c (.p nx 0)),[(nx,.var t zs)]⟩:=dS (st:=⟨sl,ob,nx⟩) XK rfl hN trivial trivial (pB hq)
theorem ba (hx:opT sl x= .v (.agg cs)) (hN:nlt d N=true) (hq:nxt nx=some nx'):NS1 P N ⟨some d,.box t x,ty,ps,af,gd⟩ sl ob nx nx' d (.v (.c (.p nx 0))) (.var t cs) ⟨d,[(x,.v (.agg cs))],[],.v (.c (.p nx 0)),[(nx,.var t cs)]⟩:=dS (st:=⟨sl,ob,nx⟩) Q5 rfl hN ⟨hx,trivial⟩ trivial (pB hq)
theorem bc {c:C} (hx:opT sl x= .v (.c c)) (hN:nlt d N=true) (hs:c.sto=true) (hq:nxt nx=some nx'):NS1 P N ⟨some d,.box t x,ty,ps,af,gd⟩ sl ob nx nx' d (.v (.c (.p nx 0))) (.var t [c]) ⟨d,[(x,.v (.c c))],[],.v (.c (.p nx 0)),[(nx,.var t [c])]⟩:=dS (st:=⟨sl,ob,nx⟩) (XL hs) rfl hN ⟨hx,trivial⟩ trivial (pB hq)
def Nx (sl:Lab):List Operand->Option (List V)
 |[]=>some []
 |x::xs=>match opT sl x,Nx sl xs with
  | .v v,some vs=>some (v::vs)
  |_,_=>none
theorem DE {sl:Lab}:∀{xs:List Operand} {vs:List V},Nx sl xs=some vs->vs.length=xs.length/\Lk sl (xs.zip (vs.map T.v))
 |[],vs,h=>by simp[Nx] at h;subst h;exact⟨rfl,trivial⟩
 |x::xs,vs,h=>by
  simp only[Nx] at h
  split at h
  .rename_i v vs' h1 h2
   simp at h;subst h
   obtain⟨k1,k2⟩:=DE h2
   exact⟨by simp[k1],h1,k2⟩
  cases h
theorem bd {zs:List C} {pl:Lac} {parts:List (Nat×Operand)} [TyZ P t zs] [TyB P t pl] (hv:Nx sl (parts.map (·.2))=some vs) (h:Ed pl zs ((parts.map (·.1)).zip vs)=some cs) (hN:nlt d N=true):
 NS0 P N ⟨some d,.build t parts.toArray,ty,ps,af,gd⟩ sl ob nx d (.v (.agg cs)) ⟨d,(parts.map (·.2)).zip (vs.map T.v),[],.v (.agg cs),[]⟩:=by
 obtain⟨h1,h2⟩:=DE hv
 exact dS (st:=⟨sl,ob,nx⟩) (Pp (by simp_all) h) rfl hN h2 trivial rfl
theorem bs {len:Nat} {parts:List (Nat×Operand)} [ei P t e sz by_] (hv:Nx sl (parts.map (·.2))=some vs) (he:vsD vs=some (els,g)) (hs:Uz sz els=true)
 (hlen:len=parts.length) (hi:parts.map (·.1)=f5 len) (h24:aar (len*sz) 16777216=true) (hN:nlt d N=true) (hq:nxt nx=some nx'):
 NS1 P N ⟨some d,.buildSlice t len parts.toArray,ty,ps,af,gd⟩ sl ob nx nx' d (.v (.c (.w nx len))) (.row e sz els g true) ⟨d,(parts.map (·.2)).zip (vs.map T.v),[],.v (.c (.w nx len)),[(nx,.row e sz els g true)]⟩:=by
 obtain⟨h1,h2⟩:=DE hv
 exact dS (st:=⟨sl,ob,nx⟩) (Jm hlen (by simp_all) hi he hs (aaF h24)) rfl hN h2 trivial (pB hq)
theorem mk {zd:List D} {k k':IntKind} {c:Int} [ei P t e sz by_] [TyE P e zd] (hx:opT sl x= .v (.c (.d g (.i k n)))) (hy:opT sl y= .v (.c (.d g' (.i k' c)))) (hN:nlt d N=true)
 (hc:n<=c) (hb:(by_:Int)*c<=281474976710656) (h63:c<=9223372036854775807) (hq:nxt nx=some nx'):
 NS1 P N ⟨some d,.makeSlice t x y,ty,ps,af,gd⟩ sl ob nx nx' d (.v (.c (.w nx n))) (.row e sz (aac n zd) true true) ⟨d,[(x,.v (.c (.d g (.i k n)))),(y,.v (.c (.d g' (.i k' c))))],[],.v (.c (.w nx n)),[(nx,.row e sz (aac n zd) true true)]⟩:=
 dS (st:=⟨sl,ob,nx⟩) (n_make hc hb h63) rfl hN ⟨hx,hy,trivial⟩ trivial (pB hq)
def zx (sl:Lab):List Operand->Option (List T)
 |[]=>some []
 |x::xs=>match opT sl x,zx sl xs with
  | .v (.c c),some vs=>some (.v (.c c)::vs)
  | .v (.agg cs),some vs=>some (.v (.agg cs)::vs)
  |_,_=>none
theorem ub {sl:Lab}:∀{xs:List Operand} {ts:List T},zx sl xs=some ts->ts.length=xs.length/\Lk sl (xs.zip ts)
 |[],vs,h=>by simp[zx] at h;subst h;exact⟨rfl,trivial⟩
 |x::xs,vs,h=>by
  simp only[zx] at h
  split at h
  .rename_i c vs' h1 h2
   simp at h;subst h
   obtain⟨k1,k2⟩:=ub h2
   exact⟨by simp[k1],h1,k2⟩
  .rename_i c vs' h1 h2
   simp at h;subst h
   obtain⟨k1,k2⟩:=ub h2
   exact⟨by simp[k1],h1,k2⟩
  cases h
def Lw (nx:Nat):Laa->Nat->Bool
 |[],n=>d0 n nx
 |(l,_)::r,n=>(d0 l nx&&!rsv l)&&Lw (nx+1) r n
theorem DD:∀{nw:Laa} {nx n:Nat},Lw nx nw n=true->Nw nx nw n
 |[],nx,n,h=>aad h
 |(l,x)::r,nx,n,h=>by
  simp only[Lw,hV,aaw] at h
  exact⟨⟨aad h.1.1,h.1.2⟩,DD h.2⟩
def apO {α:Type}:List α->List α->Option (List α)
 |[],l=>some l
 |x::xs,l=>match apO xs l with|some r=>some (x::r)|none=>none
theorem xy {α:Type}:∀{xs l r:List α},apO xs l=some r->r=xs++l
 |[],l,r,h=>by simp[apO] at h;subst h;rfl
 |x::xs,l,r,h=>by
  simp only[apO] at h
  split at h
  .rename_i q h1;simp at h;subst h;rw[xy h1];rfl
  cases h
theorem ca {f:FuncId} {args:List Operand} {tys:Array TypeId} {ts:List T} {avs:List AV} {eqs:Lac} 
 (ht:zx sl args=some ts:=by exact rfl) (hp:vp ob (Li ts)=some nob:=by exact rfl) (ha:AE nob ts=some (avs,eqs):=by exact rfl) (hF:Fn P f avs res) (he:Eqs eqs:=by repeat (first|exact trivial|refine⟨by first|rfl|exact lm _|simp,?_⟩)) (hi:EX nx res=some (out,nw,n):=by exact rfl) (hw:Lw nx nw n=true:=by exact rfl) (hN:nlt d N=true:=by exact rfl) (hob:apO nw ob=some ob':=by exact rfl):
 NS P N ⟨some d,.call ⟨.value (.func f),args.toArray,tys⟩,ty,ps,af,gd⟩ ⟨sl,ob,nx⟩ ⟨(d,out)::sl,ob',n⟩ ⟨d,args.zip ts,nob,out,nw⟩:=by
 obtain⟨h1,h2⟩:=ub ht
 rw[xy hob]
 exact dS (st:=⟨sl,ob,nx⟩) (n_call h1 ha hF he hi) rfl hN h2 (vq hp) (DD hw)
theorem sp {o:Nat} {cs' ns:List C} {v:V} [TyN P t n] (hx:opT sl x= .v (.c (.p o k))) (hy:opT sl y= .v v) (ho:go ob o=some (.var vt cs)) (hv:vcs v=some ns)
 (hn:d0 ns.length n=true) (hst:ns.all C.sto=true) (hs:u5 k ns cs=some cs'):AWO P N ⟨none,.store t x y,ty,ps,af,gd⟩ ⟨sl,ob,nx⟩ ⟨sl,(o,.var vt cs')::ob,nx⟩:=Rl (st:=⟨sl,ob,nx⟩) hx hy ho hv hn hst hs
theorem so {o:Nat} {rt:TypeId} {el' ns:List D} {v:V} [TyN P t n] (hx:opT sl x= .v (.c (.e o sz i j))) (hy:opT sl y= .v v)
 (ho:go ob o=some (.row rt sz els g true)) (hv:vD v=some (ns,g')) (hn:d0 ns.length n=true) (he:els[i]?=some el) (hs:u5 j ns el=some el') (hg:(g&&g')=gg):
 AWO P N ⟨none,.store t x y,ty,ps,af,gd⟩ ⟨sl,ob,nx⟩ ⟨sl,(o,.row rt sz (els.set i el') gg true)::ob,nx⟩:=by subst hg;exact Rk (st:=⟨sl,ob,nx⟩) hx hy ho hv hn he hs
theorem ap {o:Nat} {c:C} [ei P t e sz by_] (hd:nlt d N=true)
 (hx:opT sl x= .v (.c (.w o n))) (hy:opT sl y= .v (.c c)) (ho:go ob o=some (.row e sz els g true)) (hs:Src ob c ys gy) (hk:oF o sl=some sl') (hkb:ml o ob=some ob') (hg:(g&&gy)=gg)
 (hn:els.length=n) (hsz:∀e∈ys,e.length=sz) (hb:(n+ys.length)*by_<=140737488355328) (h63:n+ys.length<=9223372036854775807) (hrv:rsp o=false):
 AWO P N ⟨some d,.call ⟨.builtin .append,#[x,y],#[t,t]⟩,ty,ps,af,gd⟩ ⟨sl,ob,nx⟩ ⟨(d,.v (.c (.w o (n+ys.length))))::sl',(o,.row e sz (els++ys) gg true)::ob',nx⟩:=by
 subst hg;exact Nv (st:=⟨sl,ob,nx⟩) hrv (dt hd) hx hy ho hs hk hkb hn hsz hb h63
section
variable {ops:Array Oper} {l:List Oper} {o:Oper} {K:St->Prop} {KK:List Inf->St->Prop} {is:List Inf}
theorem gs {d:Tmp} (hg:o.guard=some (j,b)) (hj:(ops[j]?).bind (·.dst)=some dj) (hdj:nlt dj N=true) (hb:noG b (gt sl dj)=true) (hd:o.dst=some d) (hN:nlt d N=true)
 (h':AWR P N ops l ⟨(d,.tup [])::sl,ob,nx⟩ K):AWR P N ops (o::l) ⟨sl,ob,nx⟩ K:=D8 (st:=⟨sl,ob,nx⟩) hg hj (dt hdj) hb hd (dt hN) h'
theorem g2 {c:Bool} (hg:o.guard=some (j,b)) (hj:(ops[j]?).bind (·.dst)=some dj) (hb:gt sl dj=tB c)
 (h1:c=true->AWR P N ops (o::l) ⟨(dj,tB true)::sl,ob,nx⟩ K) (h0:c=false->AWR P N ops (o::l) ⟨(dj,tB false)::sl,ob,nx⟩ K):AWR P N ops (o::l) ⟨sl,ob,nx⟩ K:=Qu (st:=⟨sl,ob,nx⟩) hb h1 h0
theorem dgs {d:Tmp} {t:T} (hg:o.guard=some (j,b)) (hj:(ops[j]?).bind (·.dst)=some dj) (hdj:nlt dj N=true) (ht:gt sl dj=t) (hb:noG b t=true) (hd:o.dst=some d) (hN:nlt d N=true)
 (h':DR P N ops l (is++[⟨d,[(.tmp dj,t)],[],.tup [],[]⟩]) ⟨(d,.tup [])::sl,ob,nx⟩ KK):DR P N ops (o::l) is ⟨sl,ob,nx⟩ KK:=Xg (st:=⟨sl,ob,nx⟩) hg hj hdj ht hb hd hN h'
theorem dg2 {c:Bool} (hg:o.guard=some (j,b)) (hj:(ops[j]?).bind (·.dst)=some dj) (hb:gt sl dj=tB c)
 (h1:c=true->DR P N ops (o::l) is ⟨(dj,tB true)::sl,ob,nx⟩ KK) (h0:c=false->DR P N ops (o::l) is ⟨(dj,tB false)::sl,ob,nx⟩ KK):DR P N ops (o::l) is ⟨sl,ob,nx⟩ KK:=TH (st:=⟨sl,ob,nx⟩) hb h1 h0
end
def Tc:AV->Option T
 | .c (.i k n)=>some (.v (.c (.d false (.i k n))))
 | .c (.b x)=>some (.v (.c (.d false (.b x))))
 | .c (.str s)=>some (.v (.c (.d false (.str s))))
 | .c (.l xs)=>some (.v (.c (.d false (.l xs))))
 | .c (.k A n c)=>some (.v (.c (.d false (.k A n c))))
 | .agg xs=>match ldO false xs with
  |some cs=>some (.v (.agg cs))
  |none=>none
def Ku:Nat->List AV->Option Lab
 |_,[]=>some []
 |k,a::as=>match Tc a,Ku (k+1) as with
  |some t,some r=>some ((k,t)::r)
  |_,_=>none
theorem Is:∀{as:List AV} {k:Nat} {r:Lab},Ku k as=some r->r=xa k as
 |[],k,r,h=>by simp[Ku] at h;subst h;rfl
 |a::as,k,r,h=>by
  simp only[Ku] at h
  split at h
  .rename_i t r' h1 h2
   simp at h;subst h
   rw[Is h2,xa]
   congr 2
   cases a with
   |c x=>cases x<;>simp[Tc] at h1<;>subst h1<;>rfl
   |agg xs=>
    simp only[Tc] at h1
    split at h1
    .rename_i cs h3;simp at h1;subst h1;rw[Jc h3];rfl
    cases h1
  cases h
theorem YZ {f:FuncId} {fn:Func} {c:Code} {args:List AV} {rs:List ResultVar}  {sl0:Lab} (hf:P.funcs[f]?=some fn) (hb:fn.body=some c:=by exact rfl) (hnm:(fn.name== "runtime.NumGoroutine")=false:=by kernel_rfl) (hN:fn.ntmps=N) (hrs:fn.results.toList=rs:=by exact rfl)
 (ha:aar args.length N=true:=by exact rfl) (hs:Ku 0 args=some sl0:=by exact rfl) (h:AWC P N c ⟨sl0,[],0⟩ (qN N P rs res)):Fn P f args res:=by
 rw[Is hs] at h
 exact fn_of hf hb hnm hN hrs ha h
end
section
variable {P:Program} {N:Nat} {K:St->Prop} {AQ:Exit->St->Prop} {s:St} {n id:Nat}
theorem tn (h:K s):uF K AQ .normal s:=h
theorem tr (h:AQ .ret s):uF K AQ .ret s:=h
theorem te (h:AQ (.exit n) s):uF K AQ (.exit n) s:=h
theorem bn (h:AQ .normal s):jy id AQ .normal s:=h
theorem br (h:AQ .ret s):jy id AQ .ret s:=h
theorem bx (hb:d0 n id=true) (h:AQ .normal s):jy id AQ (.exit n) s:=by simp only[jy,hb];exact h
theorem bo (hb:d0 n id=false) (h:AQ (.exit n) s):jy id AQ (.exit n) s:=by simp only[jy,hb];exact h
theorem dM {rs:List ResultVar} {res':List RV} {ls:List Nat} (h:pf P s rs vs:=by repeat' (first|exact .nil|apply pf.cons|exact .tmp rfl|exact .cell rfl rfl rfl|exact .cell1 rfl rfl)) (he:xG s.ob vs=some (res',ls):=by exact rfl) (hn:oG ls=true:=by exact rfl) (hr:res'=res:=by first|rfl|simp):qN N P rs res .ret s:=by
 subst hr;exact Vd ⟨vs,ls,h,he,hn⟩
theorem Xo {rs:List ResultVar} {res':List RV} {ls:List Nat} (h:pf P s rs vs:=by repeat' (first|exact .nil|apply pf.cons|exact .tmp rfl|exact .cell rfl rfl rfl|exact .cell1 rfl rfl)) (he:xG s.ob vs=some (res',ls):=by exact rfl) (hn:oG ls=true:=by exact rfl) (hr:res'=res:=by first|rfl|simp):qN N P rs res .normal s:=by
 subst hr;exact⟨s,λ_ E _ _ h=>⟨E,h⟩,vs,ls,h,he,hn⟩
end
open Go.RowKit Go.ChangeShapes Go.WideShapes Go.Deep
inductive Sh where
 |i (k:IntKind)
 |b
 |str
 |l (e:List Sh)
variable {ss:List Go.AM.Sh}
mutual
inductive WT:Sh->D->Prop
 |i {k:IntKind} {n:Int} (h:(Lit.int k n).wf=true):WT (.i k) (.i k n)
 |b {x:Bool}:WT .b (.b x)
 |str {s:ByteArray} (h:s.size<=maxLen):WT .str (.str s)
 |l {e:List Sh} {xs:Lad} (hl:xs.length<=maxLen) (h:WTL e xs):WT (.l e) (.l xs)
inductive WTs:List Sh->List D->Prop
 |nil:WTs [] []
 |cons {s:Sh} {ss:List Sh} {x:D} {xs:List D} (h:WT s x) (h':WTs ss xs):WTs (s::ss) (x::xs)
inductive WTL:List Sh->Lad->Prop
 |nil {e:List Sh}:WTL e []
 |cons {e:List Sh} {x:List D} {xs:Lad} (h:WTs e x) (h':WTL e xs):WTL e (x::xs)
end
theorem WTs.len:∀{ss:List Sh} {xs:List D},WTs ss xs->xs.length=ss.length
 |_,_,.nil=>rfl
 |_,_,.cons _ h=>by simp[WTs.len h]
theorem WTs.append:∀{ss ts:List Sh} {xs ys:List D},WTs ss xs->WTs ts ys->WTs (ss++ts) (xs++ys)
 |_,_,_,_,.nil,h=>h
 |_,_,_,_,.cons h h',k=>.cons h (h'.append k)
mutual
inductive w6 (P:Program):TypeId->List Sh->Prop
 |int {t:TypeId} {k:IntKind} (h:P.underlying t=some (.int k)):w6 P t [.i k]
 |bool {t:TypeId} (h:P.underlying t=some .bool):w6 P t [.b]
 |string {t:TypeId} (h:P.underlying t=some .string):w6 P t [.str]
 |slice {t e:TypeId} {ss:List Sh} (h:P.underlying t=some (.slice e)) (he:w6 P e ss) (hc:P.cellsOf e=ss.length) (hp:0<ss.length):w6 P t [.l ss]
 |struct {t:TypeId} {fs:Array Field} {ss:List Sh} (h:P.underlying t=some (.struct fs)) (hf:HasFs P 0 fs.toList ss) (hc:P.cellsOf t=ss.length):w6 P t ss
inductive HasFs (P:Program):Nat->List Field->List Sh->Prop
 |nil {o:Nat}:HasFs P o [] []
 |cons {o:Nat} {f:Field} {fs:List Field} {s1 s2:List Sh} (ho:f.offset=o) (h:w6 P f.type s1) (hc:P.cellsOf f.type=s1.length) (h':HasFs P (o+s1.length) fs s2):HasFs P o (f::fs) (s1++s2)
end
theorem Hc {w:World} {F:Nat->Prop}:∀{xs ys:List D} {us vs:Lae},DV w F xs us->DV w F ys vs->DV w F (xs++ys) (us++vs)
 |[],_,[],_,_,h=>h
 |_::_,_,_::_,_,h,k=>⟨h.1,Hc h.2 k⟩
 |[],_,_::_,_,h,_=>h.elim
 |_::_,_,[],_,h,_=>h.elim
section
variable {H:Type} {enc:TypeId×Value->H} {P:Program} {w:World} {spare:Nat->Bool} {held:Bool}
theorem HT {F:Nat->Prop}:∀{xs:List D} {us:Lae} {b k:Nat},DV w F xs us->(∀j,j<us.length->w.cell? ⟨b,k+j,none⟩=us[j]?)->rdL w F xs b k
 |[],[],_,_,_,_=>by simp[rdL]
 |x::xs,u::us,b,k,h,hc=>by
  rw[rdL]
  refine⟨⟨u,by simpa using hc 0 (by simp),h.1⟩,HT h.2 λj hj=>?_⟩
  have:=hc (j+1) (by simp;omega)
  grind
 |[],_::_,_,_,h,_=>h.elim
 |_::_,[],_,_,h,_=>h.elim
mutual
theorem Jx:∀{t:TypeId} {ss:List Sh},w6 P t ss->∀{fuel:Nat} {cs:Lae} {x:DataW H×List MemPlace},DataW.trod enc P w 0 (λ_=>true) held fuel t cs=some x->
 ∃xs,WTs ss xs/\DV w (λb=>b<w.heap.size) xs cs
 |_,_,.int ht,fuel,cs,x,h=>by
  obtain⟨n,rfl,_,hw⟩:=DataW.trod_int ht h
  exact⟨[.i _ n],.cons (.i hw) .nil,by simp[rdD],trivial⟩
 |_,_,.bool ht,fuel,cs,x,h=>by
  obtain⟨b,rfl,_⟩:=DataW.trod_bool ht h
  exact⟨[.b b],.cons .b .nil,by simp[rdD],trivial⟩
 |_,_,.string ht,fuel,cs,x,h=>by
  obtain⟨s,rfl,_,hs⟩:=DataW.trod_string ht h
  exact⟨[.str s],.cons (.str hs) .nil,by simp[rdD],trivial⟩
 |_,_,.slice (ss:=ss) (e:=e) ht he hc hp,fuel,cs,x,h=>by
  rcases open_slice ht h with⟨rfl,_⟩|⟨a,len,cap,m,n,Dt,Pl,rfl,_,hl,hm,hmm,_,hi⟩
  .exact⟨[.l []],.cons (.l (aap _) .nil) .nil,by rw[rdD];simp_all,trivial⟩
  have hmc:m=cap:=by simpa using hmm
  have each:∀i,i<len->∃xs,WTs ss xs/\∃us,us.length=ss.length/\DV w (λb=>b<w.heap.size) xs us/\∀j,j<ss.length->w.cell? ((a.add (i*ss.length)).add j)=us[j]?:=by
   intro i hil
   obtain⟨cs',h1,h2⟩:=hi i oaa
   obtain⟨_,h3,h4⟩:=World.cells?_some h1
   obtain⟨xs,k1,k2⟩:=Jx he h2
   rw[hc] at h3 h4
   exact⟨xs,k1,cs',h3,k2,h4⟩
  by_cases h0:len=0
  .subst h0
   exact⟨[.l []],.cons (.l (aap _) .nil) .nil,by rw[rdD];simp_all,trivial⟩
  .
    obtain⟨xs0,k1,us0,k2,k3,k4⟩:=each 0 oaa
    have hc0:=k4 0 hp
    have hu0:∃u,us0[0]?=some u:=⟨_,v0 oaa⟩
    obtain⟨u0,hu0⟩:=hu0
    have hcell:w.cell? a=some u0:=by rw[<-hu0,<-hc0];simp[Addr.add]
    obtain⟨b,off,spot⟩:=a
    have hsp:spot=none:=by
     cases spot with
     |none=>rfl
     |some s=>exfalso;simp[World.cell?] at hcell;grind
    subst hsp
    have hb:b<w.heap.size:=World.block_lt_of_cell? w ⟨b,off,none⟩ hcell
    have build:∀n i,i+n=len->∃els,WTL ss els/\els.length=n/\(∀e'∈els,e'.length=ss.length)/\rdLL w (λb=>b<w.heap.size) els b (off+i*ss.length):=by
     intro n
     induction n with
     |zero=>intro i _;exact⟨[],.nil,rfl,by simp,by simp[rdLL]⟩
     |succ n ihn=>
      intro i hin
      obtain⟨xs,l1,us,l2,l3,l4⟩:=each i oaa
      obtain⟨els,m1,m2,m3,m4⟩:=ihn (i+1) oaa
      have hxl:=l1.len
      refine⟨xs::els,.cons l1 m1,by simp[m2],by simp_all,?_⟩
      rw[rdLL]
      refine⟨HT l3 λj hj=>?_,?_⟩
      .have:=l4 j oaa
       rw[vQ,vQ] at this;exact this
      grind
    obtain⟨els,m1,m2,m3,m4⟩:=build len 0 oaa
    refine⟨[.l els],.cons (.l oaa m1) .nil,?_,trivial⟩
    rw[rdD]
    grind
 |_,_,.struct (fs:=fs) ht hf hc,fuel,cs,x,h=>by
  obtain⟨ys,n,_,_,h3,h4,h5⟩:=DataW.trod_struct ht h
  have key:=open_fs hf (fuel:=n) (cs:=cs) (λf hf=>by
   obtain⟨i,hi⟩:=aal hf
   grind)
  grind
theorem open_fs:∀{o:Nat} {fs:List Field} {ss:List Sh},HasFs P o fs ss->∀{fuel:Nat} {cs:Lae},(∀f∈fs,∃x,DataW.trod enc P w 0 (λ_=>true) held fuel f.type ((cs.drop f.offset).take (P.cellsOf f.type))=some x)->
 ∃xs,WTs ss xs/\DV w (λb=>b<w.heap.size) xs ((cs.drop o).take ss.length)
 |_,_,_,.nil,fuel,cs,h=>⟨[],.nil,by simp[DV]⟩
 |o,_,_,.cons (f:=f) (s1:=s1) (s2:=s2) ho hs hc hf,fuel,cs,h=>by
  obtain⟨x,hx⟩:=h f (by simp)
  obtain⟨xs1,k1,k2⟩:=Jx hs hx
  obtain⟨xs2,m1,m2⟩:=open_fs hf (λg hg=>h g (by simp[hg]))
  refine⟨xs1++xs2,k1.append m1,?_⟩
  rw[ho,hc] at k2
  have:=Hc k2 m2
  rwa [aaz,List.take_add,aaK]
end
theorem U4 {r:Reach} {b0:Nat} {v:Value} {s:Sh} (hs:w6 P t [s]) (hn:∀fs,P.underlying t≠some (.struct fs)) (hv:Value.okWide P w r b0 t v):v.cells.toList=[v]:=by
 cases hs with
 |int h=>obtain⟨n,rfl⟩:=okWide_int h hv;rfl
 |bool h=>obtain⟨n,rfl⟩:=okWide_bool h hv;rfl
 |string h=>obtain⟨n,rfl⟩:=okWide_string h hv;rfl
 |slice h=>obtain⟨a,l,c,rfl⟩:=okWide_slice h hv;rfl
 |struct h=>simp_all
theorem open_c {r:Reach} {b0:Nat} {v:Value} {d:DataW H} {p:List MemPlace} {s:Sh} (hs:w6 P t [s]) (hn:∀fs,P.underlying t≠some (.struct fs)) (hv:Value.okWide P w r b0 t v) (h:DataW.Trod enc P w 0 (λ_=>true) held t v d p):
 ∃x,WT s x/\avR w (λb=>b<w.heap.size) (.c x) v:=by
 obtain⟨fuel,hf⟩:=h
 rw[U4 hs hn hv] at hf
 obtain⟨xs,h1,h2⟩:=Jx hs hf
 cases h1 with
 |cons h h'=>cases h' with
  |nil=>exact⟨_,h,h2.1⟩
end
theorem Ox {α:Type} {e:List Sh} {f:α->List D} {p:α->Prop} (h:∀x,WTs e x->∃a,x=f a/\p a):∀{xs:Lad},WTL e xs->∃l:List α,xs=l.map f/\∀a∈l,p a
 |_,.nil=>⟨[],rfl,by simp⟩
 |_,.cons h1 h2=>by
  obtain⟨a,rfl,ha⟩:=h _ h1
  obtain⟨l,rfl,hl⟩:=Ox h h2
  exact⟨a::l,rfl,by simp_all⟩
theorem Ny (h:Im w w' (λ_=>False)):Below w.heap.size w w':=⟨h.os,h.tape,h.output,h.size,λb hb=>h.block b hb (λh=>h)⟩
theorem law_calls {f:FuncId} {args:List AV} {vals:Array Value} (h:Fn P f args [rB true]) (hT:TabsIn w) (hA:AR w (λb=>b<w.heap.size) args vals.toList):
 Calls P f vals w λe w'=>e= .returned (.bool true)/\Below w.heap.size w w':=by
 refine(h.calls _ w vals (λ_ h=>h) hT hA).mono ?_
 rintro e w' ⟨v,G,bs,rfl,hp,_,hr,_⟩
 obtain⟨_,hr⟩:=hr
 simp only[rdD] at hr
 exact⟨by rw[hr],Ny hp⟩
abbrev WR (n:Int):Int:=IntKind.i64.wrap n
theorem Fn.frz {f:FuncId} {args:List AV} {ty:Nat} (h:Fn P f args [.c (.own ty sz els n)]) (hn:els.length=n):Fn P f args [.c (.d (.l els))]:=by
 refine⟨h.enters,λF w vals hF hT hA=>(h.calls F w vals hF hT hA).mono ?_⟩
 rintro e w' ⟨v,G,bs,rfl,hp,hG,hr,_⟩
 obtain⟨b,c,arr,rfl,rfl,hh,ha,hlc,hmx,hes,hrd,hgb,hbb⟩:=hr
 subst hn
 have hlt:b<w'.heap.size:=by
  rcases aat b w'.heap.size with h|h
  .exact h
  simp_all
 refine⟨_,λk=>G k\/k=b,[],rfl,hp,?_,⟨rfl,?_⟩,by simp⟩
 .rintro k (hk|rfl)
  .exact hG k hk
  exact⟨hbb,hlt,.mk hh⟩
 rw[rdD]
 exact⟨_,_,rfl,hlc,.inr ⟨b,0,rfl,.inr rfl,cT (λ_ _=>rfl) (λ_ h=>.inl h) rfl _ _ hrd⟩⟩
mutual
inductive WS:Sh->D->Prop
 |i {k:IntKind} {n:Int} (h:(Lit.int k n).wf=true):WS (.i k) (.i k n)
 |b {x:Bool}:WS .b (.b x)
 |str {s:ByteArray} (h:s.size<=maxLen):WS .str (.str s)
 |l {e:List Sh} {xs:Lad} (hl:xs.length<=1048576) (h:WSL e xs):WS (.l e) (.l xs)
inductive WSs:List Sh->List D->Prop
 |nil:WSs [] []
 |cons {s:Sh} {ss:List Sh} {x:D} {xs:List D} (h:WS s x) (h':WSs ss xs):WSs (s::ss) (x::xs)
inductive WSL:List Sh->Lad->Prop
 |nil {e:List Sh}:WSL e []
 |cons {e:List Sh} {x:List D} {xs:Lad} (h:WSs e x) (h':WSL e xs):WSL e (x::xs)
end
mutual
def tot:D->Nat
 | .l xs=>xs.length+totLL xs
 | .i _ _=>0
 | .b _=>0
 | .str _=>0
 | .k _ _ _=>0
def totLL:Lad->Nat
 |[]=>0
 |e::es=>totL e+totLL es
def totL:List D->Nat
 |[]=>0
 |d::ds=>tot d+totL ds
end
@[simp] theorem tot_i {k:IntKind} {n:Int}:tot (.i k n)=0:=by rw[tot]
@[simp] theorem tot_b {x:Bool}:tot (.b x)=0:=by rw[tot]
@[simp] theorem tot_str {s:ByteArray}:tot (.str s)=0:=by rw[tot]
@[simp] theorem tot_l {xs:Lad}:tot (.l xs)=xs.length+totLL xs:=by rw[tot]
@[simp] theorem totL_nil:totL []=0:=by rw[totL]
@[simp] theorem totL_cons {xs:List D}:totL (x::xs)=tot x+totL xs:=by rw[totL]
@[simp] theorem totLL_nil:totLL []=0:=by rw[totLL]
@[simp] theorem totLL_cons {x:List D} {xs:Lad}:totLL (x::xs)=totL x+totLL xs:=by rw[totLL]
mutual
theorem WS_of:∀{s:Sh} {x:D},WT s x->tot x<=1048576->WS s x
 |_,_,.i h,_=>.i h
 |_,_,.b,_=>.b
 |_,_,.str h,_=>.str h
 |_,_,.l hl h,ht=>by rw[tot_l] at ht;exact .l oaa (WSL_of h oaa)
theorem ST:∀{s:List Sh} {x:List D},WTs s x->totL x<=1048576->WSs s x
 |_,_,.nil,_=>.nil
 |_,_,.cons h h',ht=>by rw[totL_cons] at ht;exact .cons (WS_of h oaa) (ST h' oaa)
theorem WSL_of:∀{s:List Sh} {x:Lad},WTL s x->totLL x<=1048576->WSL s x
 |_,_,.nil,_=>.nil
 |_,_,.cons h h',ht=>by rw[totLL_cons] at ht;exact .cons (ST h oaa) (WSL_of h' oaa)
end
section
variable {k:IntKind} {e ss:List Sh} {x:List D} {xs:Lad} {d:D}
theorem WS.gi (h:WS (.i k) d):∃n,d= .i k n/\(Lit.int k n).wf=true:=by cases h with|i h=>simp_all
theorem WS.gs (h:WS .str d):∃s,d= .str s/\s.size<=maxLen:=by cases h with|str h=>simp_all
theorem WS.gl (h:WS (.l e) d):∃ys,d= .l ys/\ys.length<=1048576/\WSL e ys:=by cases h with|l hl h=>simp_all
theorem WSs.gn (h:WSs [] x):x=[]:=by cases h;rfl
theorem WSs.gi (h:WSs (.i k::ss) x):∃n r,x= .i k n::r/\(Lit.int k n).wf=true/\WSs ss r:=by cases h with|cons h h'=>cases h with|i h=>grind
theorem WSs.gs (h:WSs (.str::ss) x):∃s r,x= .str s::r/\s.size<=maxLen/\WSs ss r:=by cases h with|cons h h'=>cases h with|str h=>grind
theorem WSs.gl (h:WSs (.l e::ss) x):∃ys r,x= .l ys::r/\ys.length<=1048576/\WSL e ys/\WSs ss r:=by cases h with|cons h h'=>cases h with|l hl h=>grind
theorem WTs.gn (h:WTs [] x):x=[]:=by cases h;rfl
theorem WTs.gi (h:WTs (.i k::ss) x):∃n r,x= .i k n::r/\(Lit.int k n).wf=true/\WTs ss r:=by cases h with|cons h h'=>cases h with|i h=>grind
theorem WTs.gs (h:WTs (.str::ss) x):∃s r,x= .str s::r/\s.size<=maxLen/\WTs ss r:=by cases h with|cons h h'=>cases h with|str h=>grind
theorem WTs.gl (h:WTs (.l e::ss) x):∃ys r,x= .l ys::r/\ys.length<=9223372036854775807/\WTL e ys/\WTs ss r:=by cases h with|cons h h'=>cases h with|l hl h=>exact⟨_,_,rfl,by unfold maxLen at hl;omega,h,h'⟩
theorem WT.gl (h:WT (.l e) d):∃ys,d= .l ys/\ys.length<=9223372036854775807/\WTL e ys:=by cases h with|l hl h=>exact⟨_,rfl,by unfold maxLen at hl;omega,h⟩
theorem WT.gi (h:WT (.i k) d):∃n,d= .i k n/\(Lit.int k n).wf=true:=by cases h with|i h=>simp_all
theorem WT.gs (h:WT .str d):∃s,d= .str s/\s.size<=maxLen:=by cases h with|str h=>simp_all
theorem WSs.len:∀{ss:List Sh} {xs:List D},WSs ss xs->xs.length=ss.length
 |_,_,.nil=>rfl
 |_,_,.cons _ h=>by simp[WSs.len h]
theorem WSL.len:∀{xs:Lad},WSL ss xs->∀e∈xs,e.length=ss.length
 |_,.nil=>by simp
 |_,.cons h h'=>by simpa using⟨h.len,WSL.len h'⟩
theorem WTL.len:∀{xs:Lad},WTL ss xs->∀e∈xs,e.length=ss.length
 |_,.nil=>by simp
 |_,.cons h h'=>by simpa using⟨h.len,WTL.len h'⟩
theorem WSL.get:∀{xs:Lad},WSL ss xs->∀(i:Nat) (h:i<xs.length),WSs ss xs[i]
 |_::_,.cons h h',0,_=>h
 |_::_,.cons h h',i+1,hi=>by simpa using WSL.get h' i (by simp_all)
theorem WTL.get:∀{xs:Lad},WTL ss xs->∀(i:Nat) (h:i<xs.length),WTs ss xs[i]
 |_::_,.cons h h',0,_=>h
 |_::_,.cons h h',i+1,hi=>by simpa using WTL.get h' i (by simp_all)
theorem WSL.at {k:Nat} (h:WSL ss xs) (hk:k<xs.length):∃e,xs[k]=e/\xs[(k:Int).toNat]?=some e/\WSs ss e:=⟨_,rfl,by simp[hk],h.get k hk⟩
theorem WTL.at {k:Nat} (h:WTL ss xs) (hk:k<xs.length):∃e,xs[k]=e/\xs[(k:Int).toNat]?=some e/\WTs ss e:=⟨_,rfl,by simp[hk],h.get k hk⟩
end
section
variable {P:Program} {d:Option Tmp} {ty:TypeId} {ps:String} {af:Array Edge} {gd:Option (Nat×Bool)} {x y z:Operand}
@[irreducible] def booB (a b:Bool):Bool:=a==b
@[simp] theorem booB_t {a:Bool}:booB a b=true↔a=b:=by simp[booB]
@[simp] theorem booB_f {a:Bool}:booB a b=false↔a≠b:=by simp[booB]
theorem UI {a:Bool} [ht:TyU P t .bool]:
 AWN P ⟨d,.binOp .eql t x y t',ty,ps,af,gd⟩ [(x,.v (.c (.d g (.b a)))),(y,.v (.c (.d g' (.b b))))] [] (.v (.c (.d false (.b (booB a b))))) []:=
 cE λE ac w hn _=>by
  have h1:=vY (hn x _ (.head _))
  have h2:=vY (hn y _ (.tail _ (.head _)))
  exact⟨.bool (a==b),by simp[execOp,h1,h2,eqGuard,binOp,run_equal_bool w t a b ht.h],by simp[cvT,cvV,cvC,rdD,booB]⟩
theorem UJ {a:Bool} [ht:TyU P t .bool]:
 AWN P ⟨d,.binOp .neq t x y t',ty,ps,af,gd⟩ [(x,.v (.c (.d g (.b a)))),(y,.v (.c (.d g' (.b b))))] [] (.v (.c (.d false (.b (!booB a b))))) []:=
 cE λE ac w hn _=>by
  have h1:=vY (hn x _ (.head _))
  have h2:=vY (hn y _ (.tail _ (.head _)))
  exact⟨.bool (!(a==b)),by simp[execOp,h1,h2,eqGuard,binOp,run_equal_bool w t a b ht.h],by simp[cvT,cvV,cvC,rdD,booB]⟩
theorem AY {e:TypeId} (h:P.underlying t=some (.slice e)):P.elem t=e/\P.underlying t=some (.slice (P.elem t)):=by
 have:P.elem t=e:=by simp[Program.elem,h]
 simp_all
theorem HU {F:Nat->Prop} {xs:Lad} {A:Option Addr} {c h:Nat} (hs:∀e∈xs,e.length=sz) (h1:l<=h) (h2:h<=xs.length) (hlc:xs.length<=c)
 (hr:xs=[]\/∃b off,A=some ⟨b,off,none⟩/\F b/\rdLL w F xs b off):rdD w F (.l ((xs.take h).drop l)) (sliced A l h c sz):=by
 have hl:((xs.take h).drop l).length=h-l:=by simp;omega
 rw[rdD,hl]
 refine⟨_,_,rfl,by omega,?_⟩
 by_cases hlh:h=l
 .simp_all
 right
 rcases hr with rfl|⟨b,off,rfl,hb,hr⟩
 .simp_all
 rw[if_neg oaa]
 exact⟨b,off+l*sz,by simp[Addr.add],hb,Cp (pD h hr) (λe he=>hs e (aas he)) l⟩
theorem Nr {t:Nat} {g2:Bool} {xs:Lad} {h:Int} {hi:Operand} [ht:ei P t e sz by_] (hs:∀e∈xs,e.length=sz) (h0:0<=h) (h2:h<=xs.length):
 AWN P ⟨d,.slice t x none (some hi) none,ty,ps,af,gd⟩ [(x,.v (.c (.d g (.l xs)))),(hi,.v (.c (.d g2 (.i .i64 h))))] [] (.v (.c (.d g (.l (xs.take h.toNat))))) []:=
 cE λE ac w hn _=>by
  have k1:=hn x _ (.head _)
  have k3:=iI (hn hi _ (.tail _ (.head _)))
  simp only[cvT,cvV,cvC,rdD] at k1
  obtain⟨A,c,hu,hlc,hr⟩:=k1
  obtain⟨i,z,hi1,hi2,_⟩:=ht.i
  obtain⟨he,hu'⟩:=AY ht.u
  refine⟨sliced A 0 h.toNat c sz,?_,by have:=HU (l:=0) (h:=h.toNat) hs oaa oaa hlc hr;rw[aa2] at this;exact this⟩
  simp[execOp,hu,k3,run_sliceAt_slice w t _ _ _ _ hu',run_slice_h w t A xs.length c hu' .i64 h h0 oaa,he,eW hi1,hi2]
theorem Ns {t:Nat} {g2:Bool} {xs:Lad} {l:Int} {lo:Operand} [ht:ei P t e sz by_] (hs:∀e∈xs,e.length=sz) (h0:0<=l) (h2:l<=xs.length):
 AWN P ⟨d,.slice t x (some lo) none none,ty,ps,af,gd⟩ [(x,.v (.c (.d g (.l xs)))),(lo,.v (.c (.d g2 (.i .i64 l))))] [] (.v (.c (.d g (.l (xs.drop l.toNat))))) []:=
 cE λE ac w hn _=>by
  have k1:=hn x _ (.head _)
  have k3:=iI (hn lo _ (.tail _ (.head _)))
  simp only[cvT,cvV,cvC,rdD] at k1
  obtain⟨A,c,hu,hlc,hr⟩:=k1
  obtain⟨i,z,hi1,hi2,_⟩:=ht.i
  obtain⟨he,hu'⟩:=AY ht.u
  refine⟨sliced A l.toNat xs.length c sz,?_,by have:=HU (l:=l.toNat) (h:=xs.length) hs oaa oaa hlc hr;rw[List.take_length] at this;exact this⟩
  simp[execOp,hu,k3,run_sliceAt_slice w t _ _ _ _ hu',run_slice_l w t A xs.length c hu' .i64 l h0 oaa,he,eW hi1,hi2]
end
section
variable {P:Program} {N:Nat} {d:Tmp} {ty:TypeId} {ps:String} {af:Array Edge} {gd:Option (Nat×Bool)} {x y z:Operand} {sl:Lab} {ob:Laa} {nx:Nat}
theorem bq {a:Bool} [TyU P t .bool] (hx:opT sl x= .v (.c (.d g (.b a)))) (hy:opT sl y= .v (.c (.d g' (.b b)))) (hN:nlt d N=true):
 NS0 P N ⟨some d,.binOp .eql t x y t',ty,ps,af,gd⟩ sl ob nx d (tB (booB a b)) ⟨d,[(x,.v (.c (.d g (.b a)))),(y,.v (.c (.d g' (.b b))))],[],tB (booB a b),[]⟩:=dS (st:=⟨sl,ob,nx⟩) UI rfl hN ⟨hx,hy,trivial⟩ trivial rfl
theorem bne {a:Bool} [TyU P t .bool] (hx:opT sl x= .v (.c (.d g (.b a)))) (hy:opT sl y= .v (.c (.d g' (.b b)))) (hN:nlt d N=true):
 NS0 P N ⟨some d,.binOp .neq t x y t',ty,ps,af,gd⟩ sl ob nx d (tB (!booB a b)) ⟨d,[(x,.v (.c (.d g (.b a)))),(y,.v (.c (.d g' (.b b))))],[],tB (!booB a b),[]⟩:=dS (st:=⟨sl,ob,nx⟩) UJ rfl hN ⟨hx,hy,trivial⟩ trivial rfl
theorem cdh {t:Nat} {g2:Bool} {xs:Lad} {h:Int} {hi:Operand} [ht:ei P t e sz by_] (hx:opT sl x= .v (.c (.d g (.l xs)))) (hh:opT sl hi= .v (.c (.d g2 (.i .i64 h)))) (hN:nlt d N=true)
 (hs:∀e∈xs,e.length=sz) (h0:0<=h) (h2:h<=xs.length):
 NS0 P N ⟨some d,.slice t x none (some hi) none,ty,ps,af,gd⟩ sl ob nx d (.v (.c (.d g (.l (xs.take h.toNat))))) ⟨d,[(x,.v (.c (.d g (.l xs)))),(hi,.v (.c (.d g2 (.i .i64 h))))],[],.v (.c (.d g (.l (xs.take h.toNat)))),[]⟩:=
 dS (st:=⟨sl,ob,nx⟩) (Nr hs h0 h2) rfl hN ⟨hx,hh,trivial⟩ trivial rfl
theorem cdl {t:Nat} {g2:Bool} {xs:Lad} {l:Int} {lo:Operand} [ht:ei P t e sz by_] (hx:opT sl x= .v (.c (.d g (.l xs)))) (hl:opT sl lo= .v (.c (.d g2 (.i .i64 l)))) (hN:nlt d N=true)
 (hs:∀e∈xs,e.length=sz) (h0:0<=l) (h2:l<=xs.length):
 NS0 P N ⟨some d,.slice t x (some lo) none none,ty,ps,af,gd⟩ sl ob nx d (.v (.c (.d g (.l (xs.drop l.toNat))))) ⟨d,[(x,.v (.c (.d g (.l xs)))),(lo,.v (.c (.d g2 (.i .i64 l))))],[],.v (.c (.d g (.l (xs.drop l.toNat)))),[]⟩:=
 dS (st:=⟨sl,ob,nx⟩) (Ns hs h0 h2) rfl hN ⟨hx,hl,trivial⟩ trivial rfl
end
def fi (e:List D) (j:Nat):Int:=match e[j]? with|some (.i _ n)=>n|_=>0
def fb (e:List D) (j:Nat):Bool:=match e[j]? with|some (.b n)=>n|_=>false
def fs (e:List D) (j:Nat):ByteArray:=match e[j]? with|some (.str n)=>n|_=>⟨#[]⟩
def fl (e:List D) (j:Nat):Lad:=match e[j]? with|some (.l n)=>n|_=>[]
@[simp] theorem fi_0 {k:IntKind} {n:Int} :fi (.i k n::r) 0=n:=rfl
@[simp] theorem fb_0 {n:Bool} :fb (.b n::r) 0=n:=rfl
@[simp] theorem fs_0 {n:ByteArray} :fs (.str n::r) 0=n:=rfl
@[simp] theorem fl_0 {n:Lad} :fl (.l n::r) 0=n:=rfl
@[simp] theorem fi_s {d:D} :fi (d::r) (j+1)=fi r j:=rfl
@[simp] theorem fb_s {d:D} :fb (d::r) (j+1)=fb r j:=rfl
@[simp] theorem fs_s {d:D} :fs (d::r) (j+1)=fs r j:=rfl
@[simp] theorem fl_s {d:D} :fl (d::r) (j+1)=fl r j:=rfl
def oB {α:Type} (f:α->Bool):Int->List α->Int
 |_,[]=> -1
 |i,a::l=>bif f a then i else oB f (i+1) l
theorem Uj {f:α->Bool} {l:List α} {i:Int} (h:k<l.length):oB f i (l.drop k)=bif f l[k] then i else oB f (i+1) (l.drop (k+1)):=by rw[aaX h];rfl
theorem EW {α:Type} {f:α->Bool}:∀{l:List α} {i:Int},0<=i->leB 0 (oB f i l)=l.any f
 |[],i,h=>by simp[oB]
 |a::l,i,h=>by
  rw[oB,List.any_cons]
  cases hf:f a with
  |true=>simpa using h
  |false=>simp only[cond_false,aaC];exact EW oaa
theorem bv {ob:Laa} {o ty:Nat} (ho:go ob o=some (.row ty sz els g true):=by exact rfl) (hlt:rsv o=false:=by exact rfl):
 dQ N ⟨sl,ob,nx⟩ ⟨sl,(o,.row ty sz els g false)::ob,nx⟩:=by
 intro cx E a w hR
 obtain⟨b,c,arr,hr,hh,ha,hlc,hmx,hes,hrd,hFm,_⟩:=hR.obs o _ ho
 have hF:=hFm rfl
 obtain⟨hb1,hb2⟩:=hR.ok.rb o b c hr
 have hb3:cx.w0.heap.size<=b:=by
  rcases hb2 with h|h
  .exact h
  simp_all
 let E':Env:=⟨E.r,λk=>E.F k\/k=b,λk=>E.G k\/(g=true/\k=b),E.T,E.Z,E.n⟩
 have hH:∀g' k,E.H g' k->E'.H g' k:=λg' k hk=>by cases g'<;>exact .inl hk
 have hk:kQ E w E' w:=⟨λ_ _ h=>h,hH,λ_ _ _=>rfl,λ_ _ h=>⟨h,rfl⟩,λ_ h=>⟨h,.refl _ _⟩,rfl⟩
 refine⟨E',⟨?_,?_,?_,hR.ok.rb,hR.ok.inj,hR.ok.os,hR.ok.tape,hR.ok.output,hR.ok.size,hR.ok.block,hR.ok.pin,λk hk=>hk.elim (hR.ok.ff k) (λe=>.inr (e▸hb3)),λk hk hk'=>hk.elim (λh=>hR.ok.gc k h hk') (λe=>e▸.mk hh),
  ⟨λl k h=>?_,hR.ok.sf.tt,λk h=>?_,hR.ok.sf.zs,hR.ok.sf.ze⟩⟩,hR.dom,λl x hl=>?_,λk=>kF hk (hR.sl k),hR.dfr,hR.size,hR.td⟩
 .rintro k (h|rfl)
  .exact hR.ok.fb k h
  exact hb1
 .rintro k (h|⟨_,rfl⟩)
  .exact .inl (hR.ok.gf k h)
  omega
 .rintro k (h|⟨_,rfl⟩)
  .exact hR.ok.gn k h
  omega
 .obtain⟨h1,h2,h3,h4⟩:=hR.ok.sf.tb l k h
  grind
 .obtain⟨h1,h2,h3,h4⟩:=hR.ok.sf.zc k h
  grind
 by_cases hol:o=l
 .subst hol
  rw[cI] at hl
  cases hl
  exact⟨b,c,arr,hr,hh,ha,hlc,hmx,hes,cT (λ_ _=>rfl) (hH g) rfl _ _ hrd,(λh=>by cases h),λ_=>⟨.inr rfl,λhg=>.inr ⟨hg,rfl⟩⟩⟩
 rw[b7 _ _ hol] at hl
 refine gN hk (λ_ _ _=>rfl) (λb' c' hr' hn hn'=>?_) (hR.obs l x hl)
 rcases hn' with h|h
 .exact hn h
 subst h;exact hol (hR.ok.inj _ _ _ _ _ hr hr')
def dfz (ob:Laa):C->Option (C×Lac)
 | .w o n=>match go ob o with
  |some (.row _ _ els g false)=>some (.d g (.l els),[(els.length,n)])
  |_=>some (.w o n,[])
 |c=>some (c,[])
def M4 (ob:Laa):List C->Option (List C×Lac)
 |[]=>some ([],[])
 |c::cs=>match dfz ob c,M4 ob cs with
  |some (x,e),some (xs,es)=>some (x::xs,e++es)
  |_,_=>none
def vfz (ob:Laa):T->Option (T×Lac)
 | .v (.c c)=>match dfz ob c with
  |some (x,e)=>some (.v (.c x),e)
  |none=>none
 | .v (.agg cs)=>match M4 ob cs with
  |some (x,e)=>some (.v (.agg x),e)
  |none=>none
 |_=>none
theorem TE {ob:Laa} (hob:∀l x,go ob l=some x->df E w l x) {c c':C} {e:Lac} (h:dfz ob c=some (c',e)) (he:Eqs e) (hc:cvC E w c u):cvC E w c' u:=by
 unfold dfz at h
 split at h
 .rename_i o n
  split at h
  .rename_i ho
   simp at h;obtain⟨rfl,rfl⟩:=h
   obtain⟨b,c,hr,rfl⟩:=hc
   obtain⟨b',c',arr,hr',hh,ha,hlc,hmx,hes,hrd,_,hFm⟩:=hob o _ ho
   rw[hr] at hr';cases hr'
   obtain⟨h1,h2⟩:=hFm rfl
   have hn:=he.1
   subst hn
   show rdD _ _ _ _
   rw[rdD]
   refine⟨_,_,rfl,hlc,.inr ⟨b,0,rfl,?_,hrd⟩⟩
   rename_i g _
   cases g
   .exact h1
   exact h2 rfl
  simp_all
 simp_all
theorem II {E:Env} {w:World} {ob:Laa} (hob:∀l x,go ob l=some x->df E w l x):∀{cs cs':List C} {e:Lac} {us:Lae},M4 ob cs=some (cs',e)->Eqs e->CV E w cs us->CV E w cs' us
 |[],cs',e,us,h,he,hc=>by simp[M4] at h;simp_all
 |c::cs,cs',e,us,h,he,hc=>by
  cases us with
  |nil=>exact hc.elim
  |cons u us=>
   simp only[M4] at h
   split at h
   .rename_i h1 h2
    simp at h;obtain⟨rfl,rfl⟩:=h
    obtain⟨k1,k2⟩:=eR he
    exact⟨TE hob h1 k1 hc.1,II hob h2 k2 hc.2⟩
   cases h
theorem bH {ob:Laa} {t t':T} {e:Lac} (hk:gt sl k=t:=by exact rfl) (hv:vfz ob t=some (t',e):=by exact rfl) (he:Eqs e:=by repeat (first|exact trivial|refine⟨by first|rfl|exact lm _|simp,?_⟩)):dQ N ⟨sl,ob,nx⟩ ⟨(k,t')::sl,ob,nx⟩:=by
 intro cx E a w hR
 refine⟨E,hR.ok,hR.dom,hR.obs,λj=>?_,hR.dfr,hR.size,hR.td⟩
 by_cases hj:k=j
 .subst hj
  rw[dR]
  have:=hR.sl k
  rw[hk] at this
  unfold vfz at hv
  split at hv
  .split at hv
   .rename_i h1;simp at hv;obtain⟨rfl,rfl⟩:=hv;exact TE hR.obs h1 he this
   cases hv
  .split at hv
   .rename_i h1;simp at hv;obtain⟨rfl,rfl⟩:=hv;obtain⟨arr,hu,hc⟩:=this;exact⟨arr,hu,II hR.obs h1 he hc⟩
   cases hv
  cases hv
 rw[c9 _ _ hj];exact hR.sl j
inductive cr (σ ρ:Type) where
 |next (x:σ)
 |done (r:ρ)
def iter {σ ρ:Type} (step:σ->Option (cr σ ρ)):Nat->σ->Option ρ
 |0,_=>none
 |n+1,x=>match step x with
  |some (.next x')=>iter step n x'
  |some (.done r)=>some r
  |none=>none
def dn (o:Option ρ):Option (cr σ ρ):=match o with|some r=>some (.done r)|none=>none
@[irreducible] def FU:Nat:=18446744073709551616
def ix (xs:List α) (i:Int):Option α:=bif leB 0 i then xs[i.toNat]? else none
theorem bt {x y:Option α} {r:Option α} (h:b=true) (H:(bif b then x else y)=r):x=r:=by simp_all
theorem bf {x y:Option α} {r:Option α} (h:b=false) (H:(bif b then x else y)=r):y=r:=by simp_all
theorem ob {β:Type} {o:Option α} {k:α->Option β} {r:β} (H:Option.bind o k=some r):∃a,o=some a/\k a=some r:=Option.bind_eq_some_iff.1 H
theorem rq {x:Option α} {r:α} (H:(bif b then x else none)=some r):b=true/\x=some r:=by
 grind
theorem dnE {m:Option ρ} {o:cr σ ρ} (H:dn m=some o):∃r,m=some r/\o= .done r:=by
 cases m with
 |none=>cases H
 |some r=>exact⟨r,rfl,(Option.some.inj H).symm⟩
theorem ixE {xs:List α} {i:Int} {x:α} (H:ix xs i=some x):0<=i/\xs[i.toNat]?=some x:=by
 unfold ix at H
 obtain⟨h,H⟩:=rq H
 simp_all
theorem Uu {xs:List α} {i:Int} {x:α} (H:ix xs i=some x):i<xs.length:=by
 obtain⟨h0,h1⟩:=ixE H
 grind
theorem dF {β:Type} {xs:List α} {i:Int} {x:α} (f:α->β) (H:ix xs i=some x):(xs.map f)[i.toNat]?=some (f x):=by
 rw[aaN,(ixE H).2];rfl
section
variable {P:Program} {N:Nat} {st:St} {AQ:Exit->St->Prop}
theorem am {a b c:St} (h:dQ N a b) (k:dQ N b c):dQ N a c:=λcx E ac w hR=>let ⟨E',h'⟩:=h cx E ac w hR;k cx E' ac w h'
theorem vM (a:St):dQ N a a:=λ_ E _ _ h=>⟨E,h⟩
class Clo (N:Nat) (AQ:Exit->St->Prop):Prop where
 h:∀e s m,dQ N s m->AQ e m->AQ e s
instance {rs:List ResultVar} {res:List RV}:Clo N (qN N P rs res):=⟨λe s m hw h=>by
 cases e<;>simp only[qN] at h ⊢<;>first|exact h|(obtain⟨s',h1,h2⟩:=h;exact⟨s',am hw h1,h2⟩)⟩
instance {y:Code} [c:Clo N AQ]:Clo N (uF (λs=>AWC P N y s AQ) AQ):=⟨λe s m hw h=>by
 cases e<;>first|exact nQ hw h|exact c.h _ _ _ hw h⟩
instance {id:Nat} [c:Clo N AQ]:Clo N (jy id AQ):=⟨λe s m hw h=>by
 cases e with
 |exit n=>
  simp only[jy] at h ⊢
  cases hb:d0 n id<;>rw[hb] at h<;>exact c.h _ _ _ hw h
 |_=>exact c.h _ _ _ hw h⟩
instance {M:St} [c:Clo N AQ]:Clo N (uF (λs=>dQ N s M) AQ):=⟨λe s m hw h=>by
 cases e<;>first|exact am hw h|exact c.h _ _ _ hw h⟩
def f9 (N:Nat) (S:σ->St) (r:ρ) (o:cr σ ρ) (AQ:Exit->St->Prop):Exit->St->Prop:=
 uF (λs=>∃x',o= .next x'/\dQ N s (S x')) (λe s=>∃r',o= .done r'/\(r'=r->AQ e s))
instance {σ ρ:Type} {S:σ->St} {r:ρ} {o:cr σ ρ} [c:Clo N AQ]:Clo N (f9 N S r o AQ):=⟨λe s m hw h=>by
 cases e<;>first
  |(obtain⟨x',h1,h2⟩:=h;exact⟨x',h1,am hw h2⟩)
  |(obtain⟨r',h1,h2⟩:=h;exact⟨r',h1,λhq=>c.h _ _ _ hw (h2 hq)⟩)⟩
theorem sV {S:σ->St} {r:ρ} {x':σ} (h:dQ N s (S x')):f9 (ρ:=ρ) N S r (.next x') AQ .normal s:=⟨x',rfl,h⟩
theorem E4 {S:σ->St} {r r':ρ} (h:r'=r->AQ (.exit n) s):f9 N S r (cr.done r') AQ (.exit n) s:=⟨r',rfl,h⟩
theorem iq_r {S:σ->St} {r r':ρ} (h:r'=r->AQ .ret s):f9 N S r (cr.done r') AQ .ret s:=⟨r',rfl,h⟩
theorem va {x:Code} (M:St) [c:Clo N AQ] (h1:AWC P N x st (uF (λs=>dQ N s M) AQ)) (h2:AQ .normal M):AWC P N x st AQ:=
 AK h1 λe s h=>by
  cases e<;>first|exact c.h _ _ _ h h2|exact h
theorem sI {x:Code} (M:St) [c:Clo N AQ] (h1:AWC P N x st (jy id (uF (λs=>dQ N s M) AQ))) (h2:AQ .normal M):AWC P N x st (jy id AQ):=
 AK h1 λe s h=>by
  cases e with
  |exit n=>
   simp only[jy] at h ⊢
   cases hb:d0 n id<;>rw[hb] at h
   .exact h
   exact c.h _ _ _ h h2
  |normal=>exact c.h _ _ _ h h2
  |_=>exact h
class Gr (N:Nat) (K:St->Prop):Prop where
 h:∀s m,dQ N s m->K m->K s
instance {y:Code}:Gr N (λs=>AWC P N y s AQ):=⟨λs m hw h=>nQ hw h⟩
instance [c:Clo N AQ]:Gr N (λs=>AQ .normal s):=⟨λs m hw h=>c.h _ _ _ hw h⟩
instance {M:St}:Gr N (λs=>dQ N s M):=⟨λs m hw h=>am hw h⟩
theorem D9 {ops:Array Oper} {l:List Oper} {K:St->Prop} (M:St) [c:Gr N K] (h1:AWR P N ops l st (λs=>dQ N s M)) (h2:K M):AWR P N ops l st K:=
 Ti (λs h=>c.h _ _ h h2) h1
theorem OH {ops:Array Oper} {K K':List Inf->St->Prop} (hk:∀is s,K is s->K' is s):∀{l:List Oper} {is:List Inf} {st:St},DR P N ops l is st K->DR P N ops l is st K'
 |[],is,st,h=>hk _ _ h
 |o::l,is,st,h=>by
  obtain⟨x,s1,s2,h1,h2,h3⟩:=h
  exact⟨x,s1,s2,h1,h2,OH hk h3⟩
theorem pQ {ops ops':Array Oper} {l:List Oper} {is:List Inf} {K:St->Prop} (M:St) [c:Gr N K] (h1:DR P N ops l is st (λis t=>Ad ops' is nx=true/\dQ N t M)) (h2:K M):DR P N ops l is st (λis t=>Ad ops' is nx=true/\K t):=
 OH (λis s h=>⟨h.1,c.h _ _ h.2 h2⟩) h1
theorem sH {c:Code} {step:σ->Option (cr σ ρ)} {x0:σ} {r:ρ} (S:σ->St) (H:iter step n x0=some r) (h0:dQ N st (S x0))
 (round:∀x o,step x=some o->AWC P N c (S x) (f9 N S r o AQ)):AWC P N (.loop c) st AQ:=by
 refine Tg (σ:=Nat×σ) (λp=>iter step p.1 p.2=some r) (λp=>S p.2) (λp=>p.1) (n,x0) H h0 ?_
 rintro⟨m,x⟩ hI
 cases m with
 |zero=>cases hI
 |succ m=>
  simp only[iter] at hI
  cases hs:step x with
  |none=>simp_all
  |some o=>
   rw[hs] at hI
   refine AK (round x o hs) λe s h=>?_
   cases o with
   |next x'=>
    cases e with
    |normal=>
     obtain⟨x'',hx,hw⟩:=h
     cases hx
     exact⟨(m,x'),hI,hw,Nat.lt_succ_self _⟩
    |_=>obtain⟨r',hx,_⟩:=h;cases hx
   |done r'=>
    cases hI
    cases e with
    |normal=>obtain⟨x'',hx,hw⟩:=h;cases hx
    |_=>obtain⟨r'',hx,h⟩:=h;cases hx;exact h rfl
end
def pA (by_:Nat) (n c:Int):Bool:=decide (0<=n/\n<=c/\(by_:Int)*c<=281474976710656/\c<=9223372036854775807)
def da (by_ n:Nat):Bool:=decide (n*by_<=140737488355328/\n<=9223372036854775807)
theorem Je {enc:α->List D} (h:∀a,(enc a).length=n) (l:List α):∀e∈l.map enc,e.length=n:=by
 simp_all
theorem lm {enc:α->List D} (l:List α):(l.map enc).length=l.length:=aaI _
section
variable {P:Program} {N:Nat} {d:Tmp} {ty:TypeId} {ps:String} {af:Array Edge} {gd:Option (Nat×Bool)} {x y z:Operand} {sl:Lab} {ob:Laa} {nx:Nat}
variable {α:Type} {enc:α->List D}
theorem xdT {xs:List α} {i:Int} {a:α} [ei P t e sz by_] (H:ix xs i=some a) (henc:∀a,(enc a).length=sz:=by exact λ_=>rfl) (hx:opT sl x= .v (.c (.d g (.l (xs.map enc)))):=by exact rfl) (hy:opT sl y= .v (.c (.d g' (.i kd i))):=by exact rfl) (hN:nlt d N=true:=by exact rfl):
 NS0 P N ⟨some d,.indexAddr t x y,ty,ps,af,gd⟩ sl ob nx d (.v (.c (.q g (enc a) 0))) ⟨d,[(x,.v (.c (.d g (.l (xs.map enc))))),(y,.v (.c (.d g' (.i kd i))))],[],.v (.c (.q g (enc a) 0)),[]⟩:=
 xd hx hy hN (ixE H).1 (dF enc H) (Je henc xs)
theorem xwT {o:Nat} {i:Int} {ys:List α} {a:α} [ei P t e sz by_] (H:ix ys i=some a) (hx:opT sl x= .v (.c (.w o n)):=by exact rfl) (hy:opT sl y= .v (.c (.d g (.i kd i))):=by exact rfl) (hn:ys.length=n:=by first|rfl|simp) (hN:nlt d N=true:=by exact rfl):
 NS0 P N ⟨some d,.indexAddr t x y,ty,ps,af,gd⟩ sl ob nx d (.v (.c (.e o sz i.toNat 0))) ⟨d,[(x,.v (.c (.w o n))),(y,.v (.c (.d g (.i kd i))))],[],.v (.c (.e o sz i.toNat 0)),[]⟩:=
 xw hx hy hN (ixE H).1 (by have:=Uu H;omega)
theorem mkT {zd:List D} {k k':IntKind} {n c:Int} {za:α} [ei P t e sz by_] [TyE P e zd] (H:pA by_ n c=true) (hz:enc za=zd) (hx:opT sl x= .v (.c (.d g (.i k n))):=by exact rfl) (hy:opT sl y= .v (.c (.d g' (.i k' c))):=by exact rfl) (hN:nlt d N=true:=by exact rfl)
 (hq:nxt nx=some nx':=by exact rfl):
 NS1 P N ⟨some d,.makeSlice t x y,ty,ps,af,gd⟩ sl ob nx nx' d (.v (.c (.w nx (aac n.toNat za).length))) (.row e sz ((aac n.toNat za).map enc) true true) ⟨d,[(x,.v (.c (.d g (.i k n)))),(y,.v (.c (.d g' (.i k' c))))],[],.v (.c (.w nx (aac n.toNat za).length)),[(nx,.row e sz ((aac n.toNat za).map enc) true true)]⟩:=by
 simp only[pA,decide_eq_true_eq] at H
 have hn:(n.toNat:Int)=n:=by omega
 have:=mk (P:=P) (N:=N) (d:=d) (ty:=ty) (ps:=ps) (af:=af) (gd:=gd) (ob:=ob) (sl:=sl) (nx:=nx) (nx':=nx') (t:=t) (e:=e) (sz:=sz) (by_:=by_) (zd:=zd) (x:=x) (y:=y) (n:=n.toNat) (by rw[hn];exact hx) hy hN oaa oaa oaa hq
 simp_all
theorem apT {o:Nat} {ys zs:List α} {zd:Lad} {c:C} [ei P t e sz by_] (H:da by_ (ys++zs).length=true) (hzd:zs.map enc=zd:=by exact rfl) (henc:∀a,(enc a).length=sz:=by exact λ_=>rfl) (hd:nlt d N=true:=by exact rfl)
 (hx:opT sl x= .v (.c (.w o n)):=by exact rfl) (hy:opT sl y= .v (.c c):=by exact rfl) (hn:ys.length=n:=by first|rfl|simp) (hs:Src ob c zd gy:=by first|exact .d|exact .nil|exact .w rfl (by first|rfl|exact lm _|simp)|exact .wn rfl (by first|rfl|exact lm _|simp)) (ho:go ob o=some (.row e sz (ys.map enc) g true):=by exact rfl) (hk:oF o sl=some sl':=by exact rfl) (hkb:ml o ob=some ob':=by exact rfl) (hg:(g&&gy)=gg:=by exact rfl) (hrv:rsp o=false:=by exact rfl):
 AWO P N ⟨some d,.call ⟨.builtin .append,#[x,y],#[t,t]⟩,ty,ps,af,gd⟩ ⟨sl,ob,nx⟩ ⟨(d,.v (.c (.w o (ys++zs).length)))::sl',(o,.row e sz ((ys++zs).map enc) gg true)::ob',nx⟩:=by
 subst hzd
 simp only[da,decide_eq_true_eq,aaz] at H
 have:=ap (P:=P) (N:=N) (d:=d) (ty:=ty) (ps:=ps) (af:=af) (gd:=gd) (nx:=nx) (t:=t) (e:=e) (sz:=sz) (by_:=by_) hd hx hy ho hs hk hkb hg (by simp_all) (Je henc zs) (by simp_all) (by simp_all) hrv
 simp_all
theorem soT {o:Nat} {i:Int} {rt:TypeId} {ys:List α} {a a':α} {ns:List D} {v:V} [TyN P t n] (H:ix ys i=some a) (hx:opT sl x= .v (.c (.e o sz i.toNat j)):=by exact rfl) (hy:opT sl y= .v v:=by exact rfl)
 (ho:go ob o=some (.row rt sz (ys.map enc) g true):=by exact rfl) (hv:vD v=some (ns,g'):=by exact rfl) (hn:d0 ns.length n=true:=by exact rfl) (hs:u5 j ns (enc a)=some (enc a'):=by exact rfl) (hg:(g&&g')=gg:=by exact rfl):
 AWO P N ⟨none,.store t x y,ty,ps,af,gd⟩ ⟨sl,ob,nx⟩ ⟨sl,(o,.row rt sz ((ys.set i.toNat a').map enc) gg true)::ob,nx⟩:=by
 have:=so (P:=P) (N:=N) (ty:=ty) (ps:=ps) (af:=af) (gd:=gd) (nx:=nx) (t:=t) (n:=n) hx hy ho hv hn (dF enc H) hs hg
 simp_all
end
def eI (n:Int):List D:=[.i .i64 n]
def eU8 (n:Int):List D:=[.i .u8 n]
def eF (xs:List α) (l h:Int):Bool:=decide (0<=l/\l<=h/\h<=xs.length)
theorem ne0 {b:Int} (h:(!eqB b 0)=true):b≠0:=by simp_all
theorem wn {o n':Nat} (h:gt sl k= .v (.c (.w o n))) (hn:n=n'):gt sl k= .v (.c (.w o n')):=hn▸h
section
variable {P:Program} {N:Nat} {d:Tmp} {ty:TypeId} {ps:String} {af:Array Edge} {gd:Option (Nat×Bool)} {x y z:Operand} {sl:Lab} {ob:Laa} {nx:Nat}
variable {α:Type} {enc:α->List D}
theorem ldT {xs:List α} [ei P t e sz by_] (hx:opT sl x= .v (.c (.d g (.l (xs.map enc))))) (hN:nlt d N=true):
 NS0 P N ⟨some d,.call ⟨.builtin .len,#[x],#[t]⟩,ty,ps,af,gd⟩ sl ob nx d (tI xs.length) ⟨d,[(x,.v (.c (.d g (.l (xs.map enc)))))],[],tI xs.length,[]⟩:=by
 have:=ld (P:=P) (N:=N) (d:=d) (ty:=ty) (ps:=ps) (af:=af) (gd:=gd) (ob:=ob) (nx:=nx) (t:=t) hx hN
 simp_all
theorem ZB {t:Nat} {g2:Bool} {xs:List α} {h:Int} {hi:Operand} [ht:ei P t e sz by_] (H:eF xs 0 h=true) (henc:∀a,(enc a).length=sz) (hx:opT sl x= .v (.c (.d g (.l (xs.map enc))))) (hh:opT sl hi= .v (.c (.d g2 (.i .i64 h)))) (hN:nlt d N=true):
 NS0 P N ⟨some d,.slice t x none (some hi) none,ty,ps,af,gd⟩ sl ob nx d (.v (.c (.d g (.l ((xs.take h.toNat).map enc))))) ⟨d,[(x,.v (.c (.d g (.l (xs.map enc))))),(hi,.v (.c (.d g2 (.i .i64 h))))],[],.v (.c (.d g (.l ((xs.take h.toNat).map enc)))),[]⟩:=by
 simp only[eF,decide_eq_true_eq] at H
 have:=cdh (P:=P) (N:=N) (d:=d) (ty:=ty) (ps:=ps) (af:=af) (gd:=gd) (ob:=ob) (nx:=nx) (t:=t) (e:=e) (sz:=sz) (by_:=by_) hx hh hN (Je henc xs) H.2.1 (by simp_all)
 simp_all
theorem Tl {t:Nat} {g2:Bool} {xs:List α} {l:Int} {lo:Operand} [ht:ei P t e sz by_] (H:eF xs l xs.length=true) (henc:∀a,(enc a).length=sz) (hx:opT sl x= .v (.c (.d g (.l (xs.map enc))))) (hl:opT sl lo= .v (.c (.d g2 (.i .i64 l)))) (hN:nlt d N=true):
 NS0 P N ⟨some d,.slice t x (some lo) none none,ty,ps,af,gd⟩ sl ob nx d (.v (.c (.d g (.l ((xs.drop l.toNat).map enc))))) ⟨d,[(x,.v (.c (.d g (.l (xs.map enc))))),(lo,.v (.c (.d g2 (.i .i64 l))))],[],.v (.c (.d g (.l ((xs.drop l.toNat).map enc)))),[]⟩:=by
 simp only[eF,decide_eq_true_eq] at H
 have:=cdl (P:=P) (N:=N) (d:=d) (ty:=ty) (ps:=ps) (af:=af) (gd:=gd) (ob:=ob) (nx:=nx) (t:=t) (e:=e) (sz:=sz) (by_:=by_) hx hl hN (Je henc xs) H.1 (by simp_all)
 simp_all
end
def toV:D->Value
 | .i k n=>.int k n
 | .b b=>.bool b
 | .str s=>.string s
 | .l _=>.slice none 0 0
 | .k _ _ _=>.slice none 0 0
def Xl:D->D->Bool
 | .i _ a,.i _ b=>eqB a b
 | .b a,.b b=>a==b
 | .str a,.str b=>strB a b
 |_,_=>false
def wa:List D->List D->Bool
 |x::xs,y::ys=>Xl x y&&wa xs ys
 |_,_=>true
def shB:List Sh->List D->Bool
 |[],[]=>true
 | .i k::ss,.i k' _::xs=>decide (k=k')&&shB ss xs
 | .b::ss,.b _::xs=>shB ss xs
 | .str::ss,.str _::xs=>shB ss xs
 |_,_=>false
theorem rX:∀{ss:List Sh} {xs:List D},shB ss xs=true->xs.length=ss.length
 |[],[],_=>rfl
 | .i k::ss,.i k' _::xs,h=>by simp[shB] at h;simp[rX h.2]
 | .b::ss,.b _::xs,h=>by simp[shB] at h;simp[rX h]
 | .str::ss,.str _::xs,h=>by simp[shB] at h;simp[rX h]
 |[],_::_,h=>by simp[shB] at h
 | .i _::_,[],h=>by simp[shB] at h
 | .i _::_,.b _::_,h=>by simp[shB] at h
 | .i _::_,.str _::_,h=>by simp[shB] at h
 | .i _::_,.l _::_,h=>by simp[shB] at h
 | .i _::_,.k _ _ _::_,h=>by simp[shB] at h
 | .b::_,[],h=>by simp[shB] at h
 | .b::_,.i _ _::_,h=>by simp[shB] at h
 | .b::_,.str _::_,h=>by simp[shB] at h
 | .b::_,.l _::_,h=>by simp[shB] at h
 | .b::_,.k _ _ _::_,h=>by simp[shB] at h
 | .str::_,[],h=>by simp[shB] at h
 | .str::_,.i _ _::_,h=>by simp[shB] at h
 | .str::_,.b _::_,h=>by simp[shB] at h
 | .str::_,.l _::_,h=>by simp[shB] at h
 | .str::_,.k _ _ _::_,h=>by simp[shB] at h
 | .l _::_,[],h=>by simp[shB] at h
 | .l _::_,_::_,h=>by simp[shB] at h
theorem wK:∀{s1 s2:List Sh} {xs:List D},shB (s1++s2) xs=true->shB s1 (xs.take s1.length)=true/\shB s2 (xs.drop s1.length)=true
 |[],s2,xs,h=>by simpa [shB] using h
 | .i k::s1,s2,.i k' n::xs,h=>by
  simp only[aav,shB,hV] at h
  obtain⟨h1,h2⟩:=wK h.2
  exact⟨by simp only[aak,aaD,shB,hV];simp_all,by simp_all⟩
 | .b::s1,s2,.b n::xs,h=>by
  simp only[aav,shB] at h
  obtain⟨h1,h2⟩:=wK h
  exact⟨by simp only[aak,aaD,shB];exact h1,by simp_all⟩
 | .str::s1,s2,.str n::xs,h=>by
  simp only[aav,shB] at h
  obtain⟨h1,h2⟩:=wK h
  exact⟨by simp only[aak,aaD,shB];exact h1,by simp_all⟩
 | .i _::_,_,[],h=>by simp[shB] at h
 | .i _::_,_,.b _::_,h=>by simp[shB] at h
 | .i _::_,_,.str _::_,h=>by simp[shB] at h
 | .i _::_,_,.l _::_,h=>by simp[shB] at h
 | .i _::_,_,.k _ _ _::_,h=>by simp[shB] at h
 | .b::_,_,[],h=>by simp[shB] at h
 | .b::_,_,.i _ _::_,h=>by simp[shB] at h
 | .b::_,_,.str _::_,h=>by simp[shB] at h
 | .b::_,_,.l _::_,h=>by simp[shB] at h
 | .b::_,_,.k _ _ _::_,h=>by simp[shB] at h
 | .str::_,_,[],h=>by simp[shB] at h
 | .str::_,_,.i _ _::_,h=>by simp[shB] at h
 | .str::_,_,.b _::_,h=>by simp[shB] at h
 | .str::_,_,.l _::_,h=>by simp[shB] at h
 | .str::_,_,.k _ _ _::_,h=>by simp[shB] at h
 | .l _::_,_,[],h=>by simp[shB] at h
 | .l _::_,_,_::_,h=>by simp[shB] at h
theorem Ew:∀(n:Nat) (xs ys:List D),xs.length=ys.length->wa xs ys=(wa (xs.take n) (ys.take n)&&wa (xs.drop n) (ys.drop n))
 |0,xs,ys,_=>by simp[wa]
 |n+1,[],[],_=>by simp[wa]
 |n+1,x::xs,y::ys,h=>by
  simp only[aaD,aa8,wa]
  rw[Ew n xs ys (by simpa using h),Bool.and_assoc]
 |n+1,[],_::_,h=>by simp at h
 |n+1,_::_,[],h=>by simp at h
def u6 (xs:List D):Array Value:=(xs.map toV).toArray
def EqS (P:Program) (t:TypeId) (s:Sh):Prop:=∀(d:Nat) (w:World) (x y:D),shB [s] [x]=true->shB [s] [y]=true->(Op.equalIn (d+1) t (toV x) (toV y)).run P w= .ok (Xl x y) w
def EqA (P:Program) (k:Nat) (t:TypeId) (ss:List Sh):Prop:=∀(d:Nat) (w:World) (xs ys:List D),k<=d->shB ss xs=true->shB ss ys=true->(Op.equalIn d t (.agg (u6 xs)) (.agg (u6 ys))).run P w= .ok (wa xs ys) w
def EqF (P:Program) (k:Nat) (o:Nat) (fs:List Field) (ss:List Sh):Prop:=∀(d:Nat) (w:World) (X Y:List D),k<=d->shB ss (X.drop o)=true->shB ss (Y.drop o)=true->(Op.eqFields d (u6 X) (u6 Y) fs).run P w= .ok (wa (X.drop o) (Y.drop o)) w
theorem eE {k:IntKind} (h:P.underlying t=some (.int k)):EqS P t (.i k):=by
 intro d w x y hx hy
 cases x<;>simp[shB] at hx
 cases y<;>simp[shB] at hy
 subst hx;subst hy
 rw[toV,toV,run_equalIn_int w d t _ k _ _ h]
 simp[Xl,eqB,OC]
theorem pS {o:Nat}:EqF P k o [] []:=by
 intro d w X Y hd hx hy
 have h1:=rX hx
 have h2:=rX hy
 rw[aa4.1 h1,aa4.1 h2]
 rfl
theorem Wm {X:List D} {o:Nat} (h:X.drop o=x::r):(u6 X)[o]?=some (toV x):=by
 have:X[o]?=some x:=by
  have:=aaP (xs:=X) (i:=o) (j:=0)
  rw[h] at this
  simpa using this.symm
 simp[u6,this]
theorem iu  {o:Nat} {f:Field} {fs:List Field} {s:Sh}  (ho:f.offset=o) (hn:f.name≠ "_") (hs:jw P f.type) (he:EqS P f.type s) (h:EqF P (k+1) (o+1) fs ss):EqF P (k+1) o (f::fs) (s::ss):=by
 intro d w X Y hd hx hy
 obtain⟨d,rfl⟩:∃d',d=d'+1:=⟨d-1,by omega⟩
 have l1:=rX hx
 have l2:=rX hy
 cases hX:X.drop o with
 |nil=>simp_all
 |cons x X'=>
  cases hY:Y.drop o with
  |nil=>simp_all
  |cons y Y'=>
   rw[hX] at hx;rw[hY] at hy
   have a1:=wK (s1:=[s]) (s2:=ss) hx
   have a2:=wK (s1:=[s]) (s2:=ss) hy
   simp only[aak,List.length_nil,aaj,aaD,List.take_zero,aa8,aa2] at a1 a2
   have e1:X.drop (o+1)=X':=by rw[<-aaK,hX];rfl
   have e2:Y.drop (o+1)=Y':=by rw[<-aaK,hY];rfl
   have ih:=h (d+1) w X Y hd (by simp_all) (by simp_all)
   simp only[Op.eqFields,hn,ne_eq,not_false_eq_true,if_true,Sem.run_bind,part,hs.h,Result.andThen_ok,ho,Wm hX,Wm hY,Sem.run_pure,Bool.false_eq_true,if_false,he d w x y a1.1 a2.1]
   rw[wa,<-e1,<-e2]
   cases hq:Xl x y
   .simp
   simp_all
theorem YG {X:List D} {o:Nat}:(u6 X).extract o (o+n)=u6 ((X.drop o).take n):=by
 apply aaS
 simp[u6,aa3,aaZ,List.extract_eq_take_drop]
theorem TS  {k' o:Nat} {f:Field} {fs:List Field} {s1:List Sh} (ho:f.offset=o) (hn:f.name≠ "_") (hs:g7 P f.type n) (hl:s1.length=n) (hk:k'<=k) (he:EqA P k' f.type s1) (h:EqF P k (o+n) fs ss):EqF P k o (f::fs) (s1++ss):=by
 intro d w X Y hd hx hy
 have l1:=rX hx
 have l2:=rX hy
 have a1:=wK hx
 have a2:=wK hy
 rw[hl] at a1 a2
 have ih:=h d w X Y hd (by simp_all) (by simp_all)
 obtain⟨i,hi,hin⟩:=hs.n
 simp only[Op.eqFields,hn,ne_eq,not_false_eq_true,if_true,Sem.run_bind,part,hs.h,Result.andThen_ok,ho,eW hi,hin,YG,Sem.run_pure,he d w _ _ oaa a1.1 a2.1]
 rw[Ew n (X.drop o) (Y.drop o) oaa,aaK,aaK]
 cases hq:wa ((X.drop o).take n) ((Y.drop o).take n)
 .simp
 simp_all
theorem je {fs:Array Field} (hu:P.underlying t=some (.struct fs)) (hp:P.stoodInHeld t=false) (h:EqF P k 0 fs.toList ss):EqA P (k+1) t ss:=by
 intro d w xs ys hd hx hy
 obtain⟨d,rfl⟩:∃d',d=d'+1:=⟨d-1,by omega⟩
 have hf:P.fieldsOf t=fs:=by simp[Program.fieldsOf,hu]
 rw[run_equalIn_struct w d t _ _ (by simp_all) hp,hf]
 have:=h d w xs ys oaa (by simp_all) (by simp_all)
 simp_all
class z0 (P:Program) (t:TypeId) (ss:outParam (List Sh)):Prop where
 h:∃k,k<=10000/\EqA P k t ss
 g:P.eqGuardType P.depth t=false
def P3:C->Option D
 | .d _ (.i k n)=>some (.i k n)
 | .d _ (.b b)=>some (.b b)
 | .d _ (.str s)=>some (.str s)
 |_=>none
def qY:List C->Option (List D)
 |[]=>some []
 |c::cs=>match P3 c,qY cs with
  |some x,some xs=>some (x::xs)
  |_,_=>none
theorem VN {c:C} (h:P3 c=some x) (hc:cvC E w c u):u=toV x:=by
 cases c with
 |d g y=>cases y<;>simp[P3] at h<;>subst h<;>simpa [cvC,rdD,toV] using hc
 |_=>simp[P3] at h
theorem vB {E:Env} {w:World}:∀{cs:List C} {xs:List D} {us:Lae},qY cs=some xs->CV E w cs us->us=xs.map toV
 |[],xs,[],h,_=>by simp[qY] at h;subst h;rfl
 |[],_,_::_,_,hc=>hc.elim
 |c::cs,xs,[],h,hc=>hc.elim
 |c::cs,xs,u::us,h,hc=>by
  simp only[qY] at h
  split at h
  .rename_i x xs' h1 h2
   simp at h;subst h
   rw[aau,VN h1 hc.1,vB h2 hc.2]
  cases h
section
variable {P:Program} {N:Nat} {d:Tmp} {ty:TypeId} {ps:String} {af:Array Edge} {gd:Option (Nat×Bool)} {x y z:Operand} {sl:Lab} {ob:Laa} {nx:Nat}
theorem PQ [h:z0 P t ss] {as bs:List D} (h1:shB ss as=true) (h2:shB ss bs=true) (w:World) (o:BinOp) (ho:o= .eql\/o= .neq) (x y:Operand):
 ((do eqGuard o t x y (.agg (u6 as)) (.agg (u6 bs));binOp o t (.agg (u6 as)) (.agg (u6 bs))):Sem Value).run P w= .ok (.bool (if o= .eql then wa as bs else !wa as bs)) w:=by
 obtain⟨k,hk,he⟩:=h.h
 have:=he 10000 w as bs hk h1 h2
 rcases ho with rfl|rfl
 .simp[Sem.run_bind,run_eqGuard_agg w _ t x y _ _ h.g,run_eql_struct,this]
 simp[Sem.run_bind,run_eqGuard_agg w _ t x y _ _ h.g,run_neq_struct,this]
theorem n_seq [h:z0 P t ss] {ds:List C} {as bs:List D} (ha:qY cs=some as) (hb:qY ds=some bs) (h1:shB ss as=true) (h2:shB ss bs=true):
 AWN P ⟨some d,.binOp .eql t x y t',ty,ps,af,gd⟩ [(x,.v (.agg cs)),(y,.v (.agg ds))] [] (tB (wa as bs)) []:=
 cE λE ac w hn _=>by
  obtain⟨a1,hu1,hc1⟩:=hn x _ (.head _)
  obtain⟨a2,hu2,hc2⟩:=hn y _ (.tail _ (.head _))
  have e1:a1=u6 as:=by apply aaS;simpa [u6] using vB ha hc1
  have e2:a2=u6 bs:=by apply aaS;simpa [u6] using vB hb hc2
  subst e1;subst e2
  refine⟨_,?_,rfl⟩
  have:=PQ (P:=P) (t:=t) h1 h2 w .eql (.inl rfl) x y
  simp only[Sem.run_bind,if_true] at this
  simp only[execOp,hu1,hu2,Sem.run_bind]
  simp_all
theorem n_sne [h:z0 P t ss] {ds:List C} {as bs:List D} (ha:qY cs=some as) (hb:qY ds=some bs) (h1:shB ss as=true) (h2:shB ss bs=true):
 AWN P ⟨some d,.binOp .neq t x y t',ty,ps,af,gd⟩ [(x,.v (.agg cs)),(y,.v (.agg ds))] [] (tB (!wa as bs)) []:=
 cE λE ac w hn _=>by
  obtain⟨a1,hu1,hc1⟩:=hn x _ (.head _)
  obtain⟨a2,hu2,hc2⟩:=hn y _ (.tail _ (.head _))
  have e1:a1=u6 as:=by apply aaS;simpa [u6] using vB ha hc1
  have e2:a2=u6 bs:=by apply aaS;simpa [u6] using vB hb hc2
  subst e1;subst e2
  refine⟨_,?_,rfl⟩
  have:=PQ (P:=P) (t:=t) h1 h2 w .neq (.inr rfl) x y
  simp only[Sem.run_bind,reduceCtorEq,if_false] at this
  simp only[execOp,hu1,hu2,Sem.run_bind]
  simp_all
theorem qe {ds:List C} {as bs:List D} [z0 P t ss] (hx:opT sl x= .v (.agg cs)) (hy:opT sl y= .v (.agg ds)) (hN:nlt d N=true) (ha:qY cs=some as) (hb:qY ds=some bs) (h1:shB ss as=true) (h2:shB ss bs=true):
 NS0 P N ⟨some d,.binOp .eql t x y t',ty,ps,af,gd⟩ sl ob nx d (tB (wa as bs)) ⟨d,[(x,.v (.agg cs)),(y,.v (.agg ds))],[],tB (wa as bs),[]⟩:=dS (st:=⟨sl,ob,nx⟩) (n_seq ha hb h1 h2) rfl hN ⟨hx,hy,trivial⟩ trivial rfl
theorem qn {ds:List C} {as bs:List D} [z0 P t ss] (hx:opT sl x= .v (.agg cs)) (hy:opT sl y= .v (.agg ds)) (hN:nlt d N=true) (ha:qY cs=some as) (hb:qY ds=some bs) (h1:shB ss as=true) (h2:shB ss bs=true):
 NS0 P N ⟨some d,.binOp .neq t x y t',ty,ps,af,gd⟩ sl ob nx d (tB (!wa as bs)) ⟨d,[(x,.v (.agg cs)),(y,.v (.agg ds))],[],tB (!wa as bs),[]⟩:=dS (st:=⟨sl,ob,nx⟩) (n_sne ha hb h1 h2) rfl hN ⟨hx,hy,trivial⟩ trivial rfl
end
def cpL (els ys:List α):List α:=ys.take els.length++els.drop ys.length
theorem OF {β:Type} (f:α->β) (els ys:List α):cpL (els.map f) (ys.map f)=(cpL els ys).map f:=by simp[cpL,aaZ,aa3]
@[simp] theorem cpL_len (els ys:List α):(cpL els ys).length=els.length:=by simp[cpL];omega
section
variable {P:Program} {N:Nat} {d:Tmp} {ty:TypeId} {ps:String} {af:Array Edge} {gd:Option (Nat×Bool)} {x y z:Operand} {st:St}
theorem zL {b:Nat} {us:Lae} (hn:us.length=n) (h:∀(j:Nat) (u:Value),us[j]?=some u->w.cell? ⟨b,k+j,none⟩=some u):
 (loadCells ⟨b,k,none⟩ n).run P w= .ok us.toArray w:=by
 subst hn
 have:=lc (P:=P) (b:=b) (k:=k) (w:=w) us 0 #[] (λj u hj=>by simp_all)
 simpa [loadCells] using this
theorem UZ {o:Nat} {c:C} [ht:ei P t e sz by_] (hd:d<N)
 (hx:opT st.sl x= .v (.c (.w o n))) (hy:opT st.sl y= .v (.c c)) (ho:go st.ob o=some (.row e sz els g true)) (hs:Src st.ob c ys gy)
 (hn:els.length=n) (hsz:∀e∈ys,e.length=sz):
 AWO P N ⟨some d,.call ⟨.builtin .copy,#[x,y],#[t,t]⟩,ty,ps,af,gd⟩ st ⟨(d,.any)::st.sl,(o,.row e sz (cpL els ys) (g&&gy) true)::st.ob,st.nx⟩:=by
 intro cx E a w hR
 have h1:=hR.op x;rw[hx] at h1
 have h2:=hR.op y;rw[hy] at h2
 obtain⟨b,cc,hr,hu⟩:=h1
 obtain⟨b',c',arr,hr',hh,ha,hlc,hmx,hes,hrd,hFm,_⟩:=hR.obs o _ ho
 rw[hr] at hr';cases hr'
 have hF:=hFm rfl
 obtain⟨A,k,hv,hyk,hA⟩:=Oc hR hs h2
 obtain⟨ii,zz,i1,i2,i3,i4,i5⟩:=ht.i
 obtain⟨m,hm⟩:∃m,m=Nat.min ys.length n:=⟨_,rfl⟩
 have hm1:m<=ys.length:=by rw[hm];exact Nat.min_le_left _ _
 have hm2:m<=n:=by rw[hm];exact Nat.min_le_right _ _
 have hcp:cpL els ys=ys.take m++els.drop m:=by
  unfold cpL
  rw[hn]
  rcases Nat.le_total ys.length n with h|h
  .grind
  simp_all
 have hsrc:∃news:Lae,news.length=m*sz/\(∀u∈news,u.oneCell'=true)/\(∀(j:Nat) (xd:D),(ys.take m).flatten[j]?=some xd->∃u,news[j]?=some u/\rdD w (E.H gy) xd u)/\
  (Builtin.firstCells sz m (.slice A ys.length k)).run P w= .ok news.toArray w:=by
  rcases hA with h0|⟨b2,off,rfl,hrd2⟩
  .subst h0
   have hm0:m=0:=by simpa using hm1
   refine⟨[],by simp[hm0],by simp,by simp,?_⟩
   cases A with
   |none=>rfl
   |some ad=>simp[Builtin.firstCells,hm0,loadCells,loadCellsFrom]
  obtain⟨us,q1,q2,q3,q4⟩:=vw (fw.1 (pD m hrd2))
  have ql:us.length=m*sz:=by
   rw[q1,gE (λe he=>hsz e (aas he)),aaM,aaG hm1]
  refine⟨us,ql,q3,q4,?_⟩
  simp only[Builtin.firstCells]
  exact zL ql (λj u hj=>by have:=q2 j u hj;rwa [vQ] at this)
 obtain⟨news,n1,n2,n3,n4⟩:=hsrc
 have hmul:m*sz<=arr.size:=by rw[ha];exact aaO _ oaa
 have hst:=run_storeCells_at (P:=P) b 0 e news 0 arr w hh (by simp;omega) n2
 have hrun:(Builtin.copy_ #[t,t] ty #[.slice (some ⟨b,0,none⟩) n cc,.slice A ys.length k]).run P w= .ok (goInt m) (w.setRow b (news++arr.toList.drop (m*sz)).toArray):=by
  simp only[aaj,n1] at hst
  simp only[Builtin.copy_]
  simp[underlying,ht.u,Builtin.lenOf,eW i1,i2]
  rw[<-hm,n4]
  simp[hst]
 unfold Oper.wp
 simp only[execOp,resolve,invoke,builtin,Sem.run_bind,Sem.run_pure,Result.andThen_ok,aaV,aau,aaJ,hu,hv,hrun,Oper.upon_value]
 have hk:=kc (cs:=(news++arr.toList.drop (m*sz)).toArray) (w:=w) hR.ok hr hF
 have hall:∀e'∈cpL els ys,e'.length=sz:=λe' he'=>by
  grind
 have hrel:=ww (ob':=.row e sz (cpL els ys) (g&&gy) true) (cs:=(news++arr.toList.drop (m*sz)).toArray) hR hr hF ⟨b,cc,_,hr,i7 _ hh,by simp_all,by simp_all,hmx,hall,by
  rw[fw]
  refine oI λj xd hj=>?_
  rw[aaj,eS (i7 _ hh),aaT]
  rw[hcp,aaL] at hj
  have hfl:(ys.take m).flatten.length=m*sz:=by rw[gE (λe he=>hsz e (aas he)),aaM,aaG hm1]
  by_cases hjn:j<m*sz
  .rw[aaq oaa] at hj
   obtain⟨u,u1,u2⟩:=n3 _ _ hj
   exact⟨u,by grind,cS (hk.heap _) (hk.H _) _ _ (pj hR.ok u2 (by simp))⟩
  rw[aao oaa,hfl] at hj
  have hjd:els.flatten[j]?=some xd:=by
   have e1:els.flatten=(els.take m).flatten++(els.drop m).flatten:=by rw[<-aaL,List.take_append_drop]
   have e2:(els.take m).flatten.length=m*sz:=by rw[gE (λe he=>hes e (aas he)),aaM,aaG oaa]
   rw[e1,aao oaa,e2];exact hj
  obtain⟨u,u1,u2⟩:=nq (fw.1 hrd) hjd
  rw[aaj,eS hh] at u1
  refine⟨u,?_,cS (hk.heap _) (hk.H _) _ _ (pj hR.ok u2 (by simp_all))⟩
  rw[aao oaa,n1,aaP,show m*sz+(j-m*sz)=j from by omega]
  simp_all,λ_=>hF,λh=>by cases h⟩
 exact⟨E,hrel.putAny hd _⟩
theorem cpT {enc:α->List D} {ob:Laa} {o:Nat} {ys zs:List α} {zd:Lad} {c:C} [ei P t e sz by_] (hzd:zs.map enc=zd) (henc:∀a,(enc a).length=sz) (hn:ys.length=n) (hs:Src ob c zd gy) (hd:nlt d N=true)
 (hx:opT sl x= .v (.c (.w o n))) (hy:opT sl y= .v (.c c)) (ho:go ob o=some (.row e sz (ys.map enc) g true)) (hg:(g&&gy)=gg):
 AWO P N ⟨some d,.call ⟨.builtin .copy,#[x,y],#[t,t]⟩,ty,ps,af,gd⟩ ⟨sl,ob,nx⟩ ⟨(d,.any)::sl,(o,.row e sz ((cpL ys zs).map enc) gg true)::ob,nx⟩:=by
 subst hzd;subst hg
 have:=UZ (P:=P) (N:=N) (st:=⟨sl,ob,nx⟩) (d:=d) (ty:=ty) (ps:=ps) (af:=af) (gd:=gd) (t:=t) (e:=e) (sz:=sz) (by_:=by_) (dt hd) hx hy ho hs (by simp_all) (Je henc zs)
 rwa [OF] at this
def tM:List D->Bool
 |[]=>true
 | .l _::_=>false
 |_::xs=>tM xs
theorem A0 {w:World} {F F':Nat->Prop}:∀{e:List D} {b k:Nat},tM e=true->rdL w F e b k->rdL w F' e b k
 |[],_,_,_,_=>by simp[rdL]
 | .i k' n::xs,b,k,h,hr=>by
  rw[rdL] at hr ⊢
  exact⟨by obtain⟨u,h1,h2⟩:=hr.1;exact⟨u,h1,by simpa [rdD] using h2⟩,A0 (by simpa [tM] using h) hr.2⟩
 | .b n::xs,b,k,h,hr=>by
  rw[rdL] at hr ⊢
  exact⟨by obtain⟨u,h1,h2⟩:=hr.1;exact⟨u,h1,by simpa [rdD] using h2⟩,A0 (by simpa [tM] using h) hr.2⟩
 | .str n::xs,b,k,h,hr=>by
  rw[rdL] at hr ⊢
  exact⟨by obtain⟨u,h1,h2⟩:=hr.1;exact⟨u,h1,by simpa [rdD] using h2⟩,A0 (by simpa [tM] using h) hr.2⟩
 | .k _ _ _::xs,b,k,h,hr=>by
  rw[rdL] at hr ⊢
  exact⟨by obtain⟨u,h1,h2⟩:=hr.1;exact⟨u,h1,by simpa [rdD] using h2⟩,A0 (by simpa [tM] using h) hr.2⟩
 | .l _::_,_,_,h,_=>by simp[tM] at h
theorem yU {w:World} {F F':Nat->Prop}:∀{es:Lad} {b k:Nat},(∀e∈es,tM e=true)->rdLL w F es b k->rdLL w F' es b k
 |[],_,_,_,_=>by simp[rdLL]
 |e::es,b,k,h,hr=>by
  rw[rdLL] at hr ⊢
  exact⟨A0 (h e (by simp)) hr.1,yU (λx hx=>h x (by simp[hx])) hr.2⟩
theorem sB {enc:α->List D} {ob:Laa} {o t:Nat} {ys:List α} (ho:go ob o=some (.row t sz (ys.map enc) g true):=by exact rfl) (hf:∀a,tM (enc a)=true:=by exact λ_=>rfl):
 dQ N ⟨sl,ob,nx⟩ ⟨sl,(o,.row t sz (ys.map enc) true true)::ob,nx⟩:=by
 intro cx E a w hR
 refine⟨E,hR.ok,hR.dom,λl x hl=>?_,hR.sl,hR.dfr,hR.size,hR.td⟩
 by_cases hlo:o=l
 .subst hlo
  rw[cI] at hl;cases hl
  obtain⟨b,c,arr,h1,h2,h3,h4,h5,h6,h7,h8,h9⟩:=hR.obs _ _ ho
  exact⟨b,c,arr,h1,h2,h3,h4,h5,h6,yU (λe he=>by grind) h7,h8,λh=>by cases h⟩
 rw[b7 _ _ hlo] at hl;exact hR.obs l x hl
end
end Go.AM
